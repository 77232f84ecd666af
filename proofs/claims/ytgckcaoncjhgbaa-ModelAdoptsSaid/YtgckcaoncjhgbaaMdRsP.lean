/- The document's answer to a command, opened. -/
import Derived.WalkKit
import Derived.WalkSpells
import Derived.WalkLawsBesides
import Derived.Lib.Hide
import Derived.Test.YtgckcaoncjhgbaaFGw
import Derived.Test.YtgckcaoncjhgbaaFMa
import Derived.Test.YtgckcaoncjhgbaaFMc
namespace Go.Proofs.Ytgckcaoncjhgbaa
open Go.RowKit Go.Proofs.Ytgckcaoncjhgbaa.PL Go.Proofs.YtgckcaoncjhgbaaW.PrintWords Go.Proofs.YtgckcaoncjhgbaaW.PrintLast
set_option linter.unusedVariables false
set_option linter.unusedSimpArgs false
attribute [local go_sem] List.getElem?_toArray List.getElem?_cons_succ List.getElem?_cons_zero mL tL cL xL rL oL
/-- The document's answer to a command, opened. -/
theorem RsP_open {id m u b c z s me o a l : Int} {A1 A2 A3 : Option Addr} {n1 k1 n2 k2 n3 k3 : Nat} {D N : Mdl} {E : Int} {t : ByteArray} {zn : S59} {w : World} {e : Ending} {w' : World} (h : RsP id m u b c z s me o a l (.slice A1 n1 k1) (.slice A2 n2 k2) (.slice A3 n3 k3) D (N, E, t, zn) w e w') :
    ∃ (B1 : Option Addr) (m1 j1 : Nat) (B2 : Option Addr) (m2 j2 : Nat) (B3 : Option Addr) (m3 j3 : Nat), e = .returned (.tuple #[modV id m u b c z s me o a l (.slice B1 m1 j1) (.slice B2 m2 j2) (.slice B3 m3 j3), .int .i64 E, .string t, zoV zn]) ∧ MD w.heap.size w' (.slice A1 n1 k1) (.slice A2 n2 k2) (.slice A3 n3 k3) D (.slice B1 m1 j1) (.slice B2 m2 j2) (.slice B3 m3 j3) N ∧ Below w.heap.size w w' := by
  obtain ⟨x', y', q', he, hM, hb⟩ := h
  obtain ⟨B1, m1, j1, rfl⟩ := RowD_shape hM.1
  obtain ⟨B2, m2, j2, rfl⟩ := RowD_shape hM.2.1
  obtain ⟨B3, m3, j3, rfl⟩ := RowD_shape hM.2.2
  exact ⟨_, _, _, _, _, _, _, _, _, he, hM, hb⟩
end Go.Proofs.Ytgckcaoncjhgbaa
