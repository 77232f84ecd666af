/- revetmentref29.There; revetmentref25.Rest. -/
import Derived.WalkKit
import Derived.WalkSpells
import Derived.WalkLawsBesides
import Derived.Lib.Hide
import Derived.Test.YtgckcaoncjhgbaaFGw
import Derived.Test.YtgckcaoncjhgbaaFJa
import Derived.Test.YtgckcaoncjhgbaaFMe
import Derived.Test.YtgckcaoncjhgbaaRef
namespace Go.Proofs.Ytgckcaoncjhgbaa
open Go.RowKit Go.Proofs.Ytgckcaoncjhgbaa.PL Go.Proofs.YtgckcaoncjhgbaaW.PrintWords Go.Proofs.YtgckcaoncjhgbaaW.PrintLast
set_option linter.unusedVariables false
set_option linter.unusedSimpArgs false
attribute [local go_sem] List.getElem?_toArray List.getElem?_cons_succ List.getElem?_cons_zero mL tL cL xL rL oL
theorem slc_C {α : Type} {k : Kd α} {w : World} {A : Option Addr} {n c : Nat} {l : List α} (h : SlC k w (.slice A n c) l) : k.C w A l.length l := by
 obtain ⟨A', c', e, _, hC⟩ := h
 injection e with e1 e2 e3
 subst e1; exact hC
theorem slc_some {α : Type} {k : Kd α} {w : World} {A : Option Addr} {n c : Nat} {l : List α} (h : SlC k w (.slice A n c) l) (hp : 0 < l.length) : (∃ ad, A = some ad) /\ n = l.length := by
 obtain ⟨A', c', e, _, hC⟩ := h
 injection e with e1 e2 e3
 obtain ⟨ad, ea, _⟩ := hC.2.2 hp
 exact ⟨⟨ad, e1.trans ea⟩, e2⟩
set_option maxHeartbeats 4000000 in
set_option maxRecDepth 100000 in
theorem rthere_any (id m u b c z s me o a l : Int) (x y q : Value) (D : Mdl) (z_ : Int) (w : World) (h : MC w x y q D) : Calls Try.prog 35 #[modV id m u b c z s me o a l x y q, .int .i64 z_] w fun e w' => e = .returned (.bool (decide (0 <= z_ /\ z_ < (D.T.length : Int)))) /\ Below w.heap.size w w' := by
 obtain ⟨⟨A1, k1, rfl, hk1, hC1⟩, ⟨A2, k2, rfl, hk2, hC2⟩, ⟨A3, k3, rfl, hk3, hC3⟩⟩ := h
 obtain ⟨n1, hn1⟩ : ∃ n, n = D.L.length := ⟨_, rfl⟩
 obtain ⟨n2, hn2⟩ : ∃ n, n = D.T.length := ⟨_, rfl⟩
 obtain ⟨n3, hn3⟩ : ∃ n, n = D.S.length := ⟨_, rfl⟩
 rw [<- hn1, <- hn2, <- hn3]
 clear hC1 hC2 hC3 hk1 hk2 hk3 hn1 hn2 hn3
 have hcs : (¬ 0 <= z_ /\ decide (0 <= z_ /\ z_ < (n2 : Int)) = false) \/ (0 <= z_ /\ decide (0 <= z_ /\ z_ < (n2 : Int)) = decide (z_ < (n2 : Int))) := by
  by_cases h : 0 <= z_
  · exact .inr ⟨h, by simp [h]⟩
  · exact .inl ⟨h, by simp [h]⟩
 generalize decide (0 <= z_ /\ z_ < (n2 : Int)) = V at hcs ⊢
 rcases hcs with ⟨h1, hv⟩ | ⟨h1, hv⟩ <;> (
  have HV := Lib.hid hv; clear hv
  have H := Lib.hid (Pk.start w)
  go_enter Try.func35, Try.ntmps35
  go_wp2_with first
   | (apply bh H 2 (mL id m u b c z s me o a l (.slice A1 n1 k1) (.slice A2 n2 k2) (.slice A3 n3 k3)) 68; clear H; intro gM W1 H; obtain ⟨-, cM⟩ := n1_ H)
  go_ret
  refine ⟨?_, H.out.below⟩
  rw [HV.out]; try rfl)
set_option maxHeartbeats 4000000 in
set_option maxRecDepth 100000 in
theorem rrest_any (id m u b c z s me o a l : Int) (n : Int) (fi : Bool) (w : World) : Calls Try.prog 43 #[.agg #[.int .i64 id, .int .i64 m, .int .i64 u, .int .i64 b, .int .i64 c, .int .i64 z, .int .i64 s, .int .i64 me, .int .i64 o, .int .i64 a, .int .i64 l], .int .i64 n, .bool fi] w fun e w' => e = .returned (.int .i64 (if fi = true then 3 else if n = sizeC m u b c z s me o a l then 3 else if n = 0 then 0 else 2)) /\ Below w.heap.size w w' := by
 have hs := fun W => rsize_any id m u b c z s me o a l W
 obtain ⟨V, hV⟩ : ∃ V : Int, V = (if fi = true then 3 else if n = sizeC m u b c z s me o a l then 3 else if n = 0 then 0 else 2) := ⟨_, rfl⟩
 rw [<- hV]
 generalize sizeC m u b c z s me o a l = Z at hs hV
 have hcs : (fi = true /\ V = 3) \/ (fi = false /\ n = Z /\ V = 3) \/ (fi = false /\ ¬ n = Z /\ n = 0 /\ V = 0) \/ (fi = false /\ ¬ n = Z /\ ¬ n = 0 /\ V = 2) := by
  rw [hV]; cases fi
  ·
   by_cases h1 : n = Z
   · simp [h1]
   ·
    by_cases h2 : n = 0
    · subst h2; simp [h1]
    · simp [h1, h2]
  · simp
 have HS := Lib.hid hs; clear hs hV
 rcases hcs with ⟨rfl, hv⟩ | ⟨rfl, h1, hv⟩ | ⟨rfl, h1, h2, hv⟩ | ⟨rfl, h1, h2, hv⟩ <;> (
  have HV := Lib.hid hv; clear hv
  (try have bh1 : (n == Z) = true := beq_iff_eq.mpr h1)
  (try have bh1 : (n == Z) = false := beq_eq_false_iff_ne.mpr h1)
  (try have dh1 : (n != Z) = false := bne_eq_false_iff_eq.mpr h1)
  (try have dh1 : (n != Z) = true := bne_iff_ne.mpr h1)
  (try have Hh1 := Lib.hid h1)
  (try clear h1)
  (try have bh2 : (n == 0) = true := beq_iff_eq.mpr h2)
  (try have bh2 : (n == 0) = false := beq_eq_false_iff_ne.mpr h2)
  (try have dh2 : (n != 0) = false := bne_eq_false_iff_eq.mpr h2)
  (try have dh2 : (n != 0) = true := bne_iff_ne.mpr h2)
  (try have Hh2 := Lib.hid h2)
  (try clear h2)
  have H := Lib.hid (Pk.start w)
  go_enter Try.func43, Try.ntmps43
  go_wp2_with first
   | (apply bh H 3 (cL id m u b c z s me o a l) 23; clear H; intro gC W1 H; obtain ⟨-, cC⟩ := n1_ H)
   | (go_at_call 41; refine (HS.out _).mono ?_; rintro e W2 ⟨rfl, hb⟩; clear cC; replace H := pc H hb; clear hb; obtain ⟨-, cC⟩ := n1_ H)
  go_ret
  refine ⟨?_, H.out.below⟩
  rw [HV.out]; try rfl)
end Go.Proofs.Ytgckcaoncjhgbaa
