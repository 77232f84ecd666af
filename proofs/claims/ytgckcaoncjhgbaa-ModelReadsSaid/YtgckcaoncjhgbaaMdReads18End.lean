/- revetmentlaw18.ModelReads answers true: for all settings, commands, zones and blocks. No condition. -/
import Derived.Test.YtgckcaoncjhgbaaMdReads18
namespace Go.Proofs.Ytgckcaoncjhgbaa
open Go.RowKit Go.Proofs.Ytgckcaoncjhgbaa.PL Go.Proofs.YtgckcaoncjhgbaaW.PrintWords Go.Proofs.YtgckcaoncjhgbaaW.PrintLast
set_option linter.unusedVariables false
set_option linter.unusedSimpArgs false
namespace PL
/-- The law as a function: true, at every number of a byte. -/
def revetmentlaw18_ModelReads.f (id m u b c z s me o a l : Int) (xs : List S65) (zn p : Int) : Option Bool := if 0 ≤ p ∧ p < 256 then some true else none
theorem revetmentlaw18_ModelReads.calls (id m u b c z s me o a l : Int) (A1 : Option Addr) (c1 : Nat) (xs : List S65) (zn p : Int) (w : World) (hr1 : Kd.C k65 w A1 xs.length xs) (hc1 : xs.length ≤ c1) (h : revetmentlaw18_ModelReads.f id m u b c z s me o a l xs zn p = some true) :
    Calls Try.prog 4 #[.agg #[.int .i64 id, .int .i64 m, .int .i64 u, .int .i64 b, .int .i64 c, .int .i64 z, .int .i64 s, .int .i64 me, .int .i64 o, .int .i64 a, .int .i64 l], .slice A1 xs.length c1, .int .i64 zn, .int .u8 p] w fun e w' => e = .returned (.bool true) ∧ Below w.heap.size w w' := by
  unfold revetmentlaw18_ModelReads.f at h
  by_cases hp : 0 ≤ p ∧ p < 256
  · exact reads18_gen id m u b c z s me o a l A1 c1 xs zn p w hr1 hc1 hp.1 hp.2
  · rw [if_neg hp] at h; cases h
end PL
theorem Geo.modelReads_true (id m u b c z s me o a l : Int) (xs : List S65) (zn p : Int) (m0 : 0 ≤ p) (m1 : p ≤ 255) : revetmentlaw18_ModelReads.f id m u b c z s me o a l xs zn p = some true := by
  unfold revetmentlaw18_ModelReads.f
  rw [if_pos ⟨m0, by omega⟩]
end Go.Proofs.Ytgckcaoncjhgbaa
