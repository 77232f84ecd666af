/- lzone.Right: may a table be? With the contracts of conf.Check and conf.Size. -/
import Derived.Test.YtgckcaoncjhgbaaLzRight
import Derived.Test.YtgckcaoncjhgbaaConfCheck
import Derived.Test.YtgckcaoncjhgbaaGoodLaw
import Derived.Test.YtgckcaoncjhgbaaPLx4
namespace Go.Proofs.Ytgckcaoncjhgbaa
open Go.RowKit Go.Proofs.Ytgckcaoncjhgbaa.PL Go.Proofs.YtgckcaoncjhgbaaW.PrintWords Go.Proofs.YtgckcaoncjhgbaaW.PrintLast
set_option linter.unusedVariables false
set_option linter.unusedSimpArgs false
-- conf_Size.calls
theorem sizeC_le {id m u b c z s me o a l : Int} (h : checkC id m u b c z s me o a l = 0) : 2 ≤ sizeC m u b c z s me o a l ∧ sizeC m u b c z s me o a l ≤ 3932160 := by
  obtain ⟨g, hr, hs, hd, hz⟩ := Geo.good h
  rw [hz]; have := g.Z1; have := g.Z2; have := g.R1; omega
theorem rightZ_any (id m u b c z s me o a l : Int) (A0 : Option Addr) (c0 : Nat) (L : List S59) (w : World) (hr0 : Kd.C k59 w A0 L.length L) (hc0 : L.length ≤ c0) :
    Calls Try.prog 21 #[.agg #[.int .i64 id, .int .i64 m, .int .i64 u, .int .i64 b, .int .i64 c, .int .i64 z, .int .i64 s, .int .i64 me, .int .i64 o, .int .i64 a, .int .i64 l, .slice A0 L.length c0]] w fun e w' => e = .returned (.bool (rightZ id m u b c z s me o a l L)) ∧ Below w.heap.size w w' :=
  rightZ_gen id m u b c z s me o a l A0 c0 L w hr0 hc0 (fun w => check_any id m u b c z s me o a l w) fun h => ⟨by have := sizeC_le h; omega, fun w => conf_Size.calls id m u b c z s me o a l _ w (Geo.size_eq id m u b c z s me o a l h)⟩
end Go.Proofs.Ytgckcaoncjhgbaa
