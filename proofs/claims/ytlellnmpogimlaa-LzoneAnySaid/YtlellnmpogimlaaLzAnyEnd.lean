/- revetmentlaw17.LzoneAny answers true: for all settings, zones and calls. No condition. -/
import Derived.Test.YtlellnmpogimlaaLzAny
namespace Go.Proofs.Ytlellnmpogimlaa
open Go.RowKit Go.Proofs.Ytlellnmpogimlaa.PL Go.Proofs.YtlellnmpogimlaaW.PrintWords Go.Proofs.YtlellnmpogimlaaW.PrintLast
set_option linter.unusedVariables false
set_option linter.unusedSimpArgs false
namespace PL
/-- The law as a function: true. -/
def revetmentlaw17_LzoneAny.f (id m u b c z s me o a l : Int) (L : List S57) (d i p k : Int) : Option Bool := some true
theorem revetmentlaw17_LzoneAny.calls (id m u b c z s me o a l : Int) (A1 : Option Addr) (c1 : Nat) (L : List S57) (d i p k : Int) (w : World) (hr1 : Kd.C k57 w A1 L.length L) (hc1 : L.length ≤ c1) (h : revetmentlaw17_LzoneAny.f id m u b c z s me o a l L d i p k = some true) :
    Calls Try.prog 5 #[.agg #[.int .i64 id, .int .i64 m, .int .i64 u, .int .i64 b, .int .i64 c, .int .i64 z, .int .i64 s, .int .i64 me, .int .i64 o, .int .i64 a, .int .i64 l], .slice A1 L.length c1, .agg #[.int .i64 d, .int .i64 i, .int .i64 p, .int .i64 k]] w fun e w' => e = .returned (.bool true) ∧ Below w.heap.size w w' :=
  any_walk id m u b c z s me o a l A1 c1 L ⟨d, i, p, k⟩ w hr1 hc1
end PL
theorem Geo.lzoneAny_true (id m u b c z s me o a l : Int) (L : List S57) (d i p k : Int) : revetmentlaw17_LzoneAny.f id m u b c z s me o a l L d i p k = some true := rfl
end Go.Proofs.Ytlellnmpogimlaa
