/- revetmentlaw17.LzoneLimits answers true: for all settings and calls. No condition. -/
import Derived.Test.YtlellnmpogimlaaLzLimits
import Derived.Test.YtlellnmpogimlaaLzInvLaw
namespace Go.Proofs.Ytlellnmpogimlaa
open Go.RowKit Go.Proofs.Ytlellnmpogimlaa.PL Go.Proofs.YtlellnmpogimlaaW.PrintWords Go.Proofs.YtlellnmpogimlaaW.PrintLast
set_option linter.unusedVariables false
set_option linter.unusedSimpArgs false
namespace PL
/-- The law as a function: true. -/
def revetmentlaw17_LzoneLimits.f (id m u b c z s me o a l : Int) (xs : List S47) : Option Bool := some true
theorem revetmentlaw17_LzoneLimits.calls (id m u b c z s me o a l : Int) (A1 : Option Addr) (c1 : Nat) (xs : List S47) (w : World) (hr1 : Kd.C k47 w A1 xs.length xs) (hc1 : xs.length ≤ c1) (h : revetmentlaw17_LzoneLimits.f id m u b c z s me o a l xs = some true) :
    Calls Try.prog 6 #[.agg #[.int .i64 id, .int .i64 m, .int .i64 u, .int .i64 b, .int .i64 c, .int .i64 z, .int .i64 s, .int .i64 me, .int .i64 o, .int .i64 a, .int .i64 l], .slice A1 xs.length c1] w fun e w' => e = .returned (.bool true) ∧ Below w.heap.size w w' :=
  limits_gen id m u b c z s me o a l A1 c1 xs w hr1 hc1 (Geo.Inv id m u b c z s me o a l) (fun h => Geo.inv_new h) (fun L x h e => Geo.inv_does h e) (fun L h => h.2)
end PL
theorem Geo.lzoneLimits_true (id m u b c z s me o a l : Int) (xs : List S47) : revetmentlaw17_LzoneLimits.f id m u b c z s me o a l xs = some true := rfl
end Go.Proofs.Ytlellnmpogimlaa
