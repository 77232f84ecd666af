/- revetmentlaw18.ModelPlays answers true: for all settings and commands. No condition. -/
import Derived.Test.YtgckcaoncjhgbaaMdPlays
namespace Go.Proofs.Ytgckcaoncjhgbaa
open Go.RowKit Go.Proofs.Ytgckcaoncjhgbaa.PL Go.Proofs.YtgckcaoncjhgbaaW.PrintWords Go.Proofs.YtgckcaoncjhgbaaW.PrintLast
set_option linter.unusedVariables false
set_option linter.unusedSimpArgs false
namespace PL
/-- The law as a function: true. -/
def revetmentlaw18_ModelPlays.f (id m u b c z s me o a l : Int) (xs : List S65) : Option Bool := some true
theorem revetmentlaw18_ModelPlays.calls (id m u b c z s me o a l : Int) (A1 : Option Addr) (c1 : Nat) (xs : List S65) (w : World) (hr1 : Kd.C k65 w A1 xs.length xs) (hc1 : xs.length ≤ c1) (h : revetmentlaw18_ModelPlays.f id m u b c z s me o a l xs = some true) :
    Calls Try.prog 5 #[.agg #[.int .i64 id, .int .i64 m, .int .i64 u, .int .i64 b, .int .i64 c, .int .i64 z, .int .i64 s, .int .i64 me, .int .i64 o, .int .i64 a, .int .i64 l], .slice A1 xs.length c1] w fun e w' => e = .returned (.bool true) ∧ Below w.heap.size w w' :=
  plays18_any id m u b c z s me o a l A1 c1 xs w hr1 hc1
end PL
theorem Geo.modelPlays_true (id m u b c z s me o a l : Int) (xs : List S65) : revetmentlaw18_ModelPlays.f id m u b c z s me o a l xs = some true := rfl
end Go.Proofs.Ytgckcaoncjhgbaa
