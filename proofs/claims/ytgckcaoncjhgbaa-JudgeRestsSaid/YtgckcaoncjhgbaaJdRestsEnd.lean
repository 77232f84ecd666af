/- revetmentlaw29.JudgeRests answers true: for all settings, commands, zones. -/
import Derived.WalkKit
import Derived.WalkSpells
import Derived.WalkLawsBesides
import Derived.Lib.Hide
import Derived.Test.YtgckcaoncjhgbaaFGw
import Derived.Test.YtgckcaoncjhgbaaJdRests
namespace Go.Proofs.Ytgckcaoncjhgbaa
open Go.RowKit Go.Proofs.Ytgckcaoncjhgbaa.PL Go.Proofs.YtgckcaoncjhgbaaW.PrintWords Go.Proofs.YtgckcaoncjhgbaaW.PrintLast
set_option linter.unusedVariables false
set_option linter.unusedSimpArgs false
attribute [local go_sem] List.getElem?_toArray List.getElem?_cons_succ List.getElem?_cons_zero mL tL cL xL rL oL
namespace PL
/-- The law as a function: true. -/
def revetmentlaw29_JudgeRests.f (id m u b c z s me o a l : Int) (xs : List S65) (z_ os ow og n_ : Int) : Option Bool := some true
theorem revetmentlaw29_JudgeRests.calls (id m u b c z s me o a l : Int) (A1 : Option Addr) (c1 : Nat) (xs : List S65) (z_ os ow og n_ : Int) (w : World) (hr1 : Kd.C k65 w A1 xs.length xs) (hc1 : xs.length ≤ c1) (h : revetmentlaw29_JudgeRests.f id m u b c z s me o a l xs z_ os ow og n_ = some true) :
    Calls Try.prog 8 #[.agg #[.int .i64 id, .int .i64 m, .int .i64 u, .int .i64 b, .int .i64 c, .int .i64 z, .int .i64 s, .int .i64 me, .int .i64 o, .int .i64 a, .int .i64 l], .slice A1 xs.length c1, .int .i64 z_, .agg #[.int .i64 os, .int .i64 ow, .int .i64 og], .int .i64 n_] w fun e w' => e = .returned (.bool true) ∧ Below w.heap.size w w' :=
  rests_any id m u b c z s me o a l A1 c1 xs z_ os ow og n_ w hr1 hc1
end PL
theorem Geo.judgeRests_true (id m u b c z s me o a l : Int) (xs : List S65) (z_ os ow og n_ : Int) : revetmentlaw29_JudgeRests.f id m u b c z s me o a l xs z_ os ow og n_ = some true := rfl
end Go.Proofs.Ytgckcaoncjhgbaa
