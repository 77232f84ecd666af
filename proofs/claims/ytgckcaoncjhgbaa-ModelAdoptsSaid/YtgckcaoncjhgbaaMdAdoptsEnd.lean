/- revetmentlaw18.ModelAdopts answers true: for all settings, commands, zones and bytes. No condition. -/
import Derived.Test.YtgckcaoncjhgbaaMdAdopts
namespace Go.Proofs.Ytgckcaoncjhgbaa
open Go.RowKit Go.Proofs.Ytgckcaoncjhgbaa.PL Go.Proofs.YtgckcaoncjhgbaaW.PrintWords Go.Proofs.YtgckcaoncjhgbaaW.PrintLast
set_option linter.unusedVariables false
set_option linter.unusedSimpArgs false
namespace PL
/-- The law as a function: true. -/
def revetmentlaw18_ModelAdopts.f (id m u b c z s me o a l : Int) (xs : List S65) (zi st wp gen : Int) (db : List Int) : Option Bool := some true
theorem revetmentlaw18_ModelAdopts.calls (id m u b c z s me o a l : Int) (A1 : Option Addr) (c1 : Nat) (xs : List S65) (zi st wp gen : Int) (A4 : Option Addr) (c4 : Nat) (db : List Int) (w : World) (hr1 : Kd.C k65 w A1 xs.length xs) (hc1 : xs.length ≤ c1) (hr4 : Kd.C (Kd.int .u8) w A4 db.length db) (hc4 : db.length ≤ c4) (h : revetmentlaw18_ModelAdopts.f id m u b c z s me o a l xs zi st wp gen db = some true) :
    Calls Try.prog 6 #[.agg #[.int .i64 id, .int .i64 m, .int .i64 u, .int .i64 b, .int .i64 c, .int .i64 z, .int .i64 s, .int .i64 me, .int .i64 o, .int .i64 a, .int .i64 l], .slice A1 xs.length c1, .int .i64 zi, .agg #[.int .i64 st, .int .i64 wp, .int .i64 gen], .slice A4 db.length c4] w fun e w' => e = .returned (.bool true) ∧ Below w.heap.size w w' :=
  adopts18_any id m u b c z s me o a l A1 c1 xs w hr1 hc1 zi ⟨st, wp, gen⟩ A4 c4 db hr4 hc4
end PL
theorem Geo.modelAdopts_true (id m u b c z s me o a l : Int) (xs : List S65) (zi st wp gen : Int) (db : List Int) : revetmentlaw18_ModelAdopts.f id m u b c z s me o a l xs zi st wp gen db = some true := rfl
end Go.Proofs.Ytgckcaoncjhgbaa
