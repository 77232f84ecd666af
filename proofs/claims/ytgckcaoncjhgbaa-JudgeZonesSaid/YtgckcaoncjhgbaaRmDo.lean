/- revetmentref18.Do, over the same plain model. -/
import Derived.WalkKit
import Derived.WalkSpells
import Derived.WalkLawsBesides
import Derived.Lib.Hide
import Derived.Test.YtgckcaoncjhgbaaFGw
import Derived.Test.YtgckcaoncjhgbaaRmDoA
import Derived.Test.YtgckcaoncjhgbaaRmDoB
import Derived.Test.YtgckcaoncjhgbaaRmDoC
import Derived.Test.YtgckcaoncjhgbaaRmDoD
namespace Go.Proofs.Ytgckcaoncjhgbaa
open Go.RowKit Go.Proofs.Ytgckcaoncjhgbaa.PL Go.Proofs.YtgckcaoncjhgbaaW.PrintWords Go.Proofs.YtgckcaoncjhgbaaW.PrintLast
set_option linter.unusedVariables false
set_option linter.unusedSimpArgs false
attribute [local go_sem] List.getElem?_toArray List.getElem?_cons_succ List.getElem?_cons_zero mL tL cL xL rL oL
theorem rdo_any (id m u b c z s me o a l : Int) (x y q : Value) (D : Mdl) (kd : Int) (i p n : Int) (Ad : Option Addr) (kdd : Nat) (d : List Int) (f : Bool) (w : World) (h : MC w x y q D) (hi : MInv id m u b c z s me o a l D) (hd : Kd.C (Kd.int .u8) w Ad d.length d) (hdk : d.length <= kdd) :
  Calls Try.prog 28 #[modV id m u b c z s me o a l x y q, cmdV kd i p n (.slice Ad d.length kdd) f] w (RsP id m u b c z s me o a l x y q D (doM id m u b c z s me o a l D (⟨kd, i, p, n, d, f⟩ : S65)) w) := by
 by_cases k0_ : kd = 0
 ·
  subst k0_
  by_cases hin : ¬ (0 <= i /\ i < (D.T.length : Int))
  · exact rdo_write_a id m u b c z s me o a l x y q D i p n Ad kdd d f w h hi hd hdk hin
  have hin := Decidable.not_not.mp hin
  by_cases hal : ¬ (d.length : Int) % b = 0
  · exact rdo_write_b id m u b c z s me o a l x y q D i p n Ad kdd d f w h hi hd hdk hin hal
  have hal := Decidable.not_not.mp hal
  by_cases he : ¬ (writeZ id m u b c z s me o a l D.L i p ((d.length : Int) / b)).2 = 0
  · exact rdo_write_c id m u b c z s me o a l x y q D i p n Ad kdd d f w h hi hd hdk hin hal he
  have he := Decidable.not_not.mp he
  cases f
  · exact rdo_write_d id m u b c z s me o a l x y q D i p n Ad kdd d w h hi hd hdk hin hal he
  · exact rdo_write_e id m u b c z s me o a l x y q D i p n Ad kdd d w h hi hd hdk hin hal he
 by_cases k1_ : kd = 1
 ·
  subst k1_
  by_cases he : readZ id m u b c z s me o a l D.L i p n = 0
  · exact rdo_read_ok id m u b c z s me o a l x y q D i p n Ad kdd d f w h hi hd hdk he
  · exact rdo_read_err id m u b c z s me o a l x y q D i p n Ad kdd d f w h hi hd hdk he
 by_cases k2_ : kd = 2
 · subst k2_; exact rdo_flush id m u b c z s me o a l x y q D i p n Ad kdd d f w h hi hd hdk
 by_cases k3_ : kd = 3
 ·
  subst k3_
  by_cases he : (resetZ id m u b c z s me o a l D.L i).2 = 0
  · exact rdo_reset_ok id m u b c z s me o a l x y q D i p n Ad kdd d f w h hi hd hdk he
  · exact rdo_reset_err id m u b c z s me o a l x y q D i p n Ad kdd d f w h hi hd hdk he
 by_cases k4_ : kd = 4
 ·
  subst k4_
  by_cases he : (finishZ id m u b c z s me o a l D.L i).2 = 0
  · exact rdo_finish_ok id m u b c z s me o a l x y q D i p n Ad kdd d f w h hi hd hdk he
  · exact rdo_finish_err id m u b c z s me o a l x y q D i p n Ad kdd d f w h hi hd hdk he
 by_cases k5_ : kd = 5
 ·
  subst k5_
  by_cases he : (openZ id m u b c z s me o a l D.L i).2 = 0
  · exact rdo_open_ok id m u b c z s me o a l x y q D i p n Ad kdd d f w h hi hd hdk he
  · exact rdo_open_err id m u b c z s me o a l x y q D i p n Ad kdd d f w h hi hd hdk he
 by_cases k6_ : kd = 6
 ·
  subst k6_
  by_cases he : (closeZ id m u b c z s me o a l D.L i).2 = 0
  · exact rdo_close_ok id m u b c z s me o a l x y q D i p n Ad kdd d f w h hi hd hdk he
  · exact rdo_close_err id m u b c z s me o a l x y q D i p n Ad kdd d f w h hi hd hdk he
 by_cases k7_ : kd = 7
 ·
  subst k7_
  by_cases hin : 0 <= i /\ i < (D.T.length : Int)
  · exact rdo_zone id m u b c z s me o a l x y q D i p n Ad kdd d f w h hi hd hdk hin
  · exact rdo_nozone id m u b c z s me o a l x y q D i p n Ad kdd d f w h hi hd hdk hin
 exact rdo_other id m u b c z s me o a l x y q D kd i p n Ad kdd d f w h hi hd hdk k0_ k1_ k2_ k3_ k4_ k5_ k6_ k7_
end Go.Proofs.Ytgckcaoncjhgbaa
