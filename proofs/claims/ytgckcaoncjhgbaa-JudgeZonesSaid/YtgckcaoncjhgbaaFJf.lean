/- judge.Zone at any model. -/
/- revetmentlaw29.live: the page's example. -/
import Derived.WalkKit
import Derived.WalkSpells
import Derived.WalkLawsBesides
import Derived.Lib.Hide
import Derived.Test.YtgckcaoncjhgbaaFGw
import Derived.Test.YtgckcaoncjhgbaaJdZ
import Derived.Test.YtgckcaoncjhgbaaJdB
import Derived.Test.YtgckcaoncjhgbaaFJa
import Derived.Test.YtgckcaoncjhgbaaFMb
import Derived.Test.YtgckcaoncjhgbaaPLx4
namespace Go.Proofs.Ytgckcaoncjhgbaa
open Go.RowKit Go.Proofs.Ytgckcaoncjhgbaa.PL Go.Proofs.YtgckcaoncjhgbaaW.PrintWords Go.Proofs.YtgckcaoncjhgbaaW.PrintLast
set_option linter.unusedVariables false
set_option linter.unusedSimpArgs false
attribute [local go_sem] List.getElem?_toArray List.getElem?_cons_succ List.getElem?_cons_zero mL tL cL xL rL oL
def highM (id m u b c z s me o a l : Int) (D : Mdl) (X : S65) (is : Bool) (z_ : Int) : Int := if mineB is X.f1 z_ (doM id m u b c z s me o a l D X).2.1 = true /\ X.f0 = 0 then (zoneOf (doM id m u b c z s me o a l D X).1 z_).f1 else (zoneOf D z_).f1
def textL (D : Mdl) (z_ : Int) : List Int := if 0 <= z_ /\ z_ < (D.T.length : Int) then bytesOf (rdOf default D.T z_) else []
def zoneB (id m u b c z s me o a l : Int) (D : Mdl) (X : S65) (is : Bool) (z_ : Int) (g : S59) (tx : List Int) : Bool :=
 if 0 <= z_ /\ z_ < (D.T.length : Int) then
  zoneQ (mineB is X.f1 z_ (doM id m u b c z s me o a l D X).2.1) X.f0 (g.f0 == (zoneOf (doM id m u b c z s me o a l D X).1 z_).f0 && (g.f1 == (zoneOf (doM id m u b c z s me o a l D X).1 z_).f1 && (g.f2 == (zoneOf (doM id m u b c z s me o a l D X).1 z_).f2))) ((strOfNums tx).toList == (strOfNums (textL D z_)).toList) g.f0 g.f1 g.f2 (zoneOf D z_).f0 (zoneOf D z_).f1 (zoneOf D z_).f2 (rdOf default D.S z_) (highM id m u b c z s me o a l D X is z_) (restB (sizeC m u b c z s me o a l) (zoneOf D z_) g.f1) (cutB (sizeC m u b c z s me o a l) (zoneOf D z_)) (g.f1 * b) (textL D z_) (textL (doM id m u b c z s me o a l D X).1 z_) tx
 else false
set_option maxHeartbeats 4000000 in
set_option maxRecDepth 100000 in
theorem jzone_no (id m u b c z s me o a l : Int) (x y q : Value) (D : Mdl) (kd i p n : Int) (Ad : Option Addr) (kdd : Nat) (d : List Int) (f : Bool) (is : Bool) (z_ gst gw gg : Int) (At : Option Addr) (kt : Nat) (tx : List Int) (w : World) (h : MC w x y q D) (hi : MInv2 id m u b c z s me o a l D) (hd : Kd.C (Kd.int .u8) w Ad d.length d) (hdk : d.length <= kdd) (hx : Kd.C (Kd.int .u8) w At tx.length tx) (hxk : tx.length <= kt) (hin : ¬ (0 <= z_ /\ z_ < (D.T.length : Int))) : Calls Try.prog 39 #[modV id m u b c z s me o a l x y q, cmdV kd i p n (.slice Ad d.length kdd) f, .bool is, .int .i64 z_, .agg #[.int .i64 gst, .int .i64 gw, .int .i64 gg], .slice At tx.length kt] w fun e w' => e = .returned (.bool false) /\ Below w.heap.size w w' := by
 have hz := fun x y q W h => mzone_any id m u b c z s me o a l x y q D z_ W h hi.1.2.1
 rw [if_neg hin, decide_eq_false hin] at hz
 replace hi := hi.1
 obtain ⟨A1, A2, A3, n1, n2, n3, k1, k2, k3, rfl, rfl, rfl, hn1, hn2, hn3, hC1, hC2, hC3, hk1, hk2, hk3, hrt, hL1, hLp, hlT, hlS, hcb⟩ := mc_open h hi
 obtain ⟨lx, hlx⟩ : ∃ n, n = tx.length := ⟨_, rfl⟩
 rw [<- hlx]
 have HMC := Lib.hid h; have HZ := Lib.hid hz; clear hz hd hdk hx hxk hlx hin
 clear h hi hcb hrt hL1 hLp hlT hlS hn1 hn2 hn3 hk1 hk2 hk3 hC1 hC2 hC3
 have H := Lib.hid (Pk.start w)
 go_enter Try.func39, Try.ntmps39
 go_wp2_with first
  | (apply bh H 6 (mL id m u b c z s me o a l (.slice A1 n1 k1) (.slice A2 n2 k2) (.slice A3 n3 k3)) 53; clear H; intro gM W1 H; obtain ⟨-, cM⟩ := n1_ H)
  | (apply bh H 7 (xL kd i p n (.slice Ad d.length kdd) f) 65; clear H cM; intro gX W2 H; obtain ⟨-, cX, cM⟩ := n2_ H)
  | (apply bh H 10 (oL gst gw gg) 59; clear H cX cM; intro gG W3 H; obtain ⟨-, cG, cX, cM⟩ := n3_ H)
  | (go_at_call 32; refine (HZ.out _ _ _ _ (MC_below HMC.out H.out.below)).mono ?_; rintro e W4 ⟨rfl, hb⟩; clear cG cX cM; replace H := pc H hb; clear hb; obtain ⟨-, cG, cX, cM⟩ := n3_ H)
  | (apply bh H 13 (oL 0 0 0) 59; clear H cG cX cM; intro gS W5 H; obtain ⟨-, cS, cG, cX, cM⟩ := n4_ H)
  | (apply sn H 0 59 13 gS (oL 0 0 0))
 go_ret
 exact ⟨rfl, H.out.below⟩
theorem jzone_any (id m u b c z s me o a l : Int) (x y q : Value) (D : Mdl) (kd i p n : Int) (Ad : Option Addr) (kdd : Nat) (d : List Int) (f : Bool) (is : Bool) (z_ gst gw gg : Int) (At : Option Addr) (kt : Nat) (tx : List Int) (w : World) (h : MC w x y q D) (hi : MInv2 id m u b c z s me o a l D) (hd : Kd.C (Kd.int .u8) w Ad d.length d) (hdk : d.length <= kdd) (hx : Kd.C (Kd.int .u8) w At tx.length tx) (hxk : tx.length <= kt) (hg : -100 <= gw /\ gw <= 3932160) : Calls Try.prog 39 #[modV id m u b c z s me o a l x y q, cmdV kd i p n (.slice Ad d.length kdd) f, .bool is, .int .i64 z_, .agg #[.int .i64 gst, .int .i64 gw, .int .i64 gg], .slice At tx.length kt] w fun e w' => e = .returned (.bool (zoneB id m u b c z s me o a l D (⟨kd, i, p, n, d, f⟩ : S65) is z_ ⟨gst, gw, gg⟩ tx)) /\ Below w.heap.size w w' := by
 by_cases hin : 0 <= z_ /\ z_ < (D.T.length : Int)
 ·
  have hk := (rightZ_len hi.1.1).1
  have hb := okC_bd (checkC_ok hk).1
  have hok := doM_ok hi (⟨kd, i, p, n, d, f⟩ : S65)
  have e1 : gw * b <= 3932160 * b := Int.mul_le_mul_of_nonneg_right hg.2 (by omega)
  have e2 : -100 * b <= gw * b := Int.mul_le_mul_of_nonneg_right hg.1 (by omega)
  unfold zoneB
  rw [if_pos hin]
  refine jz_any id m u b c z s me o a l w x y q D (doM id m u b c z s me o a l D (⟨kd, i, p, n, d, f⟩ : S65)).1 kd i p n Ad kdd d f is (mineB is i z_ (doM id m u b c z s me o a l D (⟨kd, i, p, n, d, f⟩ : S65)).2.1) z_ (zoneOf D z_).f0 (zoneOf D z_).f1 (zoneOf D z_).f2 (zoneOf (doM id m u b c z s me o a l D (⟨kd, i, p, n, d, f⟩ : S65)).1 z_).f0 (zoneOf (doM id m u b c z s me o a l D (⟨kd, i, p, n, d, f⟩ : S65)).1 z_).f1 (zoneOf (doM id m u b c z s me o a l D (⟨kd, i, p, n, d, f⟩ : S65)).1 z_).f2 gst gw gg (gw * b) (rdOf default D.S z_) (highM id m u b c z s me o a l D (⟨kd, i, p, n, d, f⟩ : S65) is z_) (restB (sizeC m u b c z s me o a l) (zoneOf D z_) gw) (decide (0 <= z_ /\ z_ < ((doM id m u b c z s me o a l D (⟨kd, i, p, n, d, f⟩ : S65)).1.T.length : Int))) (cutB (sizeC m u b c z s me o a l) (zoneOf D z_)) _ _ (textL D z_) (textL (doM id m u b c z s me o a l D (⟨kd, i, p, n, d, f⟩ : S65)).1 z_) At kt tx ⟨h, hi.1, hd, hdk, hx, hxk, fun W hW hdW => after_any id m u b c z s me o a l x y q D kd i p n Ad kdd d f is z_ W hW hi.1 hdW hdk, fun W hW => ?_, fun x y q W hW => mzone_any id m u b c z s me o a l x y q _ z_ W hW hok.1.1.2.1, fun W hW => ?_, fun x y q W hW => mtext_any id m u b c z s me o a l x y q _ z_ W hW (fun hh => by have := text_small hok.1.1 hh.1 hh.2; omega), fun W hW => ?_, fun W hW hdW => high_any id m u b c z s me o a l x y q D kd i p n Ad kdd d f is z_ W hW hi hdW hdk, fun W => jrest_any id m u b c z s me o a l hk _ gw W, fun W => cut_any id m u b c z s me o a l hk _ _ _ W, fun hlo => ?_, by unfold wrap64; omega, rfl, rfl⟩
  ·
   have h1 := mzone_any id m u b c z s me o a l x y q D z_ W hW hi.1.2.1
   rw [decide_eq_true hin] at h1; exact h1
  · exact mtext_any id m u b c z s me o a l x y q D z_ W hW (fun hh => by have := text_small hi.1 hh.1 hh.2; omega)
  ·
   have h1 := low_any id m u b c z s me o a l x y q D z_ W hW hi.1
   rw [if_pos hin] at h1; exact h1
  ·
   have hl : D.T.length = D.L.length := hi.1.2.1
   have h0 := (hi.1.2.2.2 z_.toNat (by omega)).2.1
   rw [Int.toNat_of_nonneg hin.1] at h0
   exact Int.mul_nonneg (by omega) (by omega)
 ·
  have e : zoneB id m u b c z s me o a l D (⟨kd, i, p, n, d, f⟩ : S65) is z_ ⟨gst, gw, gg⟩ tx = false := by unfold zoneB; rw [if_neg hin]
  rw [e]
  exact jzone_no id m u b c z s me o a l x y q D kd i p n Ad kdd d f is z_ gst gw gg At kt tx w h hi hd hdk hx hxk hin
end Go.Proofs.Ytgckcaoncjhgbaa
namespace Go.Proofs.Ytgckcaoncjhgbaa
open Go.RowKit Go.Proofs.Ytgckcaoncjhgbaa.PL Go.Proofs.YtgckcaoncjhgbaaW.PrintWords Go.Proofs.YtgckcaoncjhgbaaW.PrintLast
set_option linter.unusedVariables false
set_option linter.unusedSimpArgs false
attribute [local go_sem] List.getElem?_toArray List.getElem?_cons_succ List.getElem?_cons_zero mL tL cL xL rL oL
-- conf_Plain.calls
theorem live29_z : zoneB 7 4 2 64 24 3 1 3 2 3 7 ⟨List.replicate 3 z59, List.replicate 3 ByteArray.empty, List.replicate 3 0⟩ ⟨0, 0, 0, 0, [], false⟩ false 0 ⟨0, 0, 0⟩ [] = true /\ zoneB 7 4 2 64 24 3 1 3 2 3 7 ⟨List.replicate 3 z59, List.replicate 3 ByteArray.empty, List.replicate 3 0⟩ ⟨0, 0, 0, 0, [], false⟩ false 0 ⟨0, 1, 0⟩ [] = false := ⟨by kernel_rfl, by kernel_rfl⟩
set_option maxHeartbeats 1000000 in
set_option maxRecDepth 100000 in
theorem live29_any (w : World) : Calls Try.prog 34 #[] w fun e w' => e = .returned (.bool true) /\ Below w.heap.size w w' := by
 have H := Lib.hid (Pk.start w)
 have hI0 := minv_new 7 4 2 64 24 3 1 3 2 3 7 (by decide)
 have hnew := fun W => mnew_ok 7 4 2 64 24 3 1 3 2 3 7 W (by decide)
 have hpl := fun W => conf_Plain.calls 7 4 2 64 24 3 1 3 2 3 7 W rfl
 have hz1 : ∀ (x y q : Value) (W : World), MC W x y q ⟨List.replicate 3 z59, List.replicate 3 ByteArray.empty, List.replicate 3 0⟩ -> Calls Try.prog 39 #[modV 7 4 2 64 24 3 1 3 2 3 7 x y q, cmdV 0 0 0 0 (.slice none 0 0) false, .bool false, .int .i64 0, .agg #[.int .i64 0, .int .i64 0, .int .i64 0], .slice none 0 0] W fun e w' => e = .returned (.bool true) /\ Below W.heap.size W w' := fun x y q W h => by
  have h1 := jzone_any 7 4 2 64 24 3 1 3 2 3 7 x y q ⟨List.replicate 3 z59, List.replicate 3 ByteArray.empty, List.replicate 3 0⟩ 0 0 0 0 none 0 [] false false 0 0 0 0 none 0 [] W h hI0 (Kd.C_nil _ W) (Nat.le_refl 0) (Kd.C_nil _ W) (Nat.le_refl 0) (by decide)
  rw [live29_z.1] at h1; exact h1
 have hz2 : ∀ (x y q : Value) (W : World), MC W x y q ⟨List.replicate 3 z59, List.replicate 3 ByteArray.empty, List.replicate 3 0⟩ -> Calls Try.prog 39 #[modV 7 4 2 64 24 3 1 3 2 3 7 x y q, cmdV 0 0 0 0 (.slice none 0 0) false, .bool false, .int .i64 0, .agg #[.int .i64 0, .int .i64 1, .int .i64 0], .slice none 0 0] W fun e w' => e = .returned (.bool false) /\ Below W.heap.size W w' := fun x y q W h => by
  have h1 := jzone_any 7 4 2 64 24 3 1 3 2 3 7 x y q ⟨List.replicate 3 z59, List.replicate 3 ByteArray.empty, List.replicate 3 0⟩ 0 0 0 0 none 0 [] false false 0 0 1 0 none 0 [] W h hI0 (Kd.C_nil _ W) (Nat.le_refl 0) (Kd.C_nil _ W) (Nat.le_refl 0) (by decide)
  rw [live29_z.2] at h1; exact h1
 have HN := Lib.hid hnew; have HP := Lib.hid hpl; have HA := Lib.hid hz1; have HB := Lib.hid hz2; clear hnew hpl hz1 hz2 hI0
 go_enter Try.func34, Try.ntmps34
 go_wp2_with first
  | (go_at_call 55; refine (HP.out _).mono ?_; rintro e W1 ⟨rfl, hb⟩; replace H := pc H hb; clear hb)
  | (go_at_call 22; refine (HN.out _).mono ?_; rintro e W2 ⟨x_, y_, q_, rfl, hM, hb⟩; obtain ⟨B01, m01, j01, B02, m02, j02, B03, m03, j03, rfl, rfl, rfl⟩ := MR_shape hM; replace H := Lib.hid ((H.out.called hb).row (MrF w.heap.size (.slice B01 m01 j01) (.slice B02 m02 j02) (.slice B03 m03 j03) (⟨List.replicate 3 z59, List.replicate 3 ByteArray.empty, List.replicate 3 0⟩)) (MR_lower hM H.out.below.size)); clear hM; clear hb)
  | (apply bh H 1 (mL 0 0 0 0 0 0 0 0 0 0 0 nil_ nil_ nil_) 53; clear H; intro gM W3 H; obtain ⟨-, cM⟩ := n1_ H)
  | (apply sh H 0 53 1 gM (mL 7 4 2 64 24 3 1 3 2 3 7 (.slice B01 m01 j01) (.slice B02 m02 j02) (.slice B03 m03 j03)); clear H cM; intro W4 K_; obtain ⟨H, cM⟩ := n1_ K_; clear K_)
  | (go_at_call 88; refine (code29_any _ _).mono ?_; rintro e W5 ⟨rfl, hb⟩; clear cM; replace H := pc H hb; clear hb; obtain ⟨-, cM⟩ := n1_ H)
  | (go_at_call 39; (with_reducible refine (HA.out _ _ _ _ (MC_R (H.out.fact 0 rfl))).mono ?_); rintro e W6 ⟨rfl, hb⟩; clear cM; replace H := pc H hb; clear hb; obtain ⟨-, cM⟩ := n1_ H)
  | (go_at_call 39; (with_reducible refine (HB.out _ _ _ _ (MC_R (H.out.fact 0 rfl))).mono ?_); rintro e W7 ⟨rfl, hb⟩; clear cM; replace H := pc H hb; clear hb; obtain ⟨-, cM⟩ := n1_ H)
 go_ret
 exact ⟨rfl, H.out.below⟩
end Go.Proofs.Ytgckcaoncjhgbaa
