/- model.change. -/
import Derived.WalkKit
import Derived.WalkSpells
import Derived.WalkLawsBesides
import Derived.Lib.Hide
import Derived.Test.YtgckcaoncjhgbaaFGw
import Derived.Test.YtgckcaoncjhgbaaFMa
import Derived.Test.YtgckcaoncjhgbaaFMb
namespace Go.Proofs.Ytgckcaoncjhgbaa
open Go.RowKit Go.Proofs.Ytgckcaoncjhgbaa.PL Go.Proofs.YtgckcaoncjhgbaaW.PrintWords Go.Proofs.YtgckcaoncjhgbaaW.PrintLast
set_option linter.unusedVariables false
set_option linter.unusedSimpArgs false
attribute [local go_sem] List.getElem?_toArray List.getElem?_cons_succ List.getElem?_cons_zero mL tL cL xL rL oL
set_option maxHeartbeats 1000000 in
set_option maxRecDepth 100000 in
theorem mreset_err (id m u b c z s me o a l : Int) (x y q : Value) (D : Mdl) (i : Int) (p n : Int) (Ad : Option Addr) (nd kdd : Nat) (f : Bool) (w : World) (h : MC w x y q D) (hi : MInv id m u b c z s me o a l D) (he : ¬ (resetZ id m u b c z s me o a l D.L i).2 = 0) :
  Calls Try.prog 77 #[modV id m u b c z s me o a l x y q, cmdV 3 i p n (.slice Ad nd kdd) f] w (RepP id m u b c z s me o a l x y q D (changeM D 3 i (resetZ id m u b c z s me o a l D.L i)).1 (changeM D 3 i (resetZ id m u b c z s me o a l D.L i)).2 [] z59 w) := by
 obtain ⟨A1, A2, A3, n1, n2, n3, k1, k2, k3, rfl, rfl, rfl, hn1, hn2, hn3, hC1, hC2, hC3, hk1, hk2, hk3, hrt, hL1, hLp, hlT, hlS, hcb⟩ := mc_open h hi
 have hb1 := hcb.1
 have hR := fun W h => reset_any id m u b c z s me o a l A1 k1 D.L i W h hk1
 have hWo := resetZ_one (id := id) (m := m) (u := u) (b := b) (c := c) (z := z) (s := s) (me := me) (o := o) (a := a) (l := l) (L := D.L) i
 have hin := fun h => resetZ_in (id := id) (m := m) (u := u) (b := b) (c := c) (z := z) (s := s) (me := me) (o := o) (a := a) (l := l) (L := D.L) (i := i) h
 rw [<- hn1] at hR
 have HMC := Lib.hid h; have HC1 := Lib.hid hC1
 obtain ⟨⟨r0, e0⟩, hr⟩ : ∃ r, resetZ id m u b c z s me o a l D.L i = r := ⟨_, rfl⟩
 rw [hr] at hR he hWo hin; (try dsimp only at hR he)
 have H := Lib.hid (Pk.start w)
 have hr1 : r0 = none := by rcases hWo with ⟨_, h⟩ | ⟨h, _⟩; exact h; exact absurd h he
 subst hr1
 have hv : changeM D 3 i (none, e0) = (D, e0) := by unfold changeM; rw [if_pos he]
 have HV := Lib.hid hv; have HR := Lib.hid hR; have HE := Lib.hid hr; have eb : (e0 == 0) = false := beq_eq_false_iff_ne.mpr he; have eb2 : (e0 != 0) = true := bne_iff_ne.mpr he
 clear hv hR he hr hWo hrt hcb hlT hlS h hi hn1 hn2 hn3 hk1 hk2 hk3 hC1 hC2 hC3 hin
 go_enter Try.func77, Try.ntmps77
 go_wp2_with first
  | (apply bh H 2 (mL id m u b c z s me o a l (.slice A1 n1 k1) (.slice A2 n2 k2) (.slice A3 n3 k3)) 53; clear H; intro gM W1 H; obtain ⟨-, cM⟩ := n1_ H)
  | (apply bh H 3 (xL 3 i p n (.slice Ad nd kdd) f) 65; clear H cM; intro gX W2 H; obtain ⟨-, cX, cM⟩ := n2_ H)
  | (apply bh H 4 (mL 0 0 0 0 0 0 0 0 0 0 0 nil_ nil_ nil_) 53; clear H cX cM; intro gR W3 H; obtain ⟨-, cR, cX, cM⟩ := n3_ H)
  | (apply bh H 5 (rL 0 nil_ 0 0 0) 61; clear H cR cX cM; intro gP W4 H; obtain ⟨-, cP, cR, cX, cM⟩ := n4_ H)
  | (go_at_call 58; refine (HR.out _ (Kd.C_below HC1.out H.out.below)).mono ?_; rintro e W5 ⟨v, rfl, hT, hb⟩; clear cP cR cX cM; obtain rfl := TabR_none hT; replace H := pc H hb; clear hT; clear hb; obtain ⟨-, cP, cR, cX, cM⟩ := n4_ H)
  | (apply bh H 7 (tL 0 0 0 0 0 0 0 0 0 0 0 nil_) 27; clear H cP cR cX cM; intro gT W6 H; obtain ⟨-, cT, cP, cR, cX, cM⟩ := n5_ H)
  | (apply sn H 0 27 7 gT (tL 0 0 0 0 0 0 0 0 0 0 0 nil_))
  | (go_at_call 73; refine (failed_any id m u b c z s me o a l A1 A2 A3 n1 k1 n2 k2 n3 k3 (e0) _).mono ?_; rintro e W7 ⟨rfl, hb⟩; clear cT cP cR cX cM; replace H := pc H hb; clear hb; obtain ⟨-, cT, cP, cR, cX, cM⟩ := n5_ H)
  | (apply sh H 2 53 4 gR (mL id m u b c z s me o a l (.slice A1 n1 k1) (.slice A2 n2 k2) (.slice A3 n3 k3)); clear H cT cP cR cX cM; intro W8 K_; obtain ⟨H, cT, cP, cR, cX, cM⟩ := n5_ K_; clear K_)
  | (apply sh H 1 61 5 gP (rL e0 nil_ 0 0 0); clear H cT cP cR cX cM; intro W9 K_; obtain ⟨H, cT, cP, cR, cX, cM⟩ := n5_ K_; clear K_)
 refine bodyPost_ret (results_cc rfl _ _ gR gP 53 61 (mL id m u b c z s me o a l (.slice A1 n1 k1) (.slice A2 n2 k2) (.slice A3 n3 k3)).toArray (rL e0 nil_ 0 0 0).toArray (0, 0) (0, 0) _ _ rfl (H.out.at_ 2 rfl) Try.underlying53 rfl (by kernel_rfl) rfl (H.out.at_ 1 rfl) Try.underlying61 rfl (by kernel_rfl)) rfl ?_
 rw [HE.out, HV.out]
 exact RepP_mk rfl MD_same (BR_nil _) H.out.below
set_option maxHeartbeats 1000000 in
set_option maxRecDepth 100000 in
theorem mreset_ok (id m u b c z s me o a l : Int) (x y q : Value) (D : Mdl) (i : Int) (p n : Int) (Ad : Option Addr) (nd kdd : Nat) (f : Bool) (w : World) (h : MC w x y q D) (hi : MInv id m u b c z s me o a l D) (he : (resetZ id m u b c z s me o a l D.L i).2 = 0) :
  Calls Try.prog 77 #[modV id m u b c z s me o a l x y q, cmdV 3 i p n (.slice Ad nd kdd) f] w (RepP id m u b c z s me o a l x y q D (changeM D 3 i (resetZ id m u b c z s me o a l D.L i)).1 (changeM D 3 i (resetZ id m u b c z s me o a l D.L i)).2 [] z59 w) := by
 obtain ⟨A1, A2, A3, n1, n2, n3, k1, k2, k3, rfl, rfl, rfl, hn1, hn2, hn3, hC1, hC2, hC3, hk1, hk2, hk3, hrt, hL1, hLp, hlT, hlS, hcb⟩ := mc_open h hi
 have hb1 := hcb.1
 have hR := fun W h => reset_any id m u b c z s me o a l A1 k1 D.L i W h hk1
 have hWo := resetZ_one (id := id) (m := m) (u := u) (b := b) (c := c) (z := z) (s := s) (me := me) (o := o) (a := a) (l := l) (L := D.L) i
 have hin := fun h => resetZ_in (id := id) (m := m) (u := u) (b := b) (c := c) (z := z) (s := s) (me := me) (o := o) (a := a) (l := l) (L := D.L) (i := i) h
 rw [<- hn1] at hR
 have HMC := Lib.hid h; have HC1 := Lib.hid hC1
 obtain ⟨⟨r0, e0⟩, hr⟩ : ∃ r, resetZ id m u b c z s me o a l D.L i = r := ⟨_, rfl⟩
 rw [hr] at hR he hWo hin; (try dsimp only at hR he)
 have H := Lib.hid (Pk.start w)
 subst he
 obtain ⟨L1, rfl, hl1⟩ : ∃ L1, r0 = some L1 /\ L1.length = n1 := by
  rcases hWo with ⟨h, _⟩ | ⟨_, L1, h, h2⟩
  · exact absurd rfl h
  · exact ⟨L1, h, by rw [h2, hn1]⟩
 have hv : changeM D 3 i (some L1, 0) = (withM ⟨L1, D.T, D.S⟩ i ByteArray.empty 0, 0) := rfl
 have HV := Lib.hid hv; have HR := Lib.hid hR; have HE := Lib.hid hr; have HL1 := Lib.hid hl1
 have hin := hin rfl
 rw [<- hn1] at hin
 have HWI := Lib.hid (fun X W h => mwith_any id m u b c z s me o a l X (.slice A2 n2 k2) (.slice A3 n3 k3) ⟨L1, D.T, D.S⟩ i ByteArray.empty 0 W h hin.1 (by show i < (D.T.length : Int); omega) (by show i < (D.S.length : Int); omega) (by show D.T.length < 1000000000; omega) (by show D.S.length < 1000000000; omega))
 clear hv hR hr hWo hrt hcb hlT hlS h hi hl1 hn1 hn2 hn3 hk1 hk2 hk3 hC1 hC2 hC3 hin
 go_enter Try.func77, Try.ntmps77
 go_wp2_with first
  | (apply bh H 2 (mL id m u b c z s me o a l (.slice A1 n1 k1) (.slice A2 n2 k2) (.slice A3 n3 k3)) 53; clear H; intro gM W1 H; obtain ⟨-, cM⟩ := n1_ H)
  | (apply bh H 3 (xL 3 i p n (.slice Ad nd kdd) f) 65; clear H cM; intro gX W2 H; obtain ⟨-, cX, cM⟩ := n2_ H)
  | (apply bh H 4 (mL 0 0 0 0 0 0 0 0 0 0 0 nil_ nil_ nil_) 53; clear H cX cM; intro gR W3 H; obtain ⟨-, cR, cX, cM⟩ := n3_ H)
  | (apply bh H 5 (rL 0 nil_ 0 0 0) 61; clear H cR cX cM; intro gP W4 H; obtain ⟨-, cP, cR, cX, cM⟩ := n4_ H)
  | (go_at_call 58; refine (HR.out _ (Kd.C_below HC1.out H.out.below)).mono ?_; rintro e W5 ⟨v, rfl, hT, hb⟩; clear cP cR cX cM; obtain ⟨A4, k4, rfl, hR⟩ := TabR_some hT; replace H := pr H hb hR; clear hT; clear hb; obtain ⟨-, cP, cR, cX, cM⟩ := n4_ H)
  | (apply bh H 7 (tL 0 0 0 0 0 0 0 0 0 0 0 nil_) 27; clear H cP cR cX cM; intro gT W6 H; obtain ⟨-, cT, cP, cR, cX, cM⟩ := n5_ H)
  | (apply sh H 0 27 7 gT (tL id m u b c z s me o a l (.slice A4 L1.length k4)); clear H cT cP cR cX cM; intro W7 K_; obtain ⟨H, cT, cP, cR, cX, cM⟩ := n5_ K_; clear K_)
  | (apply sp H 4 27 34 gM 0 (tL id m u b c z s me o a l (.slice A4 L1.length k4)) (mL id m u b c z s me o a l (.slice A4 L1.length k4) (.slice A2 n2 k2) (.slice A3 n3 k3)); clear H cT cP cR cX cM; intro W8 K_; obtain ⟨H, cT, cP, cR, cX, cM⟩ := n5_ K_; clear K_)
  | (go_at_call 85; refine (HWI.out _ _ ⟨SlC_R (H.out.fact 0 rfl), SlC_below HMC.out.2.1 H.out.below, SlC_below HMC.out.2.2 H.out.below⟩).mono ?_; rintro e W9 ⟨y5, q5, rfl, hY, hQ, hb⟩; clear cT cP cR cX cM; obtain ⟨A5, k5, rfl⟩ := Kd.R_slice hY; obtain ⟨A6, k6, rfl⟩ := Kd.R_slice hQ; simp only [List.length_set] at hY hQ ⊢; have hb0_ := H.out.below.size; replace H := Lib.hid ((H.out.called hb).row (RowF Kd.string 9 w.heap.size (.slice A5 D.T.length k5) (D.T.set i.toNat ByteArray.empty)) (Kd.R_lower (hY) H.out.below.size)); replace H := Lib.hid ((H.out).row (RowF (Kd.int .i64) 3 w.heap.size (.slice A6 D.S.length k6) (D.S.set i.toNat 0)) (Kd.R_lower (hQ) hb0_)); clear hb0_; clear hY hQ; clear hb; obtain ⟨-, cT, cP, cR, cX, cM⟩ := n5_ H)
  | (apply sh H 4 53 2 gM (mL id m u b c z s me o a l (.slice A4 L1.length k4) (.slice A5 D.T.length k5) (.slice A6 D.S.length k6)); clear H cT cP cR cX cM; intro W10 K_; obtain ⟨H, cT, cP, cR, cX, cM⟩ := n5_ K_; clear K_)
  | (apply sh H 2 53 4 gR (mL id m u b c z s me o a l (.slice A4 L1.length k4) (.slice A5 D.T.length k5) (.slice A6 D.S.length k6)); clear H cT cP cR cX cM; intro W11 K_; obtain ⟨H, cT, cP, cR, cX, cM⟩ := n5_ K_; clear K_)
  | (apply sn H 1 61 5 gP (rL 0 nil_ 0 0 0))
 refine bodyPost_ret (results_cc rfl _ _ gR gP 53 61 (mL id m u b c z s me o a l (.slice A4 L1.length k4) (.slice A5 D.T.length k5) (.slice A6 D.S.length k6)).toArray (rL 0 nil_ 0 0 0).toArray (0, 0) (0, 0) _ _ rfl (H.out.at_ 2 rfl) Try.underlying53 rfl (by kernel_rfl) rfl (H.out.at_ 1 rfl) Try.underlying61 rfl (by kernel_rfl)) rfl ?_
 rw [HE.out, HV.out]
 exact RepP_mk rfl ⟨.inr (H.out.fact 2 rfl), .inr (H.out.fact 1 rfl), .inr (H.out.fact 0 rfl)⟩ (BR_nil _) H.out.below
theorem mreset_any (id m u b c z s me o a l : Int) (x y q : Value) (D : Mdl) (i : Int) (p n : Int) (Ad : Option Addr) (nd kdd : Nat) (f : Bool) (w : World) (h : MC w x y q D) (hi : MInv id m u b c z s me o a l D) :
  Calls Try.prog 77 #[modV id m u b c z s me o a l x y q, cmdV 3 i p n (.slice Ad nd kdd) f] w (RepP id m u b c z s me o a l x y q D (changeM D 3 i (resetZ id m u b c z s me o a l D.L i)).1 (changeM D 3 i (resetZ id m u b c z s me o a l D.L i)).2 [] z59 w) := by
 by_cases he : (resetZ id m u b c z s me o a l D.L i).2 = 0
 · exact mreset_ok id m u b c z s me o a l x y q D i p n Ad nd kdd f w h hi he
 · exact mreset_err id m u b c z s me o a l x y q D i p n Ad nd kdd f w h hi he
set_option maxHeartbeats 1000000 in
set_option maxRecDepth 100000 in
theorem mfinish_err (id m u b c z s me o a l : Int) (x y q : Value) (D : Mdl) (i : Int) (p n : Int) (Ad : Option Addr) (nd kdd : Nat) (f : Bool) (w : World) (h : MC w x y q D) (hi : MInv id m u b c z s me o a l D) (he : ¬ (finishZ id m u b c z s me o a l D.L i).2 = 0) :
  Calls Try.prog 77 #[modV id m u b c z s me o a l x y q, cmdV 4 i p n (.slice Ad nd kdd) f] w (RepP id m u b c z s me o a l x y q D (changeM D 4 i (finishZ id m u b c z s me o a l D.L i)).1 (changeM D 4 i (finishZ id m u b c z s me o a l D.L i)).2 [] z59 w) := by
 obtain ⟨A1, A2, A3, n1, n2, n3, k1, k2, k3, rfl, rfl, rfl, hn1, hn2, hn3, hC1, hC2, hC3, hk1, hk2, hk3, hrt, hL1, hLp, hlT, hlS, hcb⟩ := mc_open h hi
 have hb1 := hcb.1
 have hR := fun W h => finish_any id m u b c z s me o a l A1 k1 D.L i W h hk1
 have hWo := finishZ_one (id := id) (m := m) (u := u) (b := b) (c := c) (z := z) (s := s) (me := me) (o := o) (a := a) (l := l) (L := D.L) i
 rw [<- hn1] at hR
 have HMC := Lib.hid h; have HC1 := Lib.hid hC1
 obtain ⟨⟨r0, e0⟩, hr⟩ : ∃ r, finishZ id m u b c z s me o a l D.L i = r := ⟨_, rfl⟩
 rw [hr] at hR he hWo; (try dsimp only at hR he)
 have H := Lib.hid (Pk.start w)
 have hr1 : r0 = none := by rcases hWo with ⟨_, h⟩ | ⟨h, _⟩; exact h; exact absurd h he
 subst hr1
 have hv : changeM D 4 i (none, e0) = (D, e0) := by unfold changeM; rw [if_pos he]
 have HV := Lib.hid hv; have HR := Lib.hid hR; have HE := Lib.hid hr; have eb : (e0 == 0) = false := beq_eq_false_iff_ne.mpr he; have eb2 : (e0 != 0) = true := bne_iff_ne.mpr he
 clear hv hR he hr hWo hrt hcb hlT hlS h hi hn1 hn2 hn3 hk1 hk2 hk3 hC1 hC2 hC3
 go_enter Try.func77, Try.ntmps77
 go_wp2_with first
  | (apply bh H 2 (mL id m u b c z s me o a l (.slice A1 n1 k1) (.slice A2 n2 k2) (.slice A3 n3 k3)) 53; clear H; intro gM W1 H; obtain ⟨-, cM⟩ := n1_ H)
  | (apply bh H 3 (xL 4 i p n (.slice Ad nd kdd) f) 65; clear H cM; intro gX W2 H; obtain ⟨-, cX, cM⟩ := n2_ H)
  | (apply bh H 4 (mL 0 0 0 0 0 0 0 0 0 0 0 nil_ nil_ nil_) 53; clear H cX cM; intro gR W3 H; obtain ⟨-, cR, cX, cM⟩ := n3_ H)
  | (apply bh H 5 (rL 0 nil_ 0 0 0) 61; clear H cR cX cM; intro gP W4 H; obtain ⟨-, cP, cR, cX, cM⟩ := n4_ H)
  | (go_at_call 59; refine (HR.out _ (Kd.C_below HC1.out H.out.below)).mono ?_; rintro e W5 ⟨v, rfl, hT, hb⟩; clear cP cR cX cM; obtain rfl := TabR_none hT; replace H := pc H hb; clear hT; clear hb; obtain ⟨-, cP, cR, cX, cM⟩ := n4_ H)
  | (apply bh H 7 (tL 0 0 0 0 0 0 0 0 0 0 0 nil_) 27; clear H cP cR cX cM; intro gT W6 H; obtain ⟨-, cT, cP, cR, cX, cM⟩ := n5_ H)
  | (apply sn H 0 27 7 gT (tL 0 0 0 0 0 0 0 0 0 0 0 nil_))
  | (go_at_call 73; refine (failed_any id m u b c z s me o a l A1 A2 A3 n1 k1 n2 k2 n3 k3 (e0) _).mono ?_; rintro e W7 ⟨rfl, hb⟩; clear cT cP cR cX cM; replace H := pc H hb; clear hb; obtain ⟨-, cT, cP, cR, cX, cM⟩ := n5_ H)
  | (apply sh H 2 53 4 gR (mL id m u b c z s me o a l (.slice A1 n1 k1) (.slice A2 n2 k2) (.slice A3 n3 k3)); clear H cT cP cR cX cM; intro W8 K_; obtain ⟨H, cT, cP, cR, cX, cM⟩ := n5_ K_; clear K_)
  | (apply sh H 1 61 5 gP (rL e0 nil_ 0 0 0); clear H cT cP cR cX cM; intro W9 K_; obtain ⟨H, cT, cP, cR, cX, cM⟩ := n5_ K_; clear K_)
 refine bodyPost_ret (results_cc rfl _ _ gR gP 53 61 (mL id m u b c z s me o a l (.slice A1 n1 k1) (.slice A2 n2 k2) (.slice A3 n3 k3)).toArray (rL e0 nil_ 0 0 0).toArray (0, 0) (0, 0) _ _ rfl (H.out.at_ 2 rfl) Try.underlying53 rfl (by kernel_rfl) rfl (H.out.at_ 1 rfl) Try.underlying61 rfl (by kernel_rfl)) rfl ?_
 rw [HE.out, HV.out]
 exact RepP_mk rfl MD_same (BR_nil _) H.out.below
set_option maxHeartbeats 1000000 in
set_option maxRecDepth 100000 in
theorem mfinish_ok (id m u b c z s me o a l : Int) (x y q : Value) (D : Mdl) (i : Int) (p n : Int) (Ad : Option Addr) (nd kdd : Nat) (f : Bool) (w : World) (h : MC w x y q D) (hi : MInv id m u b c z s me o a l D) (he : (finishZ id m u b c z s me o a l D.L i).2 = 0) :
  Calls Try.prog 77 #[modV id m u b c z s me o a l x y q, cmdV 4 i p n (.slice Ad nd kdd) f] w (RepP id m u b c z s me o a l x y q D (changeM D 4 i (finishZ id m u b c z s me o a l D.L i)).1 (changeM D 4 i (finishZ id m u b c z s me o a l D.L i)).2 [] z59 w) := by
 obtain ⟨A1, A2, A3, n1, n2, n3, k1, k2, k3, rfl, rfl, rfl, hn1, hn2, hn3, hC1, hC2, hC3, hk1, hk2, hk3, hrt, hL1, hLp, hlT, hlS, hcb⟩ := mc_open h hi
 have hb1 := hcb.1
 have hR := fun W h => finish_any id m u b c z s me o a l A1 k1 D.L i W h hk1
 have hWo := finishZ_one (id := id) (m := m) (u := u) (b := b) (c := c) (z := z) (s := s) (me := me) (o := o) (a := a) (l := l) (L := D.L) i
 rw [<- hn1] at hR
 have HMC := Lib.hid h; have HC1 := Lib.hid hC1
 obtain ⟨⟨r0, e0⟩, hr⟩ : ∃ r, finishZ id m u b c z s me o a l D.L i = r := ⟨_, rfl⟩
 rw [hr] at hR he hWo; (try dsimp only at hR he)
 have H := Lib.hid (Pk.start w)
 subst he
 obtain ⟨L1, rfl, hl1⟩ : ∃ L1, r0 = some L1 /\ L1.length = n1 := by
  rcases hWo with ⟨h, _⟩ | ⟨_, L1, h, h2⟩
  · exact absurd rfl h
  · exact ⟨L1, h, by rw [h2, hn1]⟩
 have hv : changeM D 4 i (some L1, 0) = (flushM ⟨L1, D.T, D.S⟩, 0) := rfl
 have HV := Lib.hid hv; have HR := Lib.hid hR; have HE := Lib.hid hr; have HL1 := Lib.hid hl1
 have HFI := Lib.hid (fun X W h => flushed_any id m u b c z s me o a l X (.slice A2 n2 k2) (.slice A3 n3 k3) ⟨L1, D.T, D.S⟩ W h (by show 0 < L1.length; omega) (by show D.S.length = L1.length; omega) (by show L1.length < 1000000000; omega))
 clear hv hR hr hWo hrt hcb hlT hlS h hi hl1 hn1 hn2 hn3 hk1 hk2 hk3 hC1 hC2 hC3
 go_enter Try.func77, Try.ntmps77
 go_wp2_with first
  | (apply bh H 2 (mL id m u b c z s me o a l (.slice A1 n1 k1) (.slice A2 n2 k2) (.slice A3 n3 k3)) 53; clear H; intro gM W1 H; obtain ⟨-, cM⟩ := n1_ H)
  | (apply bh H 3 (xL 4 i p n (.slice Ad nd kdd) f) 65; clear H cM; intro gX W2 H; obtain ⟨-, cX, cM⟩ := n2_ H)
  | (apply bh H 4 (mL 0 0 0 0 0 0 0 0 0 0 0 nil_ nil_ nil_) 53; clear H cX cM; intro gR W3 H; obtain ⟨-, cR, cX, cM⟩ := n3_ H)
  | (apply bh H 5 (rL 0 nil_ 0 0 0) 61; clear H cR cX cM; intro gP W4 H; obtain ⟨-, cP, cR, cX, cM⟩ := n4_ H)
  | (go_at_call 59; refine (HR.out _ (Kd.C_below HC1.out H.out.below)).mono ?_; rintro e W5 ⟨v, rfl, hT, hb⟩; clear cP cR cX cM; obtain ⟨A4, k4, rfl, hR⟩ := TabR_some hT; replace H := pr H hb hR; clear hT; clear hb; obtain ⟨-, cP, cR, cX, cM⟩ := n4_ H)
  | (apply bh H 7 (tL 0 0 0 0 0 0 0 0 0 0 0 nil_) 27; clear H cP cR cX cM; intro gT W6 H; obtain ⟨-, cT, cP, cR, cX, cM⟩ := n5_ H)
  | (apply sh H 0 27 7 gT (tL id m u b c z s me o a l (.slice A4 L1.length k4)); clear H cT cP cR cX cM; intro W7 K_; obtain ⟨H, cT, cP, cR, cX, cM⟩ := n5_ K_; clear K_)
  | (apply sp H 4 27 34 gM 0 (tL id m u b c z s me o a l (.slice A4 L1.length k4)) (mL id m u b c z s me o a l (.slice A4 L1.length k4) (.slice A2 n2 k2) (.slice A3 n3 k3)); clear H cT cP cR cX cM; intro W8 K_; obtain ⟨H, cT, cP, cR, cX, cM⟩ := n5_ K_; clear K_)
  | (go_at_call 76; refine (HFI.out _ _ ⟨SlC_R (H.out.fact 0 rfl), SlC_below HMC.out.2.1 H.out.below, SlC_below HMC.out.2.2 H.out.below⟩).mono ?_; rintro e W9 ⟨q7, rfl, hF, hb⟩; clear cT cP cR cX cM; obtain ⟨A7, k7, rfl⟩ := Kd.R_slice hF; simp only [List.length_map] at hF ⊢; replace H := pr H hb hF; clear hF; clear hb; obtain ⟨-, cT, cP, cR, cX, cM⟩ := n5_ H)
  | (apply sh H 4 53 2 gM (mL id m u b c z s me o a l (.slice A4 L1.length k4) (.slice A2 n2 k2) (.slice A7 L1.length k7)); clear H cT cP cR cX cM; intro W10 K_; obtain ⟨H, cT, cP, cR, cX, cM⟩ := n5_ K_; clear K_)
  | (apply sh H 2 53 4 gR (mL id m u b c z s me o a l (.slice A4 L1.length k4) (.slice A2 n2 k2) (.slice A7 L1.length k7)); clear H cT cP cR cX cM; intro W11 K_; obtain ⟨H, cT, cP, cR, cX, cM⟩ := n5_ K_; clear K_)
  | (apply sn H 1 61 5 gP (rL 0 nil_ 0 0 0))
 refine bodyPost_ret (results_cc rfl _ _ gR gP 53 61 (mL id m u b c z s me o a l (.slice A4 L1.length k4) (.slice A2 n2 k2) (.slice A7 L1.length k7)).toArray (rL 0 nil_ 0 0 0).toArray (0, 0) (0, 0) _ _ rfl (H.out.at_ 2 rfl) Try.underlying53 rfl (by kernel_rfl) rfl (H.out.at_ 1 rfl) Try.underlying61 rfl (by kernel_rfl)) rfl ?_
 rw [HE.out, HV.out]
 exact RepP_mk rfl ⟨.inr (H.out.fact 1 rfl), RowD_same, .inr (H.out.fact 0 rfl)⟩ (BR_nil _) H.out.below
theorem mfinish_any (id m u b c z s me o a l : Int) (x y q : Value) (D : Mdl) (i : Int) (p n : Int) (Ad : Option Addr) (nd kdd : Nat) (f : Bool) (w : World) (h : MC w x y q D) (hi : MInv id m u b c z s me o a l D) :
  Calls Try.prog 77 #[modV id m u b c z s me o a l x y q, cmdV 4 i p n (.slice Ad nd kdd) f] w (RepP id m u b c z s me o a l x y q D (changeM D 4 i (finishZ id m u b c z s me o a l D.L i)).1 (changeM D 4 i (finishZ id m u b c z s me o a l D.L i)).2 [] z59 w) := by
 by_cases he : (finishZ id m u b c z s me o a l D.L i).2 = 0
 · exact mfinish_ok id m u b c z s me o a l x y q D i p n Ad nd kdd f w h hi he
 · exact mfinish_err id m u b c z s me o a l x y q D i p n Ad nd kdd f w h hi he
set_option maxHeartbeats 1000000 in
set_option maxRecDepth 100000 in
theorem mopen_err (id m u b c z s me o a l : Int) (x y q : Value) (D : Mdl) (i : Int) (p n : Int) (Ad : Option Addr) (nd kdd : Nat) (f : Bool) (w : World) (h : MC w x y q D) (hi : MInv id m u b c z s me o a l D) (he : ¬ (openZ id m u b c z s me o a l D.L i).2 = 0) :
  Calls Try.prog 77 #[modV id m u b c z s me o a l x y q, cmdV 5 i p n (.slice Ad nd kdd) f] w (RepP id m u b c z s me o a l x y q D (changeM D 5 i (openZ id m u b c z s me o a l D.L i)).1 (changeM D 5 i (openZ id m u b c z s me o a l D.L i)).2 [] z59 w) := by
 obtain ⟨A1, A2, A3, n1, n2, n3, k1, k2, k3, rfl, rfl, rfl, hn1, hn2, hn3, hC1, hC2, hC3, hk1, hk2, hk3, hrt, hL1, hLp, hlT, hlS, hcb⟩ := mc_open h hi
 have hb1 := hcb.1
 have hR := fun W h => open_any id m u b c z s me o a l A1 k1 D.L i W h hk1
 have hWo := openZ_one (id := id) (m := m) (u := u) (b := b) (c := c) (z := z) (s := s) (me := me) (o := o) (a := a) (l := l) (L := D.L) i
 rw [<- hn1] at hR
 have HMC := Lib.hid h; have HC1 := Lib.hid hC1
 obtain ⟨⟨r0, e0⟩, hr⟩ : ∃ r, openZ id m u b c z s me o a l D.L i = r := ⟨_, rfl⟩
 rw [hr] at hR he hWo; (try dsimp only at hR he)
 have H := Lib.hid (Pk.start w)
 have hr1 : r0 = none := by rcases hWo with ⟨_, h⟩ | ⟨h, _⟩; exact h; exact absurd h he
 subst hr1
 have hv : changeM D 5 i (none, e0) = (D, e0) := by unfold changeM; rw [if_pos he]
 have HV := Lib.hid hv; have HR := Lib.hid hR; have HE := Lib.hid hr; have eb : (e0 == 0) = false := beq_eq_false_iff_ne.mpr he; have eb2 : (e0 != 0) = true := bne_iff_ne.mpr he
 clear hv hR he hr hWo hrt hcb hlT hlS h hi hn1 hn2 hn3 hk1 hk2 hk3 hC1 hC2 hC3
 go_enter Try.func77, Try.ntmps77
 go_wp2_with first
  | (apply bh H 2 (mL id m u b c z s me o a l (.slice A1 n1 k1) (.slice A2 n2 k2) (.slice A3 n3 k3)) 53; clear H; intro gM W1 H; obtain ⟨-, cM⟩ := n1_ H)
  | (apply bh H 3 (xL 5 i p n (.slice Ad nd kdd) f) 65; clear H cM; intro gX W2 H; obtain ⟨-, cX, cM⟩ := n2_ H)
  | (apply bh H 4 (mL 0 0 0 0 0 0 0 0 0 0 0 nil_ nil_ nil_) 53; clear H cX cM; intro gR W3 H; obtain ⟨-, cR, cX, cM⟩ := n3_ H)
  | (apply bh H 5 (rL 0 nil_ 0 0 0) 61; clear H cR cX cM; intro gP W4 H; obtain ⟨-, cP, cR, cX, cM⟩ := n4_ H)
  | (go_at_call 60; refine (HR.out _ (Kd.C_below HC1.out H.out.below)).mono ?_; rintro e W5 ⟨v, rfl, hT, hb⟩; clear cP cR cX cM; obtain rfl := TabR_none hT; replace H := pc H hb; clear hT; clear hb; obtain ⟨-, cP, cR, cX, cM⟩ := n4_ H)
  | (apply bh H 7 (tL 0 0 0 0 0 0 0 0 0 0 0 nil_) 27; clear H cP cR cX cM; intro gT W6 H; obtain ⟨-, cT, cP, cR, cX, cM⟩ := n5_ H)
  | (apply sn H 0 27 7 gT (tL 0 0 0 0 0 0 0 0 0 0 0 nil_))
  | (go_at_call 73; refine (failed_any id m u b c z s me o a l A1 A2 A3 n1 k1 n2 k2 n3 k3 (e0) _).mono ?_; rintro e W7 ⟨rfl, hb⟩; clear cT cP cR cX cM; replace H := pc H hb; clear hb; obtain ⟨-, cT, cP, cR, cX, cM⟩ := n5_ H)
  | (apply sh H 2 53 4 gR (mL id m u b c z s me o a l (.slice A1 n1 k1) (.slice A2 n2 k2) (.slice A3 n3 k3)); clear H cT cP cR cX cM; intro W8 K_; obtain ⟨H, cT, cP, cR, cX, cM⟩ := n5_ K_; clear K_)
  | (apply sh H 1 61 5 gP (rL e0 nil_ 0 0 0); clear H cT cP cR cX cM; intro W9 K_; obtain ⟨H, cT, cP, cR, cX, cM⟩ := n5_ K_; clear K_)
 refine bodyPost_ret (results_cc rfl _ _ gR gP 53 61 (mL id m u b c z s me o a l (.slice A1 n1 k1) (.slice A2 n2 k2) (.slice A3 n3 k3)).toArray (rL e0 nil_ 0 0 0).toArray (0, 0) (0, 0) _ _ rfl (H.out.at_ 2 rfl) Try.underlying53 rfl (by kernel_rfl) rfl (H.out.at_ 1 rfl) Try.underlying61 rfl (by kernel_rfl)) rfl ?_
 rw [HE.out, HV.out]
 exact RepP_mk rfl MD_same (BR_nil _) H.out.below
set_option maxHeartbeats 1000000 in
set_option maxRecDepth 100000 in
theorem mopen_ok (id m u b c z s me o a l : Int) (x y q : Value) (D : Mdl) (i : Int) (p n : Int) (Ad : Option Addr) (nd kdd : Nat) (f : Bool) (w : World) (h : MC w x y q D) (hi : MInv id m u b c z s me o a l D) (he : (openZ id m u b c z s me o a l D.L i).2 = 0) :
  Calls Try.prog 77 #[modV id m u b c z s me o a l x y q, cmdV 5 i p n (.slice Ad nd kdd) f] w (RepP id m u b c z s me o a l x y q D (changeM D 5 i (openZ id m u b c z s me o a l D.L i)).1 (changeM D 5 i (openZ id m u b c z s me o a l D.L i)).2 [] z59 w) := by
 obtain ⟨A1, A2, A3, n1, n2, n3, k1, k2, k3, rfl, rfl, rfl, hn1, hn2, hn3, hC1, hC2, hC3, hk1, hk2, hk3, hrt, hL1, hLp, hlT, hlS, hcb⟩ := mc_open h hi
 have hb1 := hcb.1
 have hR := fun W h => open_any id m u b c z s me o a l A1 k1 D.L i W h hk1
 have hWo := openZ_one (id := id) (m := m) (u := u) (b := b) (c := c) (z := z) (s := s) (me := me) (o := o) (a := a) (l := l) (L := D.L) i
 rw [<- hn1] at hR
 have HMC := Lib.hid h; have HC1 := Lib.hid hC1
 obtain ⟨⟨r0, e0⟩, hr⟩ : ∃ r, openZ id m u b c z s me o a l D.L i = r := ⟨_, rfl⟩
 rw [hr] at hR he hWo; (try dsimp only at hR he)
 have H := Lib.hid (Pk.start w)
 subst he
 obtain ⟨L1, rfl, hl1⟩ : ∃ L1, r0 = some L1 /\ L1.length = n1 := by
  rcases hWo with ⟨h, _⟩ | ⟨_, L1, h, h2⟩
  · exact absurd rfl h
  · exact ⟨L1, h, by rw [h2, hn1]⟩
 have hv : changeM D 5 i (some L1, 0) = (⟨L1, D.T, D.S⟩, 0) := rfl
 have HV := Lib.hid hv; have HR := Lib.hid hR; have HE := Lib.hid hr; have HL1 := Lib.hid hl1
 clear hv hR hr hWo hrt hcb hlT hlS h hi hl1 hn1 hn2 hn3 hk1 hk2 hk3 hC1 hC2 hC3
 go_enter Try.func77, Try.ntmps77
 go_wp2_with first
  | (apply bh H 2 (mL id m u b c z s me o a l (.slice A1 n1 k1) (.slice A2 n2 k2) (.slice A3 n3 k3)) 53; clear H; intro gM W1 H; obtain ⟨-, cM⟩ := n1_ H)
  | (apply bh H 3 (xL 5 i p n (.slice Ad nd kdd) f) 65; clear H cM; intro gX W2 H; obtain ⟨-, cX, cM⟩ := n2_ H)
  | (apply bh H 4 (mL 0 0 0 0 0 0 0 0 0 0 0 nil_ nil_ nil_) 53; clear H cX cM; intro gR W3 H; obtain ⟨-, cR, cX, cM⟩ := n3_ H)
  | (apply bh H 5 (rL 0 nil_ 0 0 0) 61; clear H cR cX cM; intro gP W4 H; obtain ⟨-, cP, cR, cX, cM⟩ := n4_ H)
  | (go_at_call 60; refine (HR.out _ (Kd.C_below HC1.out H.out.below)).mono ?_; rintro e W5 ⟨v, rfl, hT, hb⟩; clear cP cR cX cM; obtain ⟨A4, k4, rfl, hR⟩ := TabR_some hT; replace H := pr H hb hR; clear hT; clear hb; obtain ⟨-, cP, cR, cX, cM⟩ := n4_ H)
  | (apply bh H 7 (tL 0 0 0 0 0 0 0 0 0 0 0 nil_) 27; clear H cP cR cX cM; intro gT W6 H; obtain ⟨-, cT, cP, cR, cX, cM⟩ := n5_ H)
  | (apply sh H 0 27 7 gT (tL id m u b c z s me o a l (.slice A4 L1.length k4)); clear H cT cP cR cX cM; intro W7 K_; obtain ⟨H, cT, cP, cR, cX, cM⟩ := n5_ K_; clear K_)
  | (apply sp H 4 27 34 gM 0 (tL id m u b c z s me o a l (.slice A4 L1.length k4)) (mL id m u b c z s me o a l (.slice A4 L1.length k4) (.slice A2 n2 k2) (.slice A3 n3 k3)); clear H cT cP cR cX cM; intro W8 K_; obtain ⟨H, cT, cP, cR, cX, cM⟩ := n5_ K_; clear K_)
  | (apply sh H 2 53 4 gR (mL id m u b c z s me o a l (.slice A4 L1.length k4) (.slice A2 n2 k2) (.slice A3 n3 k3)); clear H cT cP cR cX cM; intro W9 K_; obtain ⟨H, cT, cP, cR, cX, cM⟩ := n5_ K_; clear K_)
  | (apply sn H 1 61 5 gP (rL 0 nil_ 0 0 0))
 refine bodyPost_ret (results_cc rfl _ _ gR gP 53 61 (mL id m u b c z s me o a l (.slice A4 L1.length k4) (.slice A2 n2 k2) (.slice A3 n3 k3)).toArray (rL 0 nil_ 0 0 0).toArray (0, 0) (0, 0) _ _ rfl (H.out.at_ 2 rfl) Try.underlying53 rfl (by kernel_rfl) rfl (H.out.at_ 1 rfl) Try.underlying61 rfl (by kernel_rfl)) rfl ?_
 rw [HE.out, HV.out]
 exact RepP_mk rfl ⟨.inr (H.out.fact 0 rfl), RowD_same, RowD_same⟩ (BR_nil _) H.out.below
theorem mopen_any (id m u b c z s me o a l : Int) (x y q : Value) (D : Mdl) (i : Int) (p n : Int) (Ad : Option Addr) (nd kdd : Nat) (f : Bool) (w : World) (h : MC w x y q D) (hi : MInv id m u b c z s me o a l D) :
  Calls Try.prog 77 #[modV id m u b c z s me o a l x y q, cmdV 5 i p n (.slice Ad nd kdd) f] w (RepP id m u b c z s me o a l x y q D (changeM D 5 i (openZ id m u b c z s me o a l D.L i)).1 (changeM D 5 i (openZ id m u b c z s me o a l D.L i)).2 [] z59 w) := by
 by_cases he : (openZ id m u b c z s me o a l D.L i).2 = 0
 · exact mopen_ok id m u b c z s me o a l x y q D i p n Ad nd kdd f w h hi he
 · exact mopen_err id m u b c z s me o a l x y q D i p n Ad nd kdd f w h hi he
set_option maxHeartbeats 1000000 in
set_option maxRecDepth 100000 in
theorem mclose_err (id m u b c z s me o a l : Int) (x y q : Value) (D : Mdl) (i : Int) (p n : Int) (Ad : Option Addr) (nd kdd : Nat) (f : Bool) (w : World) (h : MC w x y q D) (hi : MInv id m u b c z s me o a l D) (he : ¬ (closeZ id m u b c z s me o a l D.L i).2 = 0) :
  Calls Try.prog 77 #[modV id m u b c z s me o a l x y q, cmdV 6 i p n (.slice Ad nd kdd) f] w (RepP id m u b c z s me o a l x y q D (changeM D 6 i (closeZ id m u b c z s me o a l D.L i)).1 (changeM D 6 i (closeZ id m u b c z s me o a l D.L i)).2 [] z59 w) := by
 obtain ⟨A1, A2, A3, n1, n2, n3, k1, k2, k3, rfl, rfl, rfl, hn1, hn2, hn3, hC1, hC2, hC3, hk1, hk2, hk3, hrt, hL1, hLp, hlT, hlS, hcb⟩ := mc_open h hi
 have hb1 := hcb.1
 have hR := fun W h => close_any id m u b c z s me o a l A1 k1 D.L i W h hk1
 have hWo := closeZ_one (id := id) (m := m) (u := u) (b := b) (c := c) (z := z) (s := s) (me := me) (o := o) (a := a) (l := l) (L := D.L) i
 rw [<- hn1] at hR
 have HMC := Lib.hid h; have HC1 := Lib.hid hC1
 obtain ⟨⟨r0, e0⟩, hr⟩ : ∃ r, closeZ id m u b c z s me o a l D.L i = r := ⟨_, rfl⟩
 rw [hr] at hR he hWo; (try dsimp only at hR he)
 have H := Lib.hid (Pk.start w)
 have hr1 : r0 = none := by rcases hWo with ⟨_, h⟩ | ⟨h, _⟩; exact h; exact absurd h he
 subst hr1
 have hv : changeM D 6 i (none, e0) = (D, e0) := by unfold changeM; rw [if_pos he]
 have HV := Lib.hid hv; have HR := Lib.hid hR; have HE := Lib.hid hr; have eb : (e0 == 0) = false := beq_eq_false_iff_ne.mpr he; have eb2 : (e0 != 0) = true := bne_iff_ne.mpr he
 clear hv hR he hr hWo hrt hcb hlT hlS h hi hn1 hn2 hn3 hk1 hk2 hk3 hC1 hC2 hC3
 go_enter Try.func77, Try.ntmps77
 go_wp2_with first
  | (apply bh H 2 (mL id m u b c z s me o a l (.slice A1 n1 k1) (.slice A2 n2 k2) (.slice A3 n3 k3)) 53; clear H; intro gM W1 H; obtain ⟨-, cM⟩ := n1_ H)
  | (apply bh H 3 (xL 6 i p n (.slice Ad nd kdd) f) 65; clear H cM; intro gX W2 H; obtain ⟨-, cX, cM⟩ := n2_ H)
  | (apply bh H 4 (mL 0 0 0 0 0 0 0 0 0 0 0 nil_ nil_ nil_) 53; clear H cX cM; intro gR W3 H; obtain ⟨-, cR, cX, cM⟩ := n3_ H)
  | (apply bh H 5 (rL 0 nil_ 0 0 0) 61; clear H cR cX cM; intro gP W4 H; obtain ⟨-, cP, cR, cX, cM⟩ := n4_ H)
  | (go_at_call 61; refine (HR.out _ (Kd.C_below HC1.out H.out.below)).mono ?_; rintro e W5 ⟨v, rfl, hT, hb⟩; clear cP cR cX cM; obtain rfl := TabR_none hT; replace H := pc H hb; clear hT; clear hb; obtain ⟨-, cP, cR, cX, cM⟩ := n4_ H)
  | (apply bh H 7 (tL 0 0 0 0 0 0 0 0 0 0 0 nil_) 27; clear H cP cR cX cM; intro gT W6 H; obtain ⟨-, cT, cP, cR, cX, cM⟩ := n5_ H)
  | (apply sn H 0 27 7 gT (tL 0 0 0 0 0 0 0 0 0 0 0 nil_))
  | (go_at_call 73; refine (failed_any id m u b c z s me o a l A1 A2 A3 n1 k1 n2 k2 n3 k3 (e0) _).mono ?_; rintro e W7 ⟨rfl, hb⟩; clear cT cP cR cX cM; replace H := pc H hb; clear hb; obtain ⟨-, cT, cP, cR, cX, cM⟩ := n5_ H)
  | (apply sh H 2 53 4 gR (mL id m u b c z s me o a l (.slice A1 n1 k1) (.slice A2 n2 k2) (.slice A3 n3 k3)); clear H cT cP cR cX cM; intro W8 K_; obtain ⟨H, cT, cP, cR, cX, cM⟩ := n5_ K_; clear K_)
  | (apply sh H 1 61 5 gP (rL e0 nil_ 0 0 0); clear H cT cP cR cX cM; intro W9 K_; obtain ⟨H, cT, cP, cR, cX, cM⟩ := n5_ K_; clear K_)
 refine bodyPost_ret (results_cc rfl _ _ gR gP 53 61 (mL id m u b c z s me o a l (.slice A1 n1 k1) (.slice A2 n2 k2) (.slice A3 n3 k3)).toArray (rL e0 nil_ 0 0 0).toArray (0, 0) (0, 0) _ _ rfl (H.out.at_ 2 rfl) Try.underlying53 rfl (by kernel_rfl) rfl (H.out.at_ 1 rfl) Try.underlying61 rfl (by kernel_rfl)) rfl ?_
 rw [HE.out, HV.out]
 exact RepP_mk rfl MD_same (BR_nil _) H.out.below
set_option maxHeartbeats 1000000 in
set_option maxRecDepth 100000 in
theorem mclose_ok (id m u b c z s me o a l : Int) (x y q : Value) (D : Mdl) (i : Int) (p n : Int) (Ad : Option Addr) (nd kdd : Nat) (f : Bool) (w : World) (h : MC w x y q D) (hi : MInv id m u b c z s me o a l D) (he : (closeZ id m u b c z s me o a l D.L i).2 = 0) :
  Calls Try.prog 77 #[modV id m u b c z s me o a l x y q, cmdV 6 i p n (.slice Ad nd kdd) f] w (RepP id m u b c z s me o a l x y q D (changeM D 6 i (closeZ id m u b c z s me o a l D.L i)).1 (changeM D 6 i (closeZ id m u b c z s me o a l D.L i)).2 [] z59 w) := by
 obtain ⟨A1, A2, A3, n1, n2, n3, k1, k2, k3, rfl, rfl, rfl, hn1, hn2, hn3, hC1, hC2, hC3, hk1, hk2, hk3, hrt, hL1, hLp, hlT, hlS, hcb⟩ := mc_open h hi
 have hb1 := hcb.1
 have hR := fun W h => close_any id m u b c z s me o a l A1 k1 D.L i W h hk1
 have hWo := closeZ_one (id := id) (m := m) (u := u) (b := b) (c := c) (z := z) (s := s) (me := me) (o := o) (a := a) (l := l) (L := D.L) i
 rw [<- hn1] at hR
 have HMC := Lib.hid h; have HC1 := Lib.hid hC1
 obtain ⟨⟨r0, e0⟩, hr⟩ : ∃ r, closeZ id m u b c z s me o a l D.L i = r := ⟨_, rfl⟩
 rw [hr] at hR he hWo; (try dsimp only at hR he)
 have H := Lib.hid (Pk.start w)
 subst he
 obtain ⟨L1, rfl, hl1⟩ : ∃ L1, r0 = some L1 /\ L1.length = n1 := by
  rcases hWo with ⟨h, _⟩ | ⟨_, L1, h, h2⟩
  · exact absurd rfl h
  · exact ⟨L1, h, by rw [h2, hn1]⟩
 have hv : changeM D 6 i (some L1, 0) = (⟨L1, D.T, D.S⟩, 0) := rfl
 have HV := Lib.hid hv; have HR := Lib.hid hR; have HE := Lib.hid hr; have HL1 := Lib.hid hl1
 clear hv hR hr hWo hrt hcb hlT hlS h hi hl1 hn1 hn2 hn3 hk1 hk2 hk3 hC1 hC2 hC3
 go_enter Try.func77, Try.ntmps77
 go_wp2_with first
  | (apply bh H 2 (mL id m u b c z s me o a l (.slice A1 n1 k1) (.slice A2 n2 k2) (.slice A3 n3 k3)) 53; clear H; intro gM W1 H; obtain ⟨-, cM⟩ := n1_ H)
  | (apply bh H 3 (xL 6 i p n (.slice Ad nd kdd) f) 65; clear H cM; intro gX W2 H; obtain ⟨-, cX, cM⟩ := n2_ H)
  | (apply bh H 4 (mL 0 0 0 0 0 0 0 0 0 0 0 nil_ nil_ nil_) 53; clear H cX cM; intro gR W3 H; obtain ⟨-, cR, cX, cM⟩ := n3_ H)
  | (apply bh H 5 (rL 0 nil_ 0 0 0) 61; clear H cR cX cM; intro gP W4 H; obtain ⟨-, cP, cR, cX, cM⟩ := n4_ H)
  | (go_at_call 61; refine (HR.out _ (Kd.C_below HC1.out H.out.below)).mono ?_; rintro e W5 ⟨v, rfl, hT, hb⟩; clear cP cR cX cM; obtain ⟨A4, k4, rfl, hR⟩ := TabR_some hT; replace H := pr H hb hR; clear hT; clear hb; obtain ⟨-, cP, cR, cX, cM⟩ := n4_ H)
  | (apply bh H 7 (tL 0 0 0 0 0 0 0 0 0 0 0 nil_) 27; clear H cP cR cX cM; intro gT W6 H; obtain ⟨-, cT, cP, cR, cX, cM⟩ := n5_ H)
  | (apply sh H 0 27 7 gT (tL id m u b c z s me o a l (.slice A4 L1.length k4)); clear H cT cP cR cX cM; intro W7 K_; obtain ⟨H, cT, cP, cR, cX, cM⟩ := n5_ K_; clear K_)
  | (apply sp H 4 27 34 gM 0 (tL id m u b c z s me o a l (.slice A4 L1.length k4)) (mL id m u b c z s me o a l (.slice A4 L1.length k4) (.slice A2 n2 k2) (.slice A3 n3 k3)); clear H cT cP cR cX cM; intro W8 K_; obtain ⟨H, cT, cP, cR, cX, cM⟩ := n5_ K_; clear K_)
  | (apply sh H 2 53 4 gR (mL id m u b c z s me o a l (.slice A4 L1.length k4) (.slice A2 n2 k2) (.slice A3 n3 k3)); clear H cT cP cR cX cM; intro W9 K_; obtain ⟨H, cT, cP, cR, cX, cM⟩ := n5_ K_; clear K_)
  | (apply sn H 1 61 5 gP (rL 0 nil_ 0 0 0))
 refine bodyPost_ret (results_cc rfl _ _ gR gP 53 61 (mL id m u b c z s me o a l (.slice A4 L1.length k4) (.slice A2 n2 k2) (.slice A3 n3 k3)).toArray (rL 0 nil_ 0 0 0).toArray (0, 0) (0, 0) _ _ rfl (H.out.at_ 2 rfl) Try.underlying53 rfl (by kernel_rfl) rfl (H.out.at_ 1 rfl) Try.underlying61 rfl (by kernel_rfl)) rfl ?_
 rw [HE.out, HV.out]
 exact RepP_mk rfl ⟨.inr (H.out.fact 0 rfl), RowD_same, RowD_same⟩ (BR_nil _) H.out.below
theorem mclose_any (id m u b c z s me o a l : Int) (x y q : Value) (D : Mdl) (i : Int) (p n : Int) (Ad : Option Addr) (nd kdd : Nat) (f : Bool) (w : World) (h : MC w x y q D) (hi : MInv id m u b c z s me o a l D) :
  Calls Try.prog 77 #[modV id m u b c z s me o a l x y q, cmdV 6 i p n (.slice Ad nd kdd) f] w (RepP id m u b c z s me o a l x y q D (changeM D 6 i (closeZ id m u b c z s me o a l D.L i)).1 (changeM D 6 i (closeZ id m u b c z s me o a l D.L i)).2 [] z59 w) := by
 by_cases he : (closeZ id m u b c z s me o a l D.L i).2 = 0
 · exact mclose_ok id m u b c z s me o a l x y q D i p n Ad nd kdd f w h hi he
 · exact mclose_err id m u b c z s me o a l x y q D i p n Ad nd kdd f w h hi he
end Go.Proofs.Ytgckcaoncjhgbaa
