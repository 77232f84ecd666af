/- revetmentref18.Do, over the same plain model: some commands. -/
import Derived.Test.YtgckcaoncjhgbaaFMc
import Derived.Test.YtgckcaoncjhgbaaFRw
set_option maxHeartbeats 4000000
set_option maxRecDepth 100000
open Go.Lib (hid)
namespace Go.Proofs.Ytgckcaoncjhgbaa
open Go.RowKit Go.Proofs.Ytgckcaoncjhgbaa.PL Go.Proofs.YtgckcaoncjhgbaaW.PrintWords Go.Proofs.YtgckcaoncjhgbaaW.PrintLast
set_option linter.unusedVariables false
set_option linter.unusedSimpArgs false
attribute [local go_sem] List.getElem?_toArray List.getElem?_cons_succ List.getElem?_cons_zero mL tL cL xL rL oL
def vB_ : Bool × List (List Nat × List Nat) := (true, [([], []), ([0], [0]), ([], []), ([2], [2]), ([], []), ([4], [4]), ([], []), ([6], [6]), ([7], [7]), ([], []), ([9], [9]), ([8, 10], [8, 10]), ([1, 3, 5, 11], [1, 3, 5, 11]), ([12], [12]), ([13], [13]), ([13], [13]), ([], []), ([16, 14, 12, 0, 1, 2, 3, 4, 5, 6, 7, 8, 9, 10, 11, 12, 13, 14, 16], [14, 16]), ([15, 17, 0, 1, 2, 3, 4, 5, 6, 7, 8, 9, 10, 11, 12, 13, 14, 15, 16, 17], [15])])
theorem xA_ : rtab .any (kT_ Try.f28 9) = vB_ := by kernel_rfl
theorem xu_ : jO_ vB_.2 [0, 1, 0, 4, 0, 16, 0, 64, 192, 0, 512, 1984, 4095, 8191, 16383, 16383, 0, 98303, 262143] = true := by kernel_rfl
theorem rdo_write_a (id m u b c z s me o a l : Int) (x y q : Value) (D : Mdl) (i p n : Int) (Ad : Option Addr) (kdd : Nat) (d : List Int) (f : Bool) (w : World) (h : MC w x y q D) (hi : MInv id m u b c z s me o a l D) (hd : Kd.C (Kd.int .u8) w Ad d.length d) (hdk : d.length <= kdd) (hin : ¬ (0 <= i /\ i < (D.T.length : Int))) :
  Calls Try.prog 28 #[modV id m u b c z s me o a l x y q, cmdV 0 i p n (.slice Ad d.length kdd) f] w (RsP id m u b c z s me o a l x y q D (doM id m u b c z s me o a l D (⟨0, i, p, n, d, f⟩ : S65)) w) := by
 have hsz0 := hi.2.2.2
 obtain ⟨A1, A2, A3, n1, n2, n3, k1, k2, k3, rfl, rfl, rfl, hn1, hn2, hn3, hC1, hC2, hC3, hk1, hk2, hk3, hrt, hL1, hLp, hlT, hlS, hcb⟩ := jK_ h hi
 obtain ⟨nd, hnd⟩ : ∃ n, n = d.length := ⟨_, rfl⟩
 have hb1 := hcb.1
 have hnm : nd <= 9223372036854775807 := by rw [hnd]; exact hd.2.1
 have hv : doM id m u b c z s me o a l D ⟨0, i, p, n, d, f⟩ = (D, 2, ByteArray.empty, z59) := by show ((jM_ id m u b c z s me o a l D i p d f).1, (jM_ id m u b c z s me o a l D i p d f).2, ByteArray.empty, z59) = _; unfold jM_; rw [if_pos hin]
 have HV := hid hv
 rw [<- hn2] at hin
 rw [<- hnd] at hd hdk ⊢
 have HMC := hid h; have HD := hid hd; have HC1 := hid hC1; have HC2 := hid hC2; have HN1 := hid hn1
 clear h hi hd hrt hcb hlT hlS hsz0 hn1 hn2 hn3 hnd hk1 hk2 hk3 hC1 hC2 hC3 hv
 have h3_ : (¬ 0 <= i) \/ (0 <= i /\ ¬ i < (n2 : Int)) := by omega
 rcases h3_ with j0 | ⟨j0, j1⟩ <;> (
  have H := hid (Pk.start w)
  go_enter Try.func28, Try.ntmps28
  go_wp2_with first
   | (apply bh H 2 (mL id m u b c z s me o a l (.slice A1 n1 k1) (.slice A2 n2 k2) (.slice A3 n3 k3)) 68; clear H; intro gM W1 H; obtain ⟨-, cM⟩ := n1_ H)
   | (apply bh H 3 (xL 0 i p n (.slice Ad nd kdd) f) 65; clear H cM; intro gX W2 H; obtain ⟨-, cX, cM⟩ := n2_ H)
   | (apply bh H 4 (mL 0 0 0 0 0 0 0 0 0 0 0 nil_ nil_ nil_) 68; clear H cX cM; intro gR W3 H; obtain ⟨-, cR, cX, cM⟩ := n3_ H)
   | (apply bh H 7 (oL 0 0 0) 59; clear H cR cX cM; intro gZ W4 H; obtain ⟨-, cZ, cR, cX, cM⟩ := n4_ H)
   | (apply bh H 8 (cL 0 0 0 0 0 0 0 0 0 0 0) 23; clear H cZ cR cX cM; intro gC W5 H; obtain ⟨-, cC, cZ, cR, cX, cM⟩ := n5_ H)
   | (apply sh H 0 23 8 gC (cL id m u b c z s me o a l); clear H cC cZ cR cX cM; intro W6 K_; obtain ⟨H, cC, cZ, cR, cX, cM⟩ := n5_ K_; clear K_)
   | (apply sh H 2 68 4 gR (mL id m u b c z s me o a l (.slice A1 n1 k1) (.slice A2 n2 k2) (.slice A3 n3 k3)); clear H cC cZ cR cX cM; intro W7 K_; obtain ⟨H, cC, cZ, cR, cX, cM⟩ := n5_ K_; clear K_)
   | (apply sn H 1 59 7 gZ (oL 0 0 0))
  refine bodyPost_ret (jJ_ rfl _ _ gR gZ _ _ _ _ (0, 0) (0, 0) _ _ rfl (H.out.at_ 2 rfl) Try.underlying68 rfl (by kernel_rfl) rfl (H.out.at_ 1 rfl) Try.underlying59 rfl (by kernel_rfl)) rfl ?_
  exact vl_ HV.out rfl kp_ H.out.below)
theorem rdo_write_b (id m u b c z s me o a l : Int) (x y q : Value) (D : Mdl) (i p n : Int) (Ad : Option Addr) (kdd : Nat) (d : List Int) (f : Bool) (w : World) (h : MC w x y q D) (hi : MInv id m u b c z s me o a l D) (hd : Kd.C (Kd.int .u8) w Ad d.length d) (hdk : d.length <= kdd) (hin : 0 <= i /\ i < (D.T.length : Int)) (hal : ¬ (d.length : Int) % b = 0) :
  Calls Try.prog 28 #[modV id m u b c z s me o a l x y q, cmdV 0 i p n (.slice Ad d.length kdd) f] w (RsP id m u b c z s me o a l x y q D (doM id m u b c z s me o a l D (⟨0, i, p, n, d, f⟩ : S65)) w) := by
 have hsz0 := hi.2.2.2
 obtain ⟨A1, A2, A3, n1, n2, n3, k1, k2, k3, rfl, rfl, rfl, hn1, hn2, hn3, hC1, hC2, hC3, hk1, hk2, hk3, hrt, hL1, hLp, hlT, hlS, hcb⟩ := jK_ h hi
 obtain ⟨nd, hnd⟩ : ∃ n, n = d.length := ⟨_, rfl⟩
 have hb1 := hcb.1
 have hnm : nd <= 9223372036854775807 := by rw [hnd]; exact hd.2.1
 have hv : doM id m u b c z s me o a l D ⟨0, i, p, n, d, f⟩ = (D, 3, ByteArray.empty, z59) := by show ((jM_ id m u b c z s me o a l D i p d f).1, (jM_ id m u b c z s me o a l D i p d f).2, ByteArray.empty, z59) = _; unfold jM_; rw [if_neg (fun hh => hh hin), if_pos hal]
 have HV := hid hv
 rw [<- hn2] at hin
 rw [<- hnd] at hd hdk hal ⊢
 have HMC := hid h; have HD := hid hd; have HC1 := hid hC1; have HC2 := hid hC2; have HN1 := hid hn1
 obtain ⟨j0, j1⟩ := hin
 have htm : Int.tmod (nd : Int) b = (nd : Int) % b := Int.tmod_eq_emod_of_nonneg (by omega)
 have hbz : (b = 0) = False := eq_false (by omega)
 have hpm : 0 < (nd : Int) % b := by have := Int.emod_nonneg (nd : Int) (show b ≠ 0 by omega); omega
 clear h hi hd hrt hcb hlT hlS hsz0 hn1 hn2 hn3 hnd hk1 hk2 hk3 hC1 hC2 hC3 hv hal
 have H := hid (Pk.start w)
 go_enter Try.func28, Try.ntmps28
 go_wp2_with first
  | (apply bh H 2 (mL id m u b c z s me o a l (.slice A1 n1 k1) (.slice A2 n2 k2) (.slice A3 n3 k3)) 68; clear H; intro gM W1 H; obtain ⟨-, cM⟩ := n1_ H)
  | (apply bh H 3 (xL 0 i p n (.slice Ad nd kdd) f) 65; clear H cM; intro gX W2 H; obtain ⟨-, cX, cM⟩ := n2_ H)
  | (apply bh H 4 (mL 0 0 0 0 0 0 0 0 0 0 0 nil_ nil_ nil_) 68; clear H cX cM; intro gR W3 H; obtain ⟨-, cR, cX, cM⟩ := n3_ H)
  | (apply bh H 7 (oL 0 0 0) 59; clear H cR cX cM; intro gZ W4 H; obtain ⟨-, cZ, cR, cX, cM⟩ := n4_ H)
  | (apply bh H 8 (cL 0 0 0 0 0 0 0 0 0 0 0) 23; clear H cZ cR cX cM; intro gC W5 H; obtain ⟨-, cC, cZ, cR, cX, cM⟩ := n5_ H)
  | (apply sh H 0 23 8 gC (cL id m u b c z s me o a l); clear H cC cZ cR cX cM; intro W6 K_; obtain ⟨H, cC, cZ, cR, cX, cM⟩ := n5_ K_; clear K_)
  | (apply sh H 2 68 4 gR (mL id m u b c z s me o a l (.slice A1 n1 k1) (.slice A2 n2 k2) (.slice A3 n3 k3)); clear H cC cZ cR cX cM; intro W7 K_; obtain ⟨H, cC, cZ, cR, cX, cM⟩ := n5_ K_; clear K_)
  | (apply sn H 1 59 7 gZ (oL 0 0 0))
 refine bodyPost_ret (jJ_ rfl _ _ gR gZ _ _ _ _ (0, 0) (0, 0) _ _ rfl (H.out.at_ 2 rfl) Try.underlying68 rfl (by kernel_rfl) rfl (H.out.at_ 1 rfl) Try.underlying59 rfl (by kernel_rfl)) rfl ?_
 exact vl_ HV.out rfl kp_ H.out.below
theorem rdo_write_c (id m u b c z s me o a l : Int) (x y q : Value) (D : Mdl) (i p n : Int) (Ad : Option Addr) (kdd : Nat) (d : List Int) (f : Bool) (w : World) (h : MC w x y q D) (hi : MInv id m u b c z s me o a l D) (hd : Kd.C (Kd.int .u8) w Ad d.length d) (hdk : d.length <= kdd) (hin : 0 <= i /\ i < (D.T.length : Int)) (hal : (d.length : Int) % b = 0) (he : ¬ (ke_ id m u b c z s me o a l D.L i p ((d.length : Int) / b)).2 = 0) :
  Calls Try.prog 28 #[modV id m u b c z s me o a l x y q, cmdV 0 i p n (.slice Ad d.length kdd) f] w (RsP id m u b c z s me o a l x y q D (doM id m u b c z s me o a l D (⟨0, i, p, n, d, f⟩ : S65)) w) := by
 have hsz0 := hi.2.2.2
 obtain ⟨A1, A2, A3, n1, n2, n3, k1, k2, k3, rfl, rfl, rfl, hn1, hn2, hn3, hC1, hC2, hC3, hk1, hk2, hk3, hrt, hL1, hLp, hlT, hlS, hcb⟩ := jK_ h hi
 obtain ⟨nd, hnd⟩ : ∃ n, n = d.length := ⟨_, rfl⟩
 have hb1 := hcb.1
 have hnm : nd <= 9223372036854775807 := by rw [hnd]; exact hd.2.1
 have htd : Int.tdiv (nd : Int) b = (nd : Int) / b := Int.tdiv_eq_ediv_of_nonneg (by omega)
 have htm : Int.tmod (nd : Int) b = 0 := by rw [Int.tmod_eq_emod_of_nonneg (by omega), hnd]; exact hal
 have q0 : 0 <= (nd : Int) / b := Int.ediv_nonneg (by omega) (by omega)
 have q1 : (nd : Int) / b <= (nd : Int) := Int.ediv_le_self _ (by omega)
 have hwq : IntKind.i64.wrap ((nd : Int) / b) = (nd : Int) / b := by rw [kq_]; unfold wrap64; omega
 have hbz : (b = 0) = False := eq_false (by omega)
 have hWo := kY_ (id := id) (m := m) (u := u) (b := b) (c := c) (z := z) (s := s) (me := me) (o := o) (a := a) (l := l) (L := D.L) i p ((nd : Int) / b)
 have hW := fun W h => yP_ id m u b c z s me o a l A1 k1 D.L i p ((nd : Int) / b) W h hk1 (by omega)
 rw [<- hnd] at he
 obtain ⟨⟨r0, e0⟩, hr⟩ : ∃ r, ke_ id m u b c z s me o a l D.L i p ((nd : Int) / b) = r := ⟨_, rfl⟩
 rw [hr] at hW he hWo; (try dsimp only at hW he)
 have hr1 : r0 = none := by rcases hWo with ⟨_, h⟩ | ⟨h, _⟩; exact h; exact absurd h he
 subst hr1
 have hv : doM id m u b c z s me o a l D ⟨0, i, p, n, d, f⟩ = (D, e0, ByteArray.empty, z59) := by show ((jM_ id m u b c z s me o a l D i p d f).1, (jM_ id m u b c z s me o a l D i p d f).2, ByteArray.empty, z59) = _; unfold jM_; rw [if_neg (fun hh => hh hin), if_neg (fun hh => hh hal), <- hnd, hr, if_pos he]
 have HV := hid hv
 rw [<- hn2] at hin
 rw [<- hn1] at hW
 rw [<- hnd] at hd hdk ⊢
 have HMC := hid h; have HD := hid hd; have HC1 := hid hC1; have HC2 := hid hC2; have HN1 := hid hn1
 obtain ⟨j0, j1⟩ := hin
 have HW := hid hW
 have eb : (e0 == 0) = false := beq_eq_false_iff_ne.mpr he; have eb2 : (e0 != 0) = true := bne_iff_ne.mpr he
 clear h hi hd hrt hcb hlT hlS hsz0 hn1 hn2 hn3 hnd hk1 hk2 hk3 hC1 hC2 hC3 hv hal hW he hr hWo
 have H := hid (Pk.start w)
 go_enter Try.func28, Try.ntmps28
 go_wp2_with first
  | (apply bh H 2 (mL id m u b c z s me o a l (.slice A1 n1 k1) (.slice A2 n2 k2) (.slice A3 n3 k3)) 68; clear H; intro gM W1 H; obtain ⟨-, cM⟩ := n1_ H)
  | (apply bh H 3 (xL 0 i p n (.slice Ad nd kdd) f) 65; clear H cM; intro gX W2 H; obtain ⟨-, cX, cM⟩ := n2_ H)
  | (apply bh H 4 (mL 0 0 0 0 0 0 0 0 0 0 0 nil_ nil_ nil_) 68; clear H cX cM; intro gR W3 H; obtain ⟨-, cR, cX, cM⟩ := n3_ H)
  | (apply bh H 7 (oL 0 0 0) 59; clear H cR cX cM; intro gZ W4 H; obtain ⟨-, cZ, cR, cX, cM⟩ := n4_ H)
  | (apply bh H 8 (cL 0 0 0 0 0 0 0 0 0 0 0) 23; clear H cZ cR cX cM; intro gC W5 H; obtain ⟨-, cC, cZ, cR, cX, cM⟩ := n5_ H)
  | (apply sh H 0 23 8 gC (cL id m u b c z s me o a l); clear H cC cZ cR cX cM; intro W6 K_; obtain ⟨H, cC, cZ, cR, cX, cM⟩ := n5_ K_; clear K_)
 clear cC cZ cR cX cM
 refine jN_ (n := 19) (S := fun W => bW W gM (mL id m u b c z s me o a l (.slice A1 n1 k1) (.slice A2 n2 k2) (.slice A3 n3 k3)) /\ bW W gX (xL 0 i p n (.slice Ad nd kdd) f) /\ bW W gC (cL id m u b c z s me o a l)) (ds := []) (bq 19 0) (by kernel_rfl) rfl (by kernel_rfl) ⟨H.out.drew.cell 4 rfl, H.out.drew.cell 3 rfl, H.out.drew.cell 0 rfl⟩ (fun hHeld => ?_)
 refine jw_ xA_ xu_ (fun HT_ HW_ => ?_)
 have zH := H.out.drew
 generalize W6.drew = W7 at zH hHeld ⊢
 replace H := hid zH; clear zH
 apply pu 0 53 (bq 19 1) HT_
 apply tw 1 54 (bq 19 3) HT_ HW_ hHeld
 apply pu 2 55 (bq 19 7) HT_
 apply tw 3 56 (bq 19 15) HT_ HW_ hHeld
 apply pu 4 57 (bq 19 31) HT_
 apply tw 5 58 (bq 19 63) HT_ HW_ hHeld
 apply pu 6 59 (bq 19 127) HT_
 apply tw 7 60 (bq 19 255) HT_ HW_ hHeld
 apply pu 8 61 (bq 19 511) HT_
 apply pu 9 62 (bq 19 1023) HT_
 apply tw 10 63 (bq 19 2047) HT_ HW_ hHeld
 apply pu 11 64 (bq 19 4095) HT_
 have b0 := hid (Below.refl W7.heap.size W7)
 refine zM_ (σ := Nat) 2 (bq 19 131071) (fun y => [(65, .tuple #[tabV 0 0 0 0 0 0 0 0 0 0 0 (.slice none 0 0), .int .i64 e0]), (52, .tuple #[tabV 0 0 0 0 0 0 0 0 0 0 0 (.slice none 0 0), .int .i64 e0]), (66, tabV 0 0 0 0 0 0 0 0 0 0 0 (.slice none 0 0)), (67, .int .i64 e0), (10, .pointer (some ⟨y, 0, none⟩))]) (fun y W => (bW W gM (mL id m u b c z s me o a l (.slice A1 n1 k1) (.slice A2 n2 k2) (.slice A3 n3 k3)) /\ bW W gX (xL 0 i p n (.slice Ad nd kdd) f) /\ bW W gC (cL id m u b c z s me o a l)) /\ Below W7.heap.size W7 W /\ W.heap[y]? = some (.cells (tL 0 0 0 0 0 0 0 0 0 0 0 nil_).toArray 35 (0, 0)) /\ W7.heap.size <= y) ?_ ?_
 rotate_left
 ·
  intro hCont
  refine two_ (i := 12) (j := 16) (Ni := some 65) (Nj := some 10) (bq 19 8191) (bq 19 69631) rfl rfl rfl rfl (vL_ HT_.out (by kernel_rfl)) (by decide) (by decide) (fun K hK => ?_) (fun K hK => ?_)
  ·
   refine gs Try.func62 #[tabV id m u b c z s me o a l (.slice A1 n1 k1), .int .i64 i, .int .i64 p, .int .i64 ((nd : Int) / b)] ?_
   refine (HW.out _ (Kd.C_below HC1.out H.out.below)).mono ?_
   rintro e W8 ⟨v, rfl, hT, hb⟩
   refine ⟨_, rfl, ?_⟩
   obtain rfl := yY_ hT
   replace H := pc H hb
   replace b0 := hid (jc_ b0.out hb)
   clear hT
   clear hb
   refine hK.out _ _ ⟨H.out.cell 4 rfl, H.out.cell 3 rfl, H.out.cell 0 rfl⟩ (fun hHeld => ?_)
   clear hK K
   apply nm 0
   apply pu 13 52 (bq 19 16383) HT_
   apply pu 14 66 (bq 19 32767) HT_
   apply pu 15 67 (bq 19 65535) HT_
   apply on 16 (some 10) (bq 19 131071) HT_; intro K hK
   obtain ⟨-, cC, cZ, cR, cX, cM⟩ := n5_ H
   apply bhs H 10 (tL 0 0 0 0 0 0 0 0 0 0 0 nil_) 35
   clear H cC cZ cR cX cM
   intro gT W9 hg hb H
   have GT := hid (Nat.le_trans b0.out.size hg)
   replace b0 := hid (jc_ b0.out hb)
   clear hb hg
   refine hK.out _ _ ⟨H.out.cell 5 rfl, H.out.cell 4 rfl, H.out.cell 1 rfl⟩ (fun hHeld => ?_)
   clear hK K
   apply nm 0
   exact kw_ (by simp only [jS_, Act.put, List.setIfInBounds_toArray, List.set_cons_zero, List.set_cons_succ]) (hCont (gT) _ ⟨hHeld, b0.out, H.out.at_ 0 rfl, GT.out⟩)
  ·
   obtain ⟨-, cC, cZ, cR, cX, cM⟩ := n5_ H
   apply bhs H 10 (tL 0 0 0 0 0 0 0 0 0 0 0 nil_) 35
   clear H cC cZ cR cX cM
   intro gT W8 hg hb H
   have GT := hid (Nat.le_trans b0.out.size hg)
   replace b0 := hid (jc_ b0.out hb)
   clear hb hg
   refine hK.out _ _ ⟨H.out.cell 5 rfl, H.out.cell 4 rfl, H.out.cell 1 rfl⟩ (fun hHeld => ?_)
   clear hK K
   apply nm 0
   apply on 12 (some 65) (bq 19 73727) HT_; intro K hK
   refine gs Try.func62 #[tabV id m u b c z s me o a l (.slice A1 n1 k1), .int .i64 i, .int .i64 p, .int .i64 ((nd : Int) / b)] ?_
   refine (HW.out _ (Kd.C_below HC1.out H.out.below)).mono ?_
   rintro e W9 ⟨v, rfl, hT, hb⟩
   refine ⟨_, rfl, ?_⟩
   obtain rfl := yY_ hT
   replace H := pc H hb
   replace b0 := hid (jc_ b0.out hb)
   clear hT
   clear hb
   refine hK.out _ _ ⟨H.out.cell 5 rfl, H.out.cell 4 rfl, H.out.cell 1 rfl⟩ (fun hHeld => ?_)
   clear hK K
   apply nm 0
   apply pu 13 52 (bq 19 81919) HT_
   apply pu 14 66 (bq 19 98303) HT_
   apply pu 15 67 (bq 19 131071) HT_
   exact kw_ (by simp only [jS_, Act.put, List.setIfInBounds_toArray, List.set_cons_zero, List.set_cons_succ]) (hCont (gT) _ ⟨hHeld, b0.out, H.out.at_ 0 rfl, GT.out⟩)
 rintro gT W60 ⟨hHeld, hb, hT, hGT⟩
 (try dsimp only at hHeld hT hGT ⊢)
 replace H := hid (H.out.join hb hT hGT)
 clear b0 hb hT hGT
 refine kw_ (a' := ?_) ?_ ?_
 rotate_left
 ·
  simp only [jS_, Act.put, List.setIfInBounds_toArray, List.set_cons_zero, List.set_cons_succ]
  rfl
 apply on 17 none (bq 19 262143) HT_; intro K hK
 obtain ⟨-, cT, cC, cZ, cR, cX, cM⟩ := n6_ H
 apply sns H 0 35 10 gT (tL 0 0 0 0 0 0 0 0 0 0 0 nil_)
 clear cT cC cZ cR cX cM
 refine hK.out _ _ ⟨H.out.cell 5 rfl, H.out.cell 4 rfl, H.out.cell 1 rfl⟩ (fun hHeld => ?_)
 clear hK K
 apply pu 18 11 (bq 19 524287) HT_
 refine kk_ (jF_ HT_.out (by kernel_rfl)) ?_
 obtain ⟨-, cT, cC, cZ, cR, cX, cM⟩ := n6_ H
 go_wp2_with first
  | (apply sh H 3 68 4 gR (mL id m u b c z s me o a l (.slice A1 n1 k1) (.slice A2 n2 k2) (.slice A3 n3 k3)); clear H cT cC cZ cR cX cM; intro W61 K_; obtain ⟨H, cT, cC, cZ, cR, cX, cM⟩ := n6_ K_; clear K_)
  | (apply sn H 2 59 7 gZ (oL 0 0 0))
 refine bodyPost_ret (jJ_ rfl _ _ gR gZ _ _ _ _ (0, 0) (0, 0) _ _ rfl (H.out.at_ 3 rfl) Try.underlying68 rfl (by kernel_rfl) rfl (H.out.at_ 2 rfl) Try.underlying59 rfl (by kernel_rfl)) rfl ?_
 exact vl_ HV.out rfl kp_ H.out.below
end Go.Proofs.Ytgckcaoncjhgbaa
