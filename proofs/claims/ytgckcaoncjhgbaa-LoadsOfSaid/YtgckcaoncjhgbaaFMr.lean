/- model.read. -/
/- model.change. -/
import Derived.Test.YtgckcaoncjhgbaaFMb
set_option maxHeartbeats 1000000
set_option maxRecDepth 100000
open Go.Lib (hid)
namespace Go.Proofs.Ytgckcaoncjhgbaa
open Go.RowKit Go.Proofs.Ytgckcaoncjhgbaa.PL Go.Proofs.YtgckcaoncjhgbaaW.PrintWords Go.Proofs.YtgckcaoncjhgbaaW.PrintLast
set_option linter.unusedVariables false
set_option linter.unusedSimpArgs false
attribute [local go_sem] List.getElem?_toArray List.getElem?_cons_succ List.getElem?_cons_zero mL tL cL xL rL oL
def yh_ : Bool × List (List Nat × List Nat) := (true, [([], []), ([], []), ([1], [1]), ([], []), ([3], [3]), ([2, 4], [2, 4]), ([5], [5]), ([], []), ([7], [7]), ([], []), ([8, 9], [8, 9]), ([], []), ([11], [11]), ([], []), ([13], [13]), ([12, 14], [12, 14]), ([], []), ([15, 16], [15, 16]), ([6, 10, 17], [6, 10, 17]), ([18], [18]), ([19], [19]), ([0, 0], [0]), ([20, 21, 0, 1, 2, 3, 4, 5, 6, 7, 8, 9, 10, 11, 12, 13, 14, 15, 16, 17, 18, 19, 20, 21], [20])])
theorem zk_ : rtab .any (kT_ Try.f75 5) = yh_ := by kernel_rfl
theorem yW_ : jO_ yh_.2 [0, 0, 2, 0, 8, 30, 62, 0, 128, 0, 896, 0, 2048, 0, 8192, 30720, 0, 129024, 262142, 524286, 1048574, 1, 4194303] = true := by kernel_rfl
theorem mread_err (id m u b c z s me o a l : Int) (x y q : Value) (D : Mdl) (kd i p n : Int) (Ad : Option Addr) (nd kdd : Nat) (f : Bool) (w : World) (h : MC w x y q D) (hi : MInv id m u b c z s me o a l D) (he : ¬ xo_ id m u b c z s me o a l D.L i p n = 0) :
  Calls Try.prog 75 #[modV id m u b c z s me o a l x y q, cmdV kd i p n (.slice Ad nd kdd) f] w (RepP id m u b c z s me o a l x y q D D (vY_ id m u b c z s me o a l D i p n).1 (kb_ (vY_ id m u b c z s me o a l D i p n).2) z59 w) := by
 have hi0 := hi; have hs := fun a b => yL_ (i := i) hi a b
 obtain ⟨A1, A2, A3, n1, n2, n3, k1, k2, k3, rfl, rfl, rfl, hn1, hn2, hn3, hC1, hC2, hC3, hk1, hk2, hk3, hrt, hL1, hLp, hlT, hlS, hcb⟩ := jK_ h hi
 have hb1 := hcb.1
 have hR := fun W h => read_any id m u b c z s me o a l A1 k1 D.L i p n W h hk1
 rw [<- hn1] at hR
 rw [<- hn2] at hs
 have HMC := hid h; have HC1 := hid hC1; have HC2 := hid hC2
 obtain ⟨e0, hr⟩ : ∃ r, xo_ id m u b c z s me o a l D.L i p n = r := ⟨_, rfl⟩
 rw [hr] at hR he
 have H := hid (Pk.start w)
 have hv : vY_ id m u b c z s me o a l D i p n = (e0, ByteArray.empty) := by unfold vY_; rw [hr, if_pos he]
 have HV := hid hv; have HR := hid hR; have eb : (e0 == 0) = false := beq_eq_false_iff_ne.mpr he; have eb2 : (e0 != 0) = true := bne_iff_ne.mpr he
 clear hv hR he hr hs hi0 hrt hcb hlT hlS h hi hn1 hn2 hn3 hk1 hk2 hk3 hC1 hC2 hC3
 go_enter Try.func75, Try.ntmps75
 go_wp2_with first
  | (apply bh H 2 (mL id m u b c z s me o a l (.slice A1 n1 k1) (.slice A2 n2 k2) (.slice A3 n3 k3)) 53; clear H; intro gM W1 H; obtain ⟨-, cM⟩ := n1_ H)
  | (apply bh H 3 (xL kd i p n (.slice Ad nd kdd) f) 65; clear H cM; intro gX W2 H; obtain ⟨-, cX, cM⟩ := n2_ H)
  | (apply bh H 4 (mL 0 0 0 0 0 0 0 0 0 0 0 nil_ nil_ nil_) 53; clear H cX cM; intro gR W3 H; obtain ⟨-, cR, cX, cM⟩ := n3_ H)
  | (apply bh H 5 (rL 0 nil_ 0 0 0) 61; clear H cR cX cM; intro gP W4 H; obtain ⟨-, cP, cR, cX, cM⟩ := n4_ H)
  | (go_at_call 57; refine (HR.out _ (Kd.C_below HC1.out H.out.below)).mono ?_; rintro e W5 ⟨rfl, hb⟩; clear cP cR cX cM; replace H := pc H hb; clear hb; obtain ⟨-, cP, cR, cX, cM⟩ := n4_ H)
  | (go_at_call 73; refine (kG_ id m u b c z s me o a l A1 A2 A3 n1 k1 n2 k2 n3 k3 (e0) _).mono ?_; rintro e W6 ⟨rfl, hb⟩; clear cP cR cX cM; replace H := pc H hb; clear hb; obtain ⟨-, cP, cR, cX, cM⟩ := n4_ H)
  | (apply sh H 1 53 4 gR (mL id m u b c z s me o a l (.slice A1 n1 k1) (.slice A2 n2 k2) (.slice A3 n3 k3)); clear H cP cR cX cM; intro W7 K_; obtain ⟨H, cP, cR, cX, cM⟩ := n4_ K_; clear K_)
  | (apply sh H 0 61 5 gP (rL e0 nil_ 0 0 0); clear H cP cR cX cM; intro W8 K_; obtain ⟨H, cP, cR, cX, cM⟩ := n4_ K_; clear K_)
 refine bodyPost_ret (jG_ rfl _ _ gR gP 53 61 (mL id m u b c z s me o a l (.slice A1 n1 k1) (.slice A2 n2 k2) (.slice A3 n3 k3)).toArray (rL e0 nil_ 0 0 0).toArray (0, 0) (0, 0) _ _ rfl (H.out.at_ 1 rfl) Try.underlying53 rfl (by kernel_rfl) rfl (H.out.at_ 0 rfl) Try.underlying61 rfl (by kernel_rfl)) rfl ?_
 rw [HV.out]
 exact kl_ rfl kp_ (vu_ _) H.out.below
theorem mread_ok (id m u b c z s me o a l : Int) (x y q : Value) (D : Mdl) (kd i p n : Int) (Ad : Option Addr) (nd kdd : Nat) (f : Bool) (w : World) (h : MC w x y q D) (hi : MInv id m u b c z s me o a l D) (he : xo_ id m u b c z s me o a l D.L i p n = 0) :
  Calls Try.prog 75 #[modV id m u b c z s me o a l x y q, cmdV kd i p n (.slice Ad nd kdd) f] w (RepP id m u b c z s me o a l x y q D D (vY_ id m u b c z s me o a l D i p n).1 (kb_ (vY_ id m u b c z s me o a l D i p n).2) z59 w) := by
 have hi0 := hi; have hs := fun a b => yL_ (i := i) hi a b
 obtain ⟨A1, A2, A3, n1, n2, n3, k1, k2, k3, rfl, rfl, rfl, hn1, hn2, hn3, hC1, hC2, hC3, hk1, hk2, hk3, hrt, hL1, hLp, hlT, hlS, hcb⟩ := jK_ h hi
 have hb1 := hcb.1
 have hR := fun W h => read_any id m u b c z s me o a l A1 k1 D.L i p n W h hk1
 rw [<- hn1] at hR
 rw [<- hn2] at hs
 have HMC := hid h; have HC1 := hid hC1; have HC2 := hid hC2
 obtain ⟨e0, hr⟩ : ∃ r, xo_ id m u b c z s me o a l D.L i p n = r := ⟨_, rfl⟩
 rw [hr] at hR he
 have H := hid (Pk.start w)
 subst he
 obtain ⟨i0, i1, g1, g2, g3⟩ := readZ_ok hrt hr
 rw [<- hn1] at i1
 have i2 : i < (n2 : Int) := by omega
 obtain ⟨-, -, -, hsz⟩ := hi0
 have hsz := (hsz i.toNat (by omega)).1
 rw [Int.toNat_of_nonneg i0] at hsz
 obtain ⟨ad2, rfl⟩ := zh_ hC2 (by omega)
 have hs := hs i0 i2
 obtain ⟨tx, htx⟩ : ∃ t, t = rdOf default D.T i := ⟨_, rfl⟩
 rw [<- htx] at hs hsz
 have m1 : p * b <= (tx.size : Int) := by rw [hsz]; exact Int.mul_le_mul_of_nonneg_right (by omega) (by omega)
 have m2 : (p + n) * b <= (tx.size : Int) := by rw [hsz]; exact Int.mul_le_mul_of_nonneg_right (by omega) (by omega)
 have m3 : 0 <= p * b := Int.mul_nonneg (by omega) (by omega)
 have m4 : p * b <= (p + n) * b := Int.mul_le_mul_of_nonneg_right (by omega) (by omega)
 have m5 : p + n <= (p + n) * b := by have := Int.mul_le_mul_of_nonneg_left (show (1 : Int) <= b by omega) (show 0 <= p + n by omega); omega
 have w1 : IntKind.i64.wrap (p * b) = p * b := by rw [kq_]; unfold wrap64; omega
 have w2 : IntKind.i64.wrap (p + n) = p + n := by rw [kq_]; unfold wrap64; omega
 have w3 : IntKind.i64.wrap ((p + n) * b) = (p + n) * b := by rw [kq_]; unfold wrap64; omega
 obtain ⟨lo, hlo⟩ : ∃ k : Int, k = p * b := ⟨_, rfl⟩
 obtain ⟨hh, hhh⟩ : ∃ k : Int, k = (p + n) * b := ⟨_, rfl⟩
 have x1 : IntKind.i64.wrap (p * b) = lo := by rw [hlo]; exact w1
 have y1 : wrap64 (p * b) = lo := by rw [hlo, <- kq_]; exact w1
 have x3 : IntKind.i64.wrap ((p + n) * b) = hh := by rw [hhh]; exact w3
 have y3 : wrap64 ((p + n) * b) = hh := by rw [hhh, <- kq_]; exact w3
 have y2 : wrap64 (p + n) = p + n := by rw [<- kq_]; exact w2
 rw [<- hlo] at m1 m3 m4
 rw [<- hhh] at m2 m4
 clear w1 w3
 obtain ⟨sx, hsx⟩ : ∃ t, tx.extract lo.toNat hh.toNat = t := ⟨_, rfl⟩
 have hxs : sx.size <= 9223372036854775807 := by rw [<- hsx, ByteArray.size_extract]; omega
 have hv : vY_ id m u b c z s me o a l D i p n = (0, sx) := by unfold vY_; rw [hr, if_neg (by simp), <- htx, <- hlo, <- hhh, hsx]
 have HV := hid hv; have HR := hid hR; have HTX := hid htx; have HXS := hid hxs; clear hv hr hR htx hxs hrt hsz hcb hlT hlS h hi g1 g2 g3 m5
 clear hlo hhh hn1 hn2 hn3 hk1 hk2 hk3 hC1 hC2 hC3
 go_enter Try.func75, Try.ntmps75
 go_wp2_with first
  | (apply bh H 2 (mL id m u b c z s me o a l (.slice A1 n1 k1) (.slice (some ad2) n2 k2) (.slice A3 n3 k3)) 53; clear H; intro gM W1 H; obtain ⟨-, cM⟩ := n1_ H)
  | (apply bh H 3 (xL kd i p n (.slice Ad nd kdd) f) 65; clear H cM; intro gX W2 H; obtain ⟨-, cX, cM⟩ := n2_ H)
  | (apply bh H 4 (mL 0 0 0 0 0 0 0 0 0 0 0 nil_ nil_ nil_) 53; clear H cX cM; intro gR W3 H; obtain ⟨-, cR, cX, cM⟩ := n3_ H)
  | (apply bh H 5 (rL 0 nil_ 0 0 0) 61; clear H cR cX cM; intro gP W4 H; obtain ⟨-, cP, cR, cX, cM⟩ := n4_ H)
  | (go_at_call 57; refine (HR.out _ (Kd.C_below HC1.out H.out.below)).mono ?_; rintro e W5 ⟨rfl, hb⟩; clear cP cR cX cM; replace H := pc H hb; clear hb; obtain ⟨-, cP, cR, cX, cM⟩ := n4_ H)
 clear cP cR cX cM
 refine jN_ (n := 23) (S := fun W => bW W gM (mL id m u b c z s me o a l (.slice A1 n1 k1) (.slice (some ad2) n2 k2) (.slice A3 n3 k3)) /\ bW W gX (xL kd i p n (.slice Ad nd kdd) f) /\ W.cell? (ad2.add i.toNat) = some (.string tx)) (ds := []) (bq 23 0) (by kernel_rfl) rfl (by kernel_rfl) ⟨H.out.drew.cell 3 rfl, H.out.drew.cell 2 rfl, (by rw [HTX.out]; exact C_el default (Kd.C_below HC2.out (H.out.drew).below) i i0 i2)⟩ (fun hHeld => ?_)
 refine jw_ zk_ yW_ (fun HT_ HW_ => ?_)
 have zH := H.out.drew
 generalize W5.drew = W6 at zH hHeld ⊢
 replace H := hid zH; clear zH
 apply tw 0 28 (bq 23 1) HT_ HW_ hHeld
 apply pu 1 29 (bq 23 3) HT_
 apply tw 2 30 (bq 23 7) HT_ HW_ hHeld
 apply pu 3 31 (bq 23 15) HT_
 apply tw 4 32 (bq 23 31) HT_ HW_ hHeld
 apply pu 5 33 (bq 23 63) HT_
 apply tw 6 34 (bq 23 127) HT_ HW_ hHeld
 apply pu 7 35 (bq 23 255) HT_
 apply tw 8 36 (bq 23 511) HT_ HW_ hHeld
 apply pu 9 37 (bq 23 1023) HT_
 apply pu 10 38 (bq 23 2047) HT_
 apply pu 11 39 (bq 23 4095) HT_
 apply tw 12 40 (bq 23 8191) HT_ HW_ hHeld
 apply pu 13 41 (bq 23 16383) HT_
 apply tw 14 42 (bq 23 32767) HT_ HW_ hHeld
 apply pu 15 43 (bq 23 65535) HT_
 apply pu 16 44 (bq 23 131071) HT_
 apply pu 17 45 (bq 23 262143) HT_
 apply pu 18 46 (bq 23 524287) HT_
 refine zM_ (σ := Nat × Nat) 1 (bq 23 4194303) (fun y => [(47, .slice (some ⟨y.1, 0, none⟩) sx.size y.2), (48, .agg #[.int .i64 0, .slice (some ⟨y.1, 0, none⟩) sx.size y.2, .int .i64 0, .int .i64 0, .int .i64 0])]) (fun y W => (bW W gM (mL id m u b c z s me o a l (.slice A1 n1 k1) (.slice (some ad2) n2 k2) (.slice A3 n3 k3)) /\ bW W gX (xL kd i p n (.slice Ad nd kdd) f) /\ W.cell? (ad2.add i.toNat) = some (.string tx)) /\ Pk w W [⟨gP, 61, (rL 0 nil_ 0 0 0).toArray⟩, ⟨gR, 53, (mL id m u b c z s me o a l (.slice A1 n1 k1) (.slice (some ad2) n2 k2) (.slice A3 n3 k3)).toArray⟩, ⟨gX, 65, (xL kd i p n (.slice Ad nd kdd) f).toArray⟩, ⟨gM, 53, (mL id m u b c z s me o a l (.slice A1 n1 k1) (.slice (some ad2) n2 k2) (.slice A3 n3 k3)).toArray⟩] [BytF (.slice (some ⟨y.1, 0, none⟩) sx.size y.2) (kb_ sx)]) ?_ ?_
 rotate_left
 ·
  intro hCont
  refine two_ (i := 19) (j := 21) (Ni := some 47) (Nj := none) (bq 23 1048575) (bq 23 2621439) rfl rfl rfl rfl (vL_ HT_.out (by kernel_rfl)) (by decide) (by decide) (fun K hK => ?_) (fun K hK => ?_)
  ·
   obtain ⟨-, cP, cR, cX, cM⟩ := n4_ H
   have hr_ := zI_ (P := Try.prog) 9 57 5 Try.underlying9 Try.underlying57 Try.underlying5 sx W6
   refine yb_ rfl (v := .slice (some ⟨W6.heap.size, 0, none⟩) sx.size (grownCap W6 sx.size 0 5)) (w1 := Lib.bytesWorld W6 5 sx) ?hr ?_
   (case hr => first | (go_simp; done) | (go_simp; rfl))
   clear hr_
   clear cP cR cX cM
   have hb : Below W6.heap.size W6 (Lib.bytesWorld W6 5 sx) := zX_ (Below.refl _ _) (Nat.le_refl _) _ _
   have hR : BR (Lib.bytesWorld W6 5 sx) (.slice (some ⟨W6.heap.size, 0, none⟩) sx.size (grownCap W6 sx.size 0 5)) (kb_ sx) := BR_bytes _ _ (HXS.out) _ (grownCap_ge _ _ _ _)
   generalize Lib.bytesWorld W6 5 sx = W7 at hb hR ⊢
   generalize grownCap W6 sx.size 0 5 = cV_ at hR ⊢
   generalize W6.heap.size = gV_ at hR ⊢
   replace H := hid ((H.out.called hb).row (BytF (.slice (some ⟨gV_, 0, none⟩) sx.size cV_) (kb_ sx)) (hR))
   clear hb hR
   refine hK.out _ _ ⟨H.out.cell 3 rfl, H.out.cell 2 rfl, (by rw [HTX.out]; exact C_el default (Kd.C_below HC2.out H.out.below) i i0 i2)⟩ (fun hHeld => ?_)
   clear hK K
   apply nm 0
   apply pu 20 48 (bq 23 2097151) HT_
   apply on 21 none (bq 23 4194303) HT_; intro K hK
   obtain ⟨-, cP, cR, cX, cM⟩ := n4_ H
   apply shs H 1 53 4 gR (mL id m u b c z s me o a l (.slice A1 n1 k1) (.slice (some ad2) n2 k2) (.slice A3 n3 k3))
   clear H cP cR cX cM
   intro W8 K_
   have H := (n4_ K_).1; clear K_
   refine hK.out _ _ ⟨H.out.cell 3 rfl, H.out.cell 2 rfl, (by rw [HTX.out]; exact C_el default (Kd.C_below HC2.out H.out.below) i i0 i2)⟩ (fun hHeld => ?_)
   clear hK K
   exact kw_ (by simp only [jS_, Act.put, List.setIfInBounds_toArray, List.set_cons_zero, List.set_cons_succ]) (hCont (gV_, cV_) _ ⟨hHeld, H.out⟩)
  ·
   obtain ⟨-, cP, cR, cX, cM⟩ := n4_ H
   apply shs H 1 53 4 gR (mL id m u b c z s me o a l (.slice A1 n1 k1) (.slice (some ad2) n2 k2) (.slice A3 n3 k3))
   clear H cP cR cX cM
   intro W7 K_
   have H := (n4_ K_).1; clear K_
   refine hK.out _ _ ⟨H.out.cell 3 rfl, H.out.cell 2 rfl, (by rw [HTX.out]; exact C_el default (Kd.C_below HC2.out H.out.below) i i0 i2)⟩ (fun hHeld => ?_)
   clear hK K
   apply on 19 (some 47) (bq 23 3145727) HT_; intro K hK
   obtain ⟨-, cP, cR, cX, cM⟩ := n4_ H
   have hr_ := zI_ (P := Try.prog) 9 57 5 Try.underlying9 Try.underlying57 Try.underlying5 sx W7
   refine yb_ rfl (v := .slice (some ⟨W7.heap.size, 0, none⟩) sx.size (grownCap W7 sx.size 0 5)) (w1 := Lib.bytesWorld W7 5 sx) ?hr ?_
   (case hr => first | (go_simp; done) | (go_simp; rfl))
   clear hr_
   clear cP cR cX cM
   have hb : Below W7.heap.size W7 (Lib.bytesWorld W7 5 sx) := zX_ (Below.refl _ _) (Nat.le_refl _) _ _
   have hR : BR (Lib.bytesWorld W7 5 sx) (.slice (some ⟨W7.heap.size, 0, none⟩) sx.size (grownCap W7 sx.size 0 5)) (kb_ sx) := BR_bytes _ _ (HXS.out) _ (grownCap_ge _ _ _ _)
   generalize Lib.bytesWorld W7 5 sx = W8 at hb hR ⊢
   generalize grownCap W7 sx.size 0 5 = cV_ at hR ⊢
   generalize W7.heap.size = gV_ at hR ⊢
   replace H := hid ((H.out.called hb).row (BytF (.slice (some ⟨gV_, 0, none⟩) sx.size cV_) (kb_ sx)) (hR))
   clear hb hR
   refine hK.out _ _ ⟨H.out.cell 3 rfl, H.out.cell 2 rfl, (by rw [HTX.out]; exact C_el default (Kd.C_below HC2.out H.out.below) i i0 i2)⟩ (fun hHeld => ?_)
   clear hK K
   apply nm 0
   apply pu 20 48 (bq 23 4194303) HT_
   exact kw_ (by simp only [jS_, Act.put, List.setIfInBounds_toArray, List.set_cons_zero, List.set_cons_succ]) (hCont (gV_, cV_) _ ⟨hHeld, H.out⟩)
 rintro ⟨gV_, cV_⟩ W59 ⟨hHeld, hPk⟩
 (try dsimp only at hHeld hPk ⊢)
 replace H := hid hPk; clear hPk
 refine kw_ (a' := ?_) ?_ ?_
 rotate_left
 ·
  simp only [jS_, Act.put, List.setIfInBounds_toArray, List.set_cons_zero, List.set_cons_succ]
  rfl
 apply on 22 none (bq 23 8388607) HT_; intro K hK
 obtain ⟨-, cP, cR, cX, cM⟩ := n4_ H
 apply shs H 0 61 5 gP (rL 0 (.slice (some ⟨gV_, 0, none⟩) sx.size cV_) 0 0 0)
 clear H cP cR cX cM
 intro W60 K_
 have H := (n4_ K_).1; clear K_
 refine hK.out _ _ ⟨H.out.cell 3 rfl, H.out.cell 2 rfl, (by rw [HTX.out]; exact C_el default (Kd.C_below HC2.out H.out.below) i i0 i2)⟩ (fun hHeld => ?_)
 clear hK K
 refine kk_ (jF_ HT_.out (by kernel_rfl)) ?_
 obtain ⟨-, cP, cR, cX, cM⟩ := n4_ H
 go_wp2
 refine bodyPost_ret (jG_ rfl _ _ gR gP 53 61 (mL id m u b c z s me o a l (.slice A1 n1 k1) (.slice (some ad2) n2 k2) (.slice A3 n3 k3)).toArray (rL 0 (.slice (some ⟨gV_, 0, none⟩) sx.size cV_) 0 0 0).toArray (0, 0) (0, 0) _ _ rfl (H.out.at_ 1 rfl) Try.underlying53 rfl (by kernel_rfl) rfl (H.out.at_ 0 rfl) Try.underlying61 rfl (by kernel_rfl)) rfl ?_
 rw [HV.out]
 exact kl_ rfl kp_ (H.out.fact 0 rfl) H.out.below
theorem mread_any (id m u b c z s me o a l : Int) (x y q : Value) (D : Mdl) (kd i p n : Int) (Ad : Option Addr) (nd kdd : Nat) (f : Bool) (w : World) (h : MC w x y q D) (hi : MInv id m u b c z s me o a l D) :
  Calls Try.prog 75 #[modV id m u b c z s me o a l x y q, cmdV kd i p n (.slice Ad nd kdd) f] w (RepP id m u b c z s me o a l x y q D D (vY_ id m u b c z s me o a l D i p n).1 (kb_ (vY_ id m u b c z s me o a l D i p n).2) z59 w) := by
 by_cases he : xo_ id m u b c z s me o a l D.L i p n = 0
 · exact mread_ok id m u b c z s me o a l x y q D kd i p n Ad nd kdd f w h hi he
 · exact mread_err id m u b c z s me o a l x y q D kd i p n Ad nd kdd f w h hi he
theorem mreset_err (id m u b c z s me o a l : Int) (x y q : Value) (D : Mdl) (i : Int) (p n : Int) (Ad : Option Addr) (nd kdd : Nat) (f : Bool) (w : World) (h : MC w x y q D) (hi : MInv id m u b c z s me o a l D) (he : ¬ (jT_ id m u b c z s me o a l D.L i).2 = 0) :
  Calls Try.prog 77 #[modV id m u b c z s me o a l x y q, cmdV 3 i p n (.slice Ad nd kdd) f] w (RepP id m u b c z s me o a l x y q D (jr_ D 3 i (jT_ id m u b c z s me o a l D.L i)).1 (jr_ D 3 i (jT_ id m u b c z s me o a l D.L i)).2 [] z59 w) := by
 obtain ⟨A1, A2, A3, n1, n2, n3, k1, k2, k3, rfl, rfl, rfl, hn1, hn2, hn3, hC1, hC2, hC3, hk1, hk2, hk3, hrt, hL1, hLp, hlT, hlS, hcb⟩ := jK_ h hi
 have hb1 := hcb.1
 have hR := fun W h => reset_any id m u b c z s me o a l A1 k1 D.L i W h hk1
 have hWo := xV_ (id := id) (m := m) (u := u) (b := b) (c := c) (z := z) (s := s) (me := me) (o := o) (a := a) (l := l) (L := D.L) i
 have hin := fun h => resetZ_in (id := id) (m := m) (u := u) (b := b) (c := c) (z := z) (s := s) (me := me) (o := o) (a := a) (l := l) (L := D.L) (i := i) h
 rw [<- hn1] at hR
 have HMC := hid h; have HC1 := hid hC1
 obtain ⟨⟨r0, e0⟩, hr⟩ : ∃ r, jT_ id m u b c z s me o a l D.L i = r := ⟨_, rfl⟩
 rw [hr] at hR he hWo hin; (try dsimp only at hR he)
 have H := hid (Pk.start w)
 have hr1 : r0 = none := by rcases hWo with ⟨_, h⟩ | ⟨h, _⟩; exact h; exact absurd h he
 subst hr1
 have hv : jr_ D 3 i (none, e0) = (D, e0) := by unfold jr_; rw [if_pos he]
 have HV := hid hv; have HR := hid hR; have HE := hid hr; have eb : (e0 == 0) = false := beq_eq_false_iff_ne.mpr he; have eb2 : (e0 != 0) = true := bne_iff_ne.mpr he
 clear hv hR he hr hWo hrt hcb hlT hlS h hi hn1 hn2 hn3 hk1 hk2 hk3 hC1 hC2 hC3 hin
 go_enter Try.func77, Try.ntmps77
 go_wp2_with first
  | (apply bh H 2 (mL id m u b c z s me o a l (.slice A1 n1 k1) (.slice A2 n2 k2) (.slice A3 n3 k3)) 53; clear H; intro gM W1 H; obtain ⟨-, cM⟩ := n1_ H)
  | (apply bh H 3 (xL 3 i p n (.slice Ad nd kdd) f) 65; clear H cM; intro gX W2 H; obtain ⟨-, cX, cM⟩ := n2_ H)
  | (apply bh H 4 (mL 0 0 0 0 0 0 0 0 0 0 0 nil_ nil_ nil_) 53; clear H cX cM; intro gR W3 H; obtain ⟨-, cR, cX, cM⟩ := n3_ H)
  | (apply bh H 5 (rL 0 nil_ 0 0 0) 61; clear H cR cX cM; intro gP W4 H; obtain ⟨-, cP, cR, cX, cM⟩ := n4_ H)
  | (go_at_call 58; refine (HR.out _ (Kd.C_below HC1.out H.out.below)).mono ?_; rintro e W5 ⟨v, rfl, hT, hb⟩; clear cP cR cX cM; obtain rfl := xv_ hT; replace H := pc H hb; clear hT; clear hb; obtain ⟨-, cP, cR, cX, cM⟩ := n4_ H)
  | (apply bh H 7 (tL 0 0 0 0 0 0 0 0 0 0 0 nil_) 27; clear H cP cR cX cM; intro gT W6 H; obtain ⟨-, cT, cP, cR, cX, cM⟩ := n5_ H)
  | (apply sn H 0 27 7 gT (tL 0 0 0 0 0 0 0 0 0 0 0 nil_))
  | (go_at_call 73; refine (kG_ id m u b c z s me o a l A1 A2 A3 n1 k1 n2 k2 n3 k3 (e0) _).mono ?_; rintro e W7 ⟨rfl, hb⟩; clear cT cP cR cX cM; replace H := pc H hb; clear hb; obtain ⟨-, cT, cP, cR, cX, cM⟩ := n5_ H)
  | (apply sh H 2 53 4 gR (mL id m u b c z s me o a l (.slice A1 n1 k1) (.slice A2 n2 k2) (.slice A3 n3 k3)); clear H cT cP cR cX cM; intro W8 K_; obtain ⟨H, cT, cP, cR, cX, cM⟩ := n5_ K_; clear K_)
  | (apply sh H 1 61 5 gP (rL e0 nil_ 0 0 0); clear H cT cP cR cX cM; intro W9 K_; obtain ⟨H, cT, cP, cR, cX, cM⟩ := n5_ K_; clear K_)
 refine bodyPost_ret (jG_ rfl _ _ gR gP 53 61 (mL id m u b c z s me o a l (.slice A1 n1 k1) (.slice A2 n2 k2) (.slice A3 n3 k3)).toArray (rL e0 nil_ 0 0 0).toArray (0, 0) (0, 0) _ _ rfl (H.out.at_ 2 rfl) Try.underlying53 rfl (by kernel_rfl) rfl (H.out.at_ 1 rfl) Try.underlying61 rfl (by kernel_rfl)) rfl ?_
 rw [HE.out, HV.out]
 exact kl_ rfl kp_ (vu_ _) H.out.below
theorem mreset_ok (id m u b c z s me o a l : Int) (x y q : Value) (D : Mdl) (i : Int) (p n : Int) (Ad : Option Addr) (nd kdd : Nat) (f : Bool) (w : World) (h : MC w x y q D) (hi : MInv id m u b c z s me o a l D) (he : (jT_ id m u b c z s me o a l D.L i).2 = 0) :
  Calls Try.prog 77 #[modV id m u b c z s me o a l x y q, cmdV 3 i p n (.slice Ad nd kdd) f] w (RepP id m u b c z s me o a l x y q D (jr_ D 3 i (jT_ id m u b c z s me o a l D.L i)).1 (jr_ D 3 i (jT_ id m u b c z s me o a l D.L i)).2 [] z59 w) := by
 obtain ⟨A1, A2, A3, n1, n2, n3, k1, k2, k3, rfl, rfl, rfl, hn1, hn2, hn3, hC1, hC2, hC3, hk1, hk2, hk3, hrt, hL1, hLp, hlT, hlS, hcb⟩ := jK_ h hi
 have hb1 := hcb.1
 have hR := fun W h => reset_any id m u b c z s me o a l A1 k1 D.L i W h hk1
 have hWo := xV_ (id := id) (m := m) (u := u) (b := b) (c := c) (z := z) (s := s) (me := me) (o := o) (a := a) (l := l) (L := D.L) i
 have hin := fun h => resetZ_in (id := id) (m := m) (u := u) (b := b) (c := c) (z := z) (s := s) (me := me) (o := o) (a := a) (l := l) (L := D.L) (i := i) h
 rw [<- hn1] at hR
 have HMC := hid h; have HC1 := hid hC1
 obtain ⟨⟨r0, e0⟩, hr⟩ : ∃ r, jT_ id m u b c z s me o a l D.L i = r := ⟨_, rfl⟩
 rw [hr] at hR he hWo hin; (try dsimp only at hR he)
 have H := hid (Pk.start w)
 subst he
 obtain ⟨L1, rfl, hl1⟩ : ∃ L1, r0 = some L1 /\ L1.length = n1 := by
  rcases hWo with ⟨h, _⟩ | ⟨_, L1, h, h2⟩
  · exact absurd rfl h
  · exact ⟨L1, h, by rw [h2, hn1]⟩
 have hv : jr_ D 3 i (some L1, 0) = (withM ⟨L1, D.T, D.S⟩ i ByteArray.empty 0, 0) := rfl
 have HV := hid hv; have HR := hid hR; have HE := hid hr; have HL1 := hid hl1
 have hin := hin rfl
 rw [<- hn1] at hin
 have HWI := hid (fun X W h => zK_ id m u b c z s me o a l X (.slice A2 n2 k2) (.slice A3 n3 k3) ⟨L1, D.T, D.S⟩ i ByteArray.empty 0 W h hin.1 (by show i < (D.T.length : Int); omega) (by show i < (D.S.length : Int); omega) (by show D.T.length < 1000000000; omega) (by show D.S.length < 1000000000; omega))
 clear hv hR hr hWo hrt hcb hlT hlS h hi hl1 hn1 hn2 hn3 hk1 hk2 hk3 hC1 hC2 hC3 hin
 go_enter Try.func77, Try.ntmps77
 go_wp2_with first
  | (apply bh H 2 (mL id m u b c z s me o a l (.slice A1 n1 k1) (.slice A2 n2 k2) (.slice A3 n3 k3)) 53; clear H; intro gM W1 H; obtain ⟨-, cM⟩ := n1_ H)
  | (apply bh H 3 (xL 3 i p n (.slice Ad nd kdd) f) 65; clear H cM; intro gX W2 H; obtain ⟨-, cX, cM⟩ := n2_ H)
  | (apply bh H 4 (mL 0 0 0 0 0 0 0 0 0 0 0 nil_ nil_ nil_) 53; clear H cX cM; intro gR W3 H; obtain ⟨-, cR, cX, cM⟩ := n3_ H)
  | (apply bh H 5 (rL 0 nil_ 0 0 0) 61; clear H cR cX cM; intro gP W4 H; obtain ⟨-, cP, cR, cX, cM⟩ := n4_ H)
  | (go_at_call 58; refine (HR.out _ (Kd.C_below HC1.out H.out.below)).mono ?_; rintro e W5 ⟨v, rfl, hT, hb⟩; clear cP cR cX cM; obtain ⟨A4, k4, rfl, hR⟩ := vA_ hT; replace H := pr H hb hR; clear hT; clear hb; obtain ⟨-, cP, cR, cX, cM⟩ := n4_ H)
  | (apply bh H 7 (tL 0 0 0 0 0 0 0 0 0 0 0 nil_) 27; clear H cP cR cX cM; intro gT W6 H; obtain ⟨-, cT, cP, cR, cX, cM⟩ := n5_ H)
  | (apply sh H 0 27 7 gT (tL id m u b c z s me o a l (.slice A4 L1.length k4)); clear H cT cP cR cX cM; intro W7 K_; obtain ⟨H, cT, cP, cR, cX, cM⟩ := n5_ K_; clear K_)
  | (apply sp H 4 27 34 gM 0 (tL id m u b c z s me o a l (.slice A4 L1.length k4)) (mL id m u b c z s me o a l (.slice A4 L1.length k4) (.slice A2 n2 k2) (.slice A3 n3 k3)); clear H cT cP cR cX cM; intro W8 K_; obtain ⟨H, cT, cP, cR, cX, cM⟩ := n5_ K_; clear K_)
  | (go_at_call 85; refine (HWI.out _ _ ⟨SlC_R (H.out.fact 0 rfl), kj_ HMC.out.2.1 H.out.below, kj_ HMC.out.2.2 H.out.below⟩).mono ?_; rintro e W9 ⟨y5, q5, rfl, hY, hQ, hb⟩; clear cT cP cR cX cM; obtain ⟨A5, k5, rfl⟩ := Kd.R_slice hY; obtain ⟨A6, k6, rfl⟩ := Kd.R_slice hQ; simp only [List.length_set] at hY hQ ⊢; have hb0_ := H.out.below.size; replace H := hid ((H.out.called hb).row (RowF Kd.string 9 w.heap.size (.slice A5 D.T.length k5) (D.T.set i.toNat ByteArray.empty)) (Kd.R_lower (hY) H.out.below.size)); replace H := hid ((H.out).row (RowF (Kd.int .i64) 3 w.heap.size (.slice A6 D.S.length k6) (D.S.set i.toNat 0)) (Kd.R_lower (hQ) hb0_)); clear hb0_; clear hY hQ; clear hb; obtain ⟨-, cT, cP, cR, cX, cM⟩ := n5_ H)
  | (apply sh H 4 53 2 gM (mL id m u b c z s me o a l (.slice A4 L1.length k4) (.slice A5 D.T.length k5) (.slice A6 D.S.length k6)); clear H cT cP cR cX cM; intro W10 K_; obtain ⟨H, cT, cP, cR, cX, cM⟩ := n5_ K_; clear K_)
  | (apply sh H 2 53 4 gR (mL id m u b c z s me o a l (.slice A4 L1.length k4) (.slice A5 D.T.length k5) (.slice A6 D.S.length k6)); clear H cT cP cR cX cM; intro W11 K_; obtain ⟨H, cT, cP, cR, cX, cM⟩ := n5_ K_; clear K_)
  | (apply sn H 1 61 5 gP (rL 0 nil_ 0 0 0))
 refine bodyPost_ret (jG_ rfl _ _ gR gP 53 61 (mL id m u b c z s me o a l (.slice A4 L1.length k4) (.slice A5 D.T.length k5) (.slice A6 D.S.length k6)).toArray (rL 0 nil_ 0 0 0).toArray (0, 0) (0, 0) _ _ rfl (H.out.at_ 2 rfl) Try.underlying53 rfl (by kernel_rfl) rfl (H.out.at_ 1 rfl) Try.underlying61 rfl (by kernel_rfl)) rfl ?_
 rw [HE.out, HV.out]
 exact kl_ rfl ⟨.inr (H.out.fact 2 rfl), .inr (H.out.fact 1 rfl), .inr (H.out.fact 0 rfl)⟩ (vu_ _) H.out.below
theorem mreset_any (id m u b c z s me o a l : Int) (x y q : Value) (D : Mdl) (i : Int) (p n : Int) (Ad : Option Addr) (nd kdd : Nat) (f : Bool) (w : World) (h : MC w x y q D) (hi : MInv id m u b c z s me o a l D) :
  Calls Try.prog 77 #[modV id m u b c z s me o a l x y q, cmdV 3 i p n (.slice Ad nd kdd) f] w (RepP id m u b c z s me o a l x y q D (jr_ D 3 i (jT_ id m u b c z s me o a l D.L i)).1 (jr_ D 3 i (jT_ id m u b c z s me o a l D.L i)).2 [] z59 w) := by
 by_cases he : (jT_ id m u b c z s me o a l D.L i).2 = 0
 · exact mreset_ok id m u b c z s me o a l x y q D i p n Ad nd kdd f w h hi he
 · exact mreset_err id m u b c z s me o a l x y q D i p n Ad nd kdd f w h hi he
theorem mfinish_err (id m u b c z s me o a l : Int) (x y q : Value) (D : Mdl) (i : Int) (p n : Int) (Ad : Option Addr) (nd kdd : Nat) (f : Bool) (w : World) (h : MC w x y q D) (hi : MInv id m u b c z s me o a l D) (he : ¬ (jL_ id m u b c z s me o a l D.L i).2 = 0) :
  Calls Try.prog 77 #[modV id m u b c z s me o a l x y q, cmdV 4 i p n (.slice Ad nd kdd) f] w (RepP id m u b c z s me o a l x y q D (jr_ D 4 i (jL_ id m u b c z s me o a l D.L i)).1 (jr_ D 4 i (jL_ id m u b c z s me o a l D.L i)).2 [] z59 w) := by
 obtain ⟨A1, A2, A3, n1, n2, n3, k1, k2, k3, rfl, rfl, rfl, hn1, hn2, hn3, hC1, hC2, hC3, hk1, hk2, hk3, hrt, hL1, hLp, hlT, hlS, hcb⟩ := jK_ h hi
 have hb1 := hcb.1
 have hR := fun W h => finish_any id m u b c z s me o a l A1 k1 D.L i W h hk1
 have hWo := xE_ (id := id) (m := m) (u := u) (b := b) (c := c) (z := z) (s := s) (me := me) (o := o) (a := a) (l := l) (L := D.L) i
 rw [<- hn1] at hR
 have HMC := hid h; have HC1 := hid hC1
 obtain ⟨⟨r0, e0⟩, hr⟩ : ∃ r, jL_ id m u b c z s me o a l D.L i = r := ⟨_, rfl⟩
 rw [hr] at hR he hWo; (try dsimp only at hR he)
 have H := hid (Pk.start w)
 have hr1 : r0 = none := by rcases hWo with ⟨_, h⟩ | ⟨h, _⟩; exact h; exact absurd h he
 subst hr1
 have hv : jr_ D 4 i (none, e0) = (D, e0) := by unfold jr_; rw [if_pos he]
 have HV := hid hv; have HR := hid hR; have HE := hid hr; have eb : (e0 == 0) = false := beq_eq_false_iff_ne.mpr he; have eb2 : (e0 != 0) = true := bne_iff_ne.mpr he
 clear hv hR he hr hWo hrt hcb hlT hlS h hi hn1 hn2 hn3 hk1 hk2 hk3 hC1 hC2 hC3
 go_enter Try.func77, Try.ntmps77
 go_wp2_with first
  | (apply bh H 2 (mL id m u b c z s me o a l (.slice A1 n1 k1) (.slice A2 n2 k2) (.slice A3 n3 k3)) 53; clear H; intro gM W1 H; obtain ⟨-, cM⟩ := n1_ H)
  | (apply bh H 3 (xL 4 i p n (.slice Ad nd kdd) f) 65; clear H cM; intro gX W2 H; obtain ⟨-, cX, cM⟩ := n2_ H)
  | (apply bh H 4 (mL 0 0 0 0 0 0 0 0 0 0 0 nil_ nil_ nil_) 53; clear H cX cM; intro gR W3 H; obtain ⟨-, cR, cX, cM⟩ := n3_ H)
  | (apply bh H 5 (rL 0 nil_ 0 0 0) 61; clear H cR cX cM; intro gP W4 H; obtain ⟨-, cP, cR, cX, cM⟩ := n4_ H)
  | (go_at_call 59; refine (HR.out _ (Kd.C_below HC1.out H.out.below)).mono ?_; rintro e W5 ⟨v, rfl, hT, hb⟩; clear cP cR cX cM; obtain rfl := xv_ hT; replace H := pc H hb; clear hT; clear hb; obtain ⟨-, cP, cR, cX, cM⟩ := n4_ H)
  | (apply bh H 7 (tL 0 0 0 0 0 0 0 0 0 0 0 nil_) 27; clear H cP cR cX cM; intro gT W6 H; obtain ⟨-, cT, cP, cR, cX, cM⟩ := n5_ H)
  | (apply sn H 0 27 7 gT (tL 0 0 0 0 0 0 0 0 0 0 0 nil_))
  | (go_at_call 73; refine (kG_ id m u b c z s me o a l A1 A2 A3 n1 k1 n2 k2 n3 k3 (e0) _).mono ?_; rintro e W7 ⟨rfl, hb⟩; clear cT cP cR cX cM; replace H := pc H hb; clear hb; obtain ⟨-, cT, cP, cR, cX, cM⟩ := n5_ H)
  | (apply sh H 2 53 4 gR (mL id m u b c z s me o a l (.slice A1 n1 k1) (.slice A2 n2 k2) (.slice A3 n3 k3)); clear H cT cP cR cX cM; intro W8 K_; obtain ⟨H, cT, cP, cR, cX, cM⟩ := n5_ K_; clear K_)
  | (apply sh H 1 61 5 gP (rL e0 nil_ 0 0 0); clear H cT cP cR cX cM; intro W9 K_; obtain ⟨H, cT, cP, cR, cX, cM⟩ := n5_ K_; clear K_)
 refine bodyPost_ret (jG_ rfl _ _ gR gP 53 61 (mL id m u b c z s me o a l (.slice A1 n1 k1) (.slice A2 n2 k2) (.slice A3 n3 k3)).toArray (rL e0 nil_ 0 0 0).toArray (0, 0) (0, 0) _ _ rfl (H.out.at_ 2 rfl) Try.underlying53 rfl (by kernel_rfl) rfl (H.out.at_ 1 rfl) Try.underlying61 rfl (by kernel_rfl)) rfl ?_
 rw [HE.out, HV.out]
 exact kl_ rfl kp_ (vu_ _) H.out.below
theorem mfinish_ok (id m u b c z s me o a l : Int) (x y q : Value) (D : Mdl) (i : Int) (p n : Int) (Ad : Option Addr) (nd kdd : Nat) (f : Bool) (w : World) (h : MC w x y q D) (hi : MInv id m u b c z s me o a l D) (he : (jL_ id m u b c z s me o a l D.L i).2 = 0) :
  Calls Try.prog 77 #[modV id m u b c z s me o a l x y q, cmdV 4 i p n (.slice Ad nd kdd) f] w (RepP id m u b c z s me o a l x y q D (jr_ D 4 i (jL_ id m u b c z s me o a l D.L i)).1 (jr_ D 4 i (jL_ id m u b c z s me o a l D.L i)).2 [] z59 w) := by
 obtain ⟨A1, A2, A3, n1, n2, n3, k1, k2, k3, rfl, rfl, rfl, hn1, hn2, hn3, hC1, hC2, hC3, hk1, hk2, hk3, hrt, hL1, hLp, hlT, hlS, hcb⟩ := jK_ h hi
 have hb1 := hcb.1
 have hR := fun W h => finish_any id m u b c z s me o a l A1 k1 D.L i W h hk1
 have hWo := xE_ (id := id) (m := m) (u := u) (b := b) (c := c) (z := z) (s := s) (me := me) (o := o) (a := a) (l := l) (L := D.L) i
 rw [<- hn1] at hR
 have HMC := hid h; have HC1 := hid hC1
 obtain ⟨⟨r0, e0⟩, hr⟩ : ∃ r, jL_ id m u b c z s me o a l D.L i = r := ⟨_, rfl⟩
 rw [hr] at hR he hWo; (try dsimp only at hR he)
 have H := hid (Pk.start w)
 subst he
 obtain ⟨L1, rfl, hl1⟩ : ∃ L1, r0 = some L1 /\ L1.length = n1 := by
  rcases hWo with ⟨h, _⟩ | ⟨_, L1, h, h2⟩
  · exact absurd rfl h
  · exact ⟨L1, h, by rw [h2, hn1]⟩
 have hv : jr_ D 4 i (some L1, 0) = (flushM ⟨L1, D.T, D.S⟩, 0) := rfl
 have HV := hid hv; have HR := hid hR; have HE := hid hr; have HL1 := hid hl1
 have HFI := hid (fun X W h => yn_ id m u b c z s me o a l X (.slice A2 n2 k2) (.slice A3 n3 k3) ⟨L1, D.T, D.S⟩ W h (by show 0 < L1.length; omega) (by show D.S.length = L1.length; omega) (by show L1.length < 1000000000; omega))
 clear hv hR hr hWo hrt hcb hlT hlS h hi hl1 hn1 hn2 hn3 hk1 hk2 hk3 hC1 hC2 hC3
 go_enter Try.func77, Try.ntmps77
 go_wp2_with first
  | (apply bh H 2 (mL id m u b c z s me o a l (.slice A1 n1 k1) (.slice A2 n2 k2) (.slice A3 n3 k3)) 53; clear H; intro gM W1 H; obtain ⟨-, cM⟩ := n1_ H)
  | (apply bh H 3 (xL 4 i p n (.slice Ad nd kdd) f) 65; clear H cM; intro gX W2 H; obtain ⟨-, cX, cM⟩ := n2_ H)
  | (apply bh H 4 (mL 0 0 0 0 0 0 0 0 0 0 0 nil_ nil_ nil_) 53; clear H cX cM; intro gR W3 H; obtain ⟨-, cR, cX, cM⟩ := n3_ H)
  | (apply bh H 5 (rL 0 nil_ 0 0 0) 61; clear H cR cX cM; intro gP W4 H; obtain ⟨-, cP, cR, cX, cM⟩ := n4_ H)
  | (go_at_call 59; refine (HR.out _ (Kd.C_below HC1.out H.out.below)).mono ?_; rintro e W5 ⟨v, rfl, hT, hb⟩; clear cP cR cX cM; obtain ⟨A4, k4, rfl, hR⟩ := vA_ hT; replace H := pr H hb hR; clear hT; clear hb; obtain ⟨-, cP, cR, cX, cM⟩ := n4_ H)
  | (apply bh H 7 (tL 0 0 0 0 0 0 0 0 0 0 0 nil_) 27; clear H cP cR cX cM; intro gT W6 H; obtain ⟨-, cT, cP, cR, cX, cM⟩ := n5_ H)
  | (apply sh H 0 27 7 gT (tL id m u b c z s me o a l (.slice A4 L1.length k4)); clear H cT cP cR cX cM; intro W7 K_; obtain ⟨H, cT, cP, cR, cX, cM⟩ := n5_ K_; clear K_)
  | (apply sp H 4 27 34 gM 0 (tL id m u b c z s me o a l (.slice A4 L1.length k4)) (mL id m u b c z s me o a l (.slice A4 L1.length k4) (.slice A2 n2 k2) (.slice A3 n3 k3)); clear H cT cP cR cX cM; intro W8 K_; obtain ⟨H, cT, cP, cR, cX, cM⟩ := n5_ K_; clear K_)
  | (go_at_call 76; refine (HFI.out _ _ ⟨SlC_R (H.out.fact 0 rfl), kj_ HMC.out.2.1 H.out.below, kj_ HMC.out.2.2 H.out.below⟩).mono ?_; rintro e W9 ⟨q7, rfl, hF, hb⟩; clear cT cP cR cX cM; obtain ⟨A7, k7, rfl⟩ := Kd.R_slice hF; simp only [List.length_map] at hF ⊢; replace H := pr H hb hF; clear hF; clear hb; obtain ⟨-, cT, cP, cR, cX, cM⟩ := n5_ H)
  | (apply sh H 4 53 2 gM (mL id m u b c z s me o a l (.slice A4 L1.length k4) (.slice A2 n2 k2) (.slice A7 L1.length k7)); clear H cT cP cR cX cM; intro W10 K_; obtain ⟨H, cT, cP, cR, cX, cM⟩ := n5_ K_; clear K_)
  | (apply sh H 2 53 4 gR (mL id m u b c z s me o a l (.slice A4 L1.length k4) (.slice A2 n2 k2) (.slice A7 L1.length k7)); clear H cT cP cR cX cM; intro W11 K_; obtain ⟨H, cT, cP, cR, cX, cM⟩ := n5_ K_; clear K_)
  | (apply sn H 1 61 5 gP (rL 0 nil_ 0 0 0))
 refine bodyPost_ret (jG_ rfl _ _ gR gP 53 61 (mL id m u b c z s me o a l (.slice A4 L1.length k4) (.slice A2 n2 k2) (.slice A7 L1.length k7)).toArray (rL 0 nil_ 0 0 0).toArray (0, 0) (0, 0) _ _ rfl (H.out.at_ 2 rfl) Try.underlying53 rfl (by kernel_rfl) rfl (H.out.at_ 1 rfl) Try.underlying61 rfl (by kernel_rfl)) rfl ?_
 rw [HE.out, HV.out]
 exact kl_ rfl ⟨.inr (H.out.fact 1 rfl), kd_, .inr (H.out.fact 0 rfl)⟩ (vu_ _) H.out.below
theorem mfinish_any (id m u b c z s me o a l : Int) (x y q : Value) (D : Mdl) (i : Int) (p n : Int) (Ad : Option Addr) (nd kdd : Nat) (f : Bool) (w : World) (h : MC w x y q D) (hi : MInv id m u b c z s me o a l D) :
  Calls Try.prog 77 #[modV id m u b c z s me o a l x y q, cmdV 4 i p n (.slice Ad nd kdd) f] w (RepP id m u b c z s me o a l x y q D (jr_ D 4 i (jL_ id m u b c z s me o a l D.L i)).1 (jr_ D 4 i (jL_ id m u b c z s me o a l D.L i)).2 [] z59 w) := by
 by_cases he : (jL_ id m u b c z s me o a l D.L i).2 = 0
 · exact mfinish_ok id m u b c z s me o a l x y q D i p n Ad nd kdd f w h hi he
 · exact mfinish_err id m u b c z s me o a l x y q D i p n Ad nd kdd f w h hi he
theorem mopen_err (id m u b c z s me o a l : Int) (x y q : Value) (D : Mdl) (i : Int) (p n : Int) (Ad : Option Addr) (nd kdd : Nat) (f : Bool) (w : World) (h : MC w x y q D) (hi : MInv id m u b c z s me o a l D) (he : ¬ (kv_ id m u b c z s me o a l D.L i).2 = 0) :
  Calls Try.prog 77 #[modV id m u b c z s me o a l x y q, cmdV 5 i p n (.slice Ad nd kdd) f] w (RepP id m u b c z s me o a l x y q D (jr_ D 5 i (kv_ id m u b c z s me o a l D.L i)).1 (jr_ D 5 i (kv_ id m u b c z s me o a l D.L i)).2 [] z59 w) := by
 obtain ⟨A1, A2, A3, n1, n2, n3, k1, k2, k3, rfl, rfl, rfl, hn1, hn2, hn3, hC1, hC2, hC3, hk1, hk2, hk3, hrt, hL1, hLp, hlT, hlS, hcb⟩ := jK_ h hi
 have hb1 := hcb.1
 have hR := fun W h => open_any id m u b c z s me o a l A1 k1 D.L i W h hk1
 have hWo := yz_ (id := id) (m := m) (u := u) (b := b) (c := c) (z := z) (s := s) (me := me) (o := o) (a := a) (l := l) (L := D.L) i
 rw [<- hn1] at hR
 have HMC := hid h; have HC1 := hid hC1
 obtain ⟨⟨r0, e0⟩, hr⟩ : ∃ r, kv_ id m u b c z s me o a l D.L i = r := ⟨_, rfl⟩
 rw [hr] at hR he hWo; (try dsimp only at hR he)
 have H := hid (Pk.start w)
 have hr1 : r0 = none := by rcases hWo with ⟨_, h⟩ | ⟨h, _⟩; exact h; exact absurd h he
 subst hr1
 have hv : jr_ D 5 i (none, e0) = (D, e0) := by unfold jr_; rw [if_pos he]
 have HV := hid hv; have HR := hid hR; have HE := hid hr; have eb : (e0 == 0) = false := beq_eq_false_iff_ne.mpr he; have eb2 : (e0 != 0) = true := bne_iff_ne.mpr he
 clear hv hR he hr hWo hrt hcb hlT hlS h hi hn1 hn2 hn3 hk1 hk2 hk3 hC1 hC2 hC3
 go_enter Try.func77, Try.ntmps77
 go_wp2_with first
  | (apply bh H 2 (mL id m u b c z s me o a l (.slice A1 n1 k1) (.slice A2 n2 k2) (.slice A3 n3 k3)) 53; clear H; intro gM W1 H; obtain ⟨-, cM⟩ := n1_ H)
  | (apply bh H 3 (xL 5 i p n (.slice Ad nd kdd) f) 65; clear H cM; intro gX W2 H; obtain ⟨-, cX, cM⟩ := n2_ H)
  | (apply bh H 4 (mL 0 0 0 0 0 0 0 0 0 0 0 nil_ nil_ nil_) 53; clear H cX cM; intro gR W3 H; obtain ⟨-, cR, cX, cM⟩ := n3_ H)
  | (apply bh H 5 (rL 0 nil_ 0 0 0) 61; clear H cR cX cM; intro gP W4 H; obtain ⟨-, cP, cR, cX, cM⟩ := n4_ H)
  | (go_at_call 60; refine (HR.out _ (Kd.C_below HC1.out H.out.below)).mono ?_; rintro e W5 ⟨v, rfl, hT, hb⟩; clear cP cR cX cM; obtain rfl := xv_ hT; replace H := pc H hb; clear hT; clear hb; obtain ⟨-, cP, cR, cX, cM⟩ := n4_ H)
  | (apply bh H 7 (tL 0 0 0 0 0 0 0 0 0 0 0 nil_) 27; clear H cP cR cX cM; intro gT W6 H; obtain ⟨-, cT, cP, cR, cX, cM⟩ := n5_ H)
  | (apply sn H 0 27 7 gT (tL 0 0 0 0 0 0 0 0 0 0 0 nil_))
  | (go_at_call 73; refine (kG_ id m u b c z s me o a l A1 A2 A3 n1 k1 n2 k2 n3 k3 (e0) _).mono ?_; rintro e W7 ⟨rfl, hb⟩; clear cT cP cR cX cM; replace H := pc H hb; clear hb; obtain ⟨-, cT, cP, cR, cX, cM⟩ := n5_ H)
  | (apply sh H 2 53 4 gR (mL id m u b c z s me o a l (.slice A1 n1 k1) (.slice A2 n2 k2) (.slice A3 n3 k3)); clear H cT cP cR cX cM; intro W8 K_; obtain ⟨H, cT, cP, cR, cX, cM⟩ := n5_ K_; clear K_)
  | (apply sh H 1 61 5 gP (rL e0 nil_ 0 0 0); clear H cT cP cR cX cM; intro W9 K_; obtain ⟨H, cT, cP, cR, cX, cM⟩ := n5_ K_; clear K_)
 refine bodyPost_ret (jG_ rfl _ _ gR gP 53 61 (mL id m u b c z s me o a l (.slice A1 n1 k1) (.slice A2 n2 k2) (.slice A3 n3 k3)).toArray (rL e0 nil_ 0 0 0).toArray (0, 0) (0, 0) _ _ rfl (H.out.at_ 2 rfl) Try.underlying53 rfl (by kernel_rfl) rfl (H.out.at_ 1 rfl) Try.underlying61 rfl (by kernel_rfl)) rfl ?_
 rw [HE.out, HV.out]
 exact kl_ rfl kp_ (vu_ _) H.out.below
theorem mopen_ok (id m u b c z s me o a l : Int) (x y q : Value) (D : Mdl) (i : Int) (p n : Int) (Ad : Option Addr) (nd kdd : Nat) (f : Bool) (w : World) (h : MC w x y q D) (hi : MInv id m u b c z s me o a l D) (he : (kv_ id m u b c z s me o a l D.L i).2 = 0) :
  Calls Try.prog 77 #[modV id m u b c z s me o a l x y q, cmdV 5 i p n (.slice Ad nd kdd) f] w (RepP id m u b c z s me o a l x y q D (jr_ D 5 i (kv_ id m u b c z s me o a l D.L i)).1 (jr_ D 5 i (kv_ id m u b c z s me o a l D.L i)).2 [] z59 w) := by
 obtain ⟨A1, A2, A3, n1, n2, n3, k1, k2, k3, rfl, rfl, rfl, hn1, hn2, hn3, hC1, hC2, hC3, hk1, hk2, hk3, hrt, hL1, hLp, hlT, hlS, hcb⟩ := jK_ h hi
 have hb1 := hcb.1
 have hR := fun W h => open_any id m u b c z s me o a l A1 k1 D.L i W h hk1
 have hWo := yz_ (id := id) (m := m) (u := u) (b := b) (c := c) (z := z) (s := s) (me := me) (o := o) (a := a) (l := l) (L := D.L) i
 rw [<- hn1] at hR
 have HMC := hid h; have HC1 := hid hC1
 obtain ⟨⟨r0, e0⟩, hr⟩ : ∃ r, kv_ id m u b c z s me o a l D.L i = r := ⟨_, rfl⟩
 rw [hr] at hR he hWo; (try dsimp only at hR he)
 have H := hid (Pk.start w)
 subst he
 obtain ⟨L1, rfl, hl1⟩ : ∃ L1, r0 = some L1 /\ L1.length = n1 := by
  rcases hWo with ⟨h, _⟩ | ⟨_, L1, h, h2⟩
  · exact absurd rfl h
  · exact ⟨L1, h, by rw [h2, hn1]⟩
 have hv : jr_ D 5 i (some L1, 0) = (⟨L1, D.T, D.S⟩, 0) := rfl
 have HV := hid hv; have HR := hid hR; have HE := hid hr; have HL1 := hid hl1
 clear hv hR hr hWo hrt hcb hlT hlS h hi hl1 hn1 hn2 hn3 hk1 hk2 hk3 hC1 hC2 hC3
 go_enter Try.func77, Try.ntmps77
 go_wp2_with first
  | (apply bh H 2 (mL id m u b c z s me o a l (.slice A1 n1 k1) (.slice A2 n2 k2) (.slice A3 n3 k3)) 53; clear H; intro gM W1 H; obtain ⟨-, cM⟩ := n1_ H)
  | (apply bh H 3 (xL 5 i p n (.slice Ad nd kdd) f) 65; clear H cM; intro gX W2 H; obtain ⟨-, cX, cM⟩ := n2_ H)
  | (apply bh H 4 (mL 0 0 0 0 0 0 0 0 0 0 0 nil_ nil_ nil_) 53; clear H cX cM; intro gR W3 H; obtain ⟨-, cR, cX, cM⟩ := n3_ H)
  | (apply bh H 5 (rL 0 nil_ 0 0 0) 61; clear H cR cX cM; intro gP W4 H; obtain ⟨-, cP, cR, cX, cM⟩ := n4_ H)
  | (go_at_call 60; refine (HR.out _ (Kd.C_below HC1.out H.out.below)).mono ?_; rintro e W5 ⟨v, rfl, hT, hb⟩; clear cP cR cX cM; obtain ⟨A4, k4, rfl, hR⟩ := vA_ hT; replace H := pr H hb hR; clear hT; clear hb; obtain ⟨-, cP, cR, cX, cM⟩ := n4_ H)
  | (apply bh H 7 (tL 0 0 0 0 0 0 0 0 0 0 0 nil_) 27; clear H cP cR cX cM; intro gT W6 H; obtain ⟨-, cT, cP, cR, cX, cM⟩ := n5_ H)
  | (apply sh H 0 27 7 gT (tL id m u b c z s me o a l (.slice A4 L1.length k4)); clear H cT cP cR cX cM; intro W7 K_; obtain ⟨H, cT, cP, cR, cX, cM⟩ := n5_ K_; clear K_)
  | (apply sp H 4 27 34 gM 0 (tL id m u b c z s me o a l (.slice A4 L1.length k4)) (mL id m u b c z s me o a l (.slice A4 L1.length k4) (.slice A2 n2 k2) (.slice A3 n3 k3)); clear H cT cP cR cX cM; intro W8 K_; obtain ⟨H, cT, cP, cR, cX, cM⟩ := n5_ K_; clear K_)
  | (apply sh H 2 53 4 gR (mL id m u b c z s me o a l (.slice A4 L1.length k4) (.slice A2 n2 k2) (.slice A3 n3 k3)); clear H cT cP cR cX cM; intro W9 K_; obtain ⟨H, cT, cP, cR, cX, cM⟩ := n5_ K_; clear K_)
  | (apply sn H 1 61 5 gP (rL 0 nil_ 0 0 0))
 refine bodyPost_ret (jG_ rfl _ _ gR gP 53 61 (mL id m u b c z s me o a l (.slice A4 L1.length k4) (.slice A2 n2 k2) (.slice A3 n3 k3)).toArray (rL 0 nil_ 0 0 0).toArray (0, 0) (0, 0) _ _ rfl (H.out.at_ 2 rfl) Try.underlying53 rfl (by kernel_rfl) rfl (H.out.at_ 1 rfl) Try.underlying61 rfl (by kernel_rfl)) rfl ?_
 rw [HE.out, HV.out]
 exact kl_ rfl ⟨.inr (H.out.fact 0 rfl), kd_, kd_⟩ (vu_ _) H.out.below
theorem mopen_any (id m u b c z s me o a l : Int) (x y q : Value) (D : Mdl) (i : Int) (p n : Int) (Ad : Option Addr) (nd kdd : Nat) (f : Bool) (w : World) (h : MC w x y q D) (hi : MInv id m u b c z s me o a l D) :
  Calls Try.prog 77 #[modV id m u b c z s me o a l x y q, cmdV 5 i p n (.slice Ad nd kdd) f] w (RepP id m u b c z s me o a l x y q D (jr_ D 5 i (kv_ id m u b c z s me o a l D.L i)).1 (jr_ D 5 i (kv_ id m u b c z s me o a l D.L i)).2 [] z59 w) := by
 by_cases he : (kv_ id m u b c z s me o a l D.L i).2 = 0
 · exact mopen_ok id m u b c z s me o a l x y q D i p n Ad nd kdd f w h hi he
 · exact mopen_err id m u b c z s me o a l x y q D i p n Ad nd kdd f w h hi he
theorem mclose_err (id m u b c z s me o a l : Int) (x y q : Value) (D : Mdl) (i : Int) (p n : Int) (Ad : Option Addr) (nd kdd : Nat) (f : Bool) (w : World) (h : MC w x y q D) (hi : MInv id m u b c z s me o a l D) (he : ¬ (jV_ id m u b c z s me o a l D.L i).2 = 0) :
  Calls Try.prog 77 #[modV id m u b c z s me o a l x y q, cmdV 6 i p n (.slice Ad nd kdd) f] w (RepP id m u b c z s me o a l x y q D (jr_ D 6 i (jV_ id m u b c z s me o a l D.L i)).1 (jr_ D 6 i (jV_ id m u b c z s me o a l D.L i)).2 [] z59 w) := by
 obtain ⟨A1, A2, A3, n1, n2, n3, k1, k2, k3, rfl, rfl, rfl, hn1, hn2, hn3, hC1, hC2, hC3, hk1, hk2, hk3, hrt, hL1, hLp, hlT, hlS, hcb⟩ := jK_ h hi
 have hb1 := hcb.1
 have hR := fun W h => close_any id m u b c z s me o a l A1 k1 D.L i W h hk1
 have hWo := yc_ (id := id) (m := m) (u := u) (b := b) (c := c) (z := z) (s := s) (me := me) (o := o) (a := a) (l := l) (L := D.L) i
 rw [<- hn1] at hR
 have HMC := hid h; have HC1 := hid hC1
 obtain ⟨⟨r0, e0⟩, hr⟩ : ∃ r, jV_ id m u b c z s me o a l D.L i = r := ⟨_, rfl⟩
 rw [hr] at hR he hWo; (try dsimp only at hR he)
 have H := hid (Pk.start w)
 have hr1 : r0 = none := by rcases hWo with ⟨_, h⟩ | ⟨h, _⟩; exact h; exact absurd h he
 subst hr1
 have hv : jr_ D 6 i (none, e0) = (D, e0) := by unfold jr_; rw [if_pos he]
 have HV := hid hv; have HR := hid hR; have HE := hid hr; have eb : (e0 == 0) = false := beq_eq_false_iff_ne.mpr he; have eb2 : (e0 != 0) = true := bne_iff_ne.mpr he
 clear hv hR he hr hWo hrt hcb hlT hlS h hi hn1 hn2 hn3 hk1 hk2 hk3 hC1 hC2 hC3
 go_enter Try.func77, Try.ntmps77
 go_wp2_with first
  | (apply bh H 2 (mL id m u b c z s me o a l (.slice A1 n1 k1) (.slice A2 n2 k2) (.slice A3 n3 k3)) 53; clear H; intro gM W1 H; obtain ⟨-, cM⟩ := n1_ H)
  | (apply bh H 3 (xL 6 i p n (.slice Ad nd kdd) f) 65; clear H cM; intro gX W2 H; obtain ⟨-, cX, cM⟩ := n2_ H)
  | (apply bh H 4 (mL 0 0 0 0 0 0 0 0 0 0 0 nil_ nil_ nil_) 53; clear H cX cM; intro gR W3 H; obtain ⟨-, cR, cX, cM⟩ := n3_ H)
  | (apply bh H 5 (rL 0 nil_ 0 0 0) 61; clear H cR cX cM; intro gP W4 H; obtain ⟨-, cP, cR, cX, cM⟩ := n4_ H)
  | (go_at_call 61; refine (HR.out _ (Kd.C_below HC1.out H.out.below)).mono ?_; rintro e W5 ⟨v, rfl, hT, hb⟩; clear cP cR cX cM; obtain rfl := xv_ hT; replace H := pc H hb; clear hT; clear hb; obtain ⟨-, cP, cR, cX, cM⟩ := n4_ H)
  | (apply bh H 7 (tL 0 0 0 0 0 0 0 0 0 0 0 nil_) 27; clear H cP cR cX cM; intro gT W6 H; obtain ⟨-, cT, cP, cR, cX, cM⟩ := n5_ H)
  | (apply sn H 0 27 7 gT (tL 0 0 0 0 0 0 0 0 0 0 0 nil_))
  | (go_at_call 73; refine (kG_ id m u b c z s me o a l A1 A2 A3 n1 k1 n2 k2 n3 k3 (e0) _).mono ?_; rintro e W7 ⟨rfl, hb⟩; clear cT cP cR cX cM; replace H := pc H hb; clear hb; obtain ⟨-, cT, cP, cR, cX, cM⟩ := n5_ H)
  | (apply sh H 2 53 4 gR (mL id m u b c z s me o a l (.slice A1 n1 k1) (.slice A2 n2 k2) (.slice A3 n3 k3)); clear H cT cP cR cX cM; intro W8 K_; obtain ⟨H, cT, cP, cR, cX, cM⟩ := n5_ K_; clear K_)
  | (apply sh H 1 61 5 gP (rL e0 nil_ 0 0 0); clear H cT cP cR cX cM; intro W9 K_; obtain ⟨H, cT, cP, cR, cX, cM⟩ := n5_ K_; clear K_)
 refine bodyPost_ret (jG_ rfl _ _ gR gP 53 61 (mL id m u b c z s me o a l (.slice A1 n1 k1) (.slice A2 n2 k2) (.slice A3 n3 k3)).toArray (rL e0 nil_ 0 0 0).toArray (0, 0) (0, 0) _ _ rfl (H.out.at_ 2 rfl) Try.underlying53 rfl (by kernel_rfl) rfl (H.out.at_ 1 rfl) Try.underlying61 rfl (by kernel_rfl)) rfl ?_
 rw [HE.out, HV.out]
 exact kl_ rfl kp_ (vu_ _) H.out.below
theorem mclose_ok (id m u b c z s me o a l : Int) (x y q : Value) (D : Mdl) (i : Int) (p n : Int) (Ad : Option Addr) (nd kdd : Nat) (f : Bool) (w : World) (h : MC w x y q D) (hi : MInv id m u b c z s me o a l D) (he : (jV_ id m u b c z s me o a l D.L i).2 = 0) :
  Calls Try.prog 77 #[modV id m u b c z s me o a l x y q, cmdV 6 i p n (.slice Ad nd kdd) f] w (RepP id m u b c z s me o a l x y q D (jr_ D 6 i (jV_ id m u b c z s me o a l D.L i)).1 (jr_ D 6 i (jV_ id m u b c z s me o a l D.L i)).2 [] z59 w) := by
 obtain ⟨A1, A2, A3, n1, n2, n3, k1, k2, k3, rfl, rfl, rfl, hn1, hn2, hn3, hC1, hC2, hC3, hk1, hk2, hk3, hrt, hL1, hLp, hlT, hlS, hcb⟩ := jK_ h hi
 have hb1 := hcb.1
 have hR := fun W h => close_any id m u b c z s me o a l A1 k1 D.L i W h hk1
 have hWo := yc_ (id := id) (m := m) (u := u) (b := b) (c := c) (z := z) (s := s) (me := me) (o := o) (a := a) (l := l) (L := D.L) i
 rw [<- hn1] at hR
 have HMC := hid h; have HC1 := hid hC1
 obtain ⟨⟨r0, e0⟩, hr⟩ : ∃ r, jV_ id m u b c z s me o a l D.L i = r := ⟨_, rfl⟩
 rw [hr] at hR he hWo; (try dsimp only at hR he)
 have H := hid (Pk.start w)
 subst he
 obtain ⟨L1, rfl, hl1⟩ : ∃ L1, r0 = some L1 /\ L1.length = n1 := by
  rcases hWo with ⟨h, _⟩ | ⟨_, L1, h, h2⟩
  · exact absurd rfl h
  · exact ⟨L1, h, by rw [h2, hn1]⟩
 have hv : jr_ D 6 i (some L1, 0) = (⟨L1, D.T, D.S⟩, 0) := rfl
 have HV := hid hv; have HR := hid hR; have HE := hid hr; have HL1 := hid hl1
 clear hv hR hr hWo hrt hcb hlT hlS h hi hl1 hn1 hn2 hn3 hk1 hk2 hk3 hC1 hC2 hC3
 go_enter Try.func77, Try.ntmps77
 go_wp2_with first
  | (apply bh H 2 (mL id m u b c z s me o a l (.slice A1 n1 k1) (.slice A2 n2 k2) (.slice A3 n3 k3)) 53; clear H; intro gM W1 H; obtain ⟨-, cM⟩ := n1_ H)
  | (apply bh H 3 (xL 6 i p n (.slice Ad nd kdd) f) 65; clear H cM; intro gX W2 H; obtain ⟨-, cX, cM⟩ := n2_ H)
  | (apply bh H 4 (mL 0 0 0 0 0 0 0 0 0 0 0 nil_ nil_ nil_) 53; clear H cX cM; intro gR W3 H; obtain ⟨-, cR, cX, cM⟩ := n3_ H)
  | (apply bh H 5 (rL 0 nil_ 0 0 0) 61; clear H cR cX cM; intro gP W4 H; obtain ⟨-, cP, cR, cX, cM⟩ := n4_ H)
  | (go_at_call 61; refine (HR.out _ (Kd.C_below HC1.out H.out.below)).mono ?_; rintro e W5 ⟨v, rfl, hT, hb⟩; clear cP cR cX cM; obtain ⟨A4, k4, rfl, hR⟩ := vA_ hT; replace H := pr H hb hR; clear hT; clear hb; obtain ⟨-, cP, cR, cX, cM⟩ := n4_ H)
  | (apply bh H 7 (tL 0 0 0 0 0 0 0 0 0 0 0 nil_) 27; clear H cP cR cX cM; intro gT W6 H; obtain ⟨-, cT, cP, cR, cX, cM⟩ := n5_ H)
  | (apply sh H 0 27 7 gT (tL id m u b c z s me o a l (.slice A4 L1.length k4)); clear H cT cP cR cX cM; intro W7 K_; obtain ⟨H, cT, cP, cR, cX, cM⟩ := n5_ K_; clear K_)
  | (apply sp H 4 27 34 gM 0 (tL id m u b c z s me o a l (.slice A4 L1.length k4)) (mL id m u b c z s me o a l (.slice A4 L1.length k4) (.slice A2 n2 k2) (.slice A3 n3 k3)); clear H cT cP cR cX cM; intro W8 K_; obtain ⟨H, cT, cP, cR, cX, cM⟩ := n5_ K_; clear K_)
  | (apply sh H 2 53 4 gR (mL id m u b c z s me o a l (.slice A4 L1.length k4) (.slice A2 n2 k2) (.slice A3 n3 k3)); clear H cT cP cR cX cM; intro W9 K_; obtain ⟨H, cT, cP, cR, cX, cM⟩ := n5_ K_; clear K_)
  | (apply sn H 1 61 5 gP (rL 0 nil_ 0 0 0))
 refine bodyPost_ret (jG_ rfl _ _ gR gP 53 61 (mL id m u b c z s me o a l (.slice A4 L1.length k4) (.slice A2 n2 k2) (.slice A3 n3 k3)).toArray (rL 0 nil_ 0 0 0).toArray (0, 0) (0, 0) _ _ rfl (H.out.at_ 2 rfl) Try.underlying53 rfl (by kernel_rfl) rfl (H.out.at_ 1 rfl) Try.underlying61 rfl (by kernel_rfl)) rfl ?_
 rw [HE.out, HV.out]
 exact kl_ rfl ⟨.inr (H.out.fact 0 rfl), kd_, kd_⟩ (vu_ _) H.out.below
theorem mclose_any (id m u b c z s me o a l : Int) (x y q : Value) (D : Mdl) (i : Int) (p n : Int) (Ad : Option Addr) (nd kdd : Nat) (f : Bool) (w : World) (h : MC w x y q D) (hi : MInv id m u b c z s me o a l D) :
  Calls Try.prog 77 #[modV id m u b c z s me o a l x y q, cmdV 6 i p n (.slice Ad nd kdd) f] w (RepP id m u b c z s me o a l x y q D (jr_ D 6 i (jV_ id m u b c z s me o a l D.L i)).1 (jr_ D 6 i (jV_ id m u b c z s me o a l D.L i)).2 [] z59 w) := by
 by_cases he : (jV_ id m u b c z s me o a l D.L i).2 = 0
 · exact mclose_ok id m u b c z s me o a l x y q D i p n Ad nd kdd f w h hi he
 · exact mclose_err id m u b c z s me o a l x y q D i p n Ad nd kdd f w h hi he
end Go.Proofs.Ytgckcaoncjhgbaa
