/- model.read. -/
import Derived.WalkKit
import Derived.WalkSpells
import Derived.WalkLawsBesides
import Derived.Lib.Hide
import Derived.Test.YtgckcaoncjhgbaaFGw
import Derived.Test.YtgckcaoncjhgbaaFMa
import Derived.Test.YtgckcaoncjhgbaaFMb
namespace Go.Proofs.Ytgckcaoncjhgbaa
open Go.RowKit Go.Proofs.Ytgckcaoncjhgbaa.PL Go.Proofs.YtgckcaoncjhgbaaW.PrintWords Go.Proofs.YtgckcaoncjhgbaaW.PrintLast
set_option linter.unusedVariables false
set_option linter.unusedSimpArgs false
attribute [local go_sem] List.getElem?_toArray List.getElem?_cons_succ List.getElem?_cons_zero mL tL cL xL rL oL
def T_model_read_5 : Bool × List (List Nat × List Nat) := (true, [([], []), ([], []), ([1], [1]), ([], []), ([3], [3]), ([2, 4], [2, 4]), ([5], [5]), ([], []), ([7], [7]), ([], []), ([8, 9], [8, 9]), ([], []), ([11], [11]), ([], []), ([13], [13]), ([12, 14], [12, 14]), ([], []), ([15, 16], [15, 16]), ([6, 10, 17], [6, 10, 17]), ([18], [18]), ([19], [19]), ([0, 0], [0]), ([20, 21, 0, 1, 2, 3, 4, 5, 6, 7, 8, 9, 10, 11, 12, 13, 14, 15, 16, 17, 18, 19, 20, 21], [20])])
theorem tab_model_read_5 : rtab .any (opsOf Try.f75 5) = T_model_read_5 := by kernel_rfl
theorem bits_model_read_5 : waitsOk T_model_read_5.2 [0, 0, 2, 0, 8, 30, 62, 0, 128, 0, 896, 0, 2048, 0, 8192, 30720, 0, 129024, 262142, 524286, 1048574, 1, 4194303] = true := by kernel_rfl
set_option maxHeartbeats 1000000 in
set_option maxRecDepth 100000 in
theorem mread_err (id m u b c z s me o a l : Int) (x y q : Value) (D : Mdl) (kd i p n : Int) (Ad : Option Addr) (nd kdd : Nat) (f : Bool) (w : World) (h : MC w x y q D) (hi : MInv id m u b c z s me o a l D) (he : ¬ readZ id m u b c z s me o a l D.L i p n = 0) :
  Calls Try.prog 75 #[modV id m u b c z s me o a l x y q, cmdV kd i p n (.slice Ad nd kdd) f] w (RepP id m u b c z s me o a l x y q D D (readM id m u b c z s me o a l D i p n).1 (bytesOf (readM id m u b c z s me o a l D i p n).2) z59 w) := by
 have hi0 := hi; have hs := fun a b => text_small (i := i) hi a b
 obtain ⟨A1, A2, A3, n1, n2, n3, k1, k2, k3, rfl, rfl, rfl, hn1, hn2, hn3, hC1, hC2, hC3, hk1, hk2, hk3, hrt, hL1, hLp, hlT, hlS, hcb⟩ := mc_open h hi
 have hb1 := hcb.1
 have hR := fun W h => read_any id m u b c z s me o a l A1 k1 D.L i p n W h hk1
 rw [<- hn1] at hR
 rw [<- hn2] at hs
 have HMC := Lib.hid h; have HC1 := Lib.hid hC1; have HC2 := Lib.hid hC2
 obtain ⟨e0, hr⟩ : ∃ r, readZ id m u b c z s me o a l D.L i p n = r := ⟨_, rfl⟩
 rw [hr] at hR he
 have H := Lib.hid (Pk.start w)
 have hv : readM id m u b c z s me o a l D i p n = (e0, ByteArray.empty) := by unfold readM; rw [hr, if_pos he]
 have HV := Lib.hid hv; have HR := Lib.hid hR; have eb : (e0 == 0) = false := beq_eq_false_iff_ne.mpr he; have eb2 : (e0 != 0) = true := bne_iff_ne.mpr he
 clear hv hR he hr hs hi0 hrt hcb hlT hlS h hi hn1 hn2 hn3 hk1 hk2 hk3 hC1 hC2 hC3
 go_enter Try.func75, Try.ntmps75
 go_wp2_with first
  | (apply bh H 2 (mL id m u b c z s me o a l (.slice A1 n1 k1) (.slice A2 n2 k2) (.slice A3 n3 k3)) 53; clear H; intro gM W1 H; obtain ⟨-, cM⟩ := n1_ H)
  | (apply bh H 3 (xL kd i p n (.slice Ad nd kdd) f) 65; clear H cM; intro gX W2 H; obtain ⟨-, cX, cM⟩ := n2_ H)
  | (apply bh H 4 (mL 0 0 0 0 0 0 0 0 0 0 0 nil_ nil_ nil_) 53; clear H cX cM; intro gR W3 H; obtain ⟨-, cR, cX, cM⟩ := n3_ H)
  | (apply bh H 5 (rL 0 nil_ 0 0 0) 61; clear H cR cX cM; intro gP W4 H; obtain ⟨-, cP, cR, cX, cM⟩ := n4_ H)
  | (go_at_call 57; refine (HR.out _ (Kd.C_below HC1.out H.out.below)).mono ?_; rintro e W5 ⟨rfl, hb⟩; clear cP cR cX cM; replace H := pc H hb; clear hb; obtain ⟨-, cP, cR, cX, cM⟩ := n4_ H)
  | (go_at_call 73; refine (failed_any id m u b c z s me o a l A1 A2 A3 n1 k1 n2 k2 n3 k3 (e0) _).mono ?_; rintro e W6 ⟨rfl, hb⟩; clear cP cR cX cM; replace H := pc H hb; clear hb; obtain ⟨-, cP, cR, cX, cM⟩ := n4_ H)
  | (apply sh H 1 53 4 gR (mL id m u b c z s me o a l (.slice A1 n1 k1) (.slice A2 n2 k2) (.slice A3 n3 k3)); clear H cP cR cX cM; intro W7 K_; obtain ⟨H, cP, cR, cX, cM⟩ := n4_ K_; clear K_)
  | (apply sh H 0 61 5 gP (rL e0 nil_ 0 0 0); clear H cP cR cX cM; intro W8 K_; obtain ⟨H, cP, cR, cX, cM⟩ := n4_ K_; clear K_)
 refine bodyPost_ret (results_cc rfl _ _ gR gP 53 61 (mL id m u b c z s me o a l (.slice A1 n1 k1) (.slice A2 n2 k2) (.slice A3 n3 k3)).toArray (rL e0 nil_ 0 0 0).toArray (0, 0) (0, 0) _ _ rfl (H.out.at_ 1 rfl) Try.underlying53 rfl (by kernel_rfl) rfl (H.out.at_ 0 rfl) Try.underlying61 rfl (by kernel_rfl)) rfl ?_
 rw [HV.out]
 exact RepP_mk rfl MD_same (BR_nil _) H.out.below
set_option maxHeartbeats 1000000 in
set_option maxRecDepth 100000 in
theorem mread_ok (id m u b c z s me o a l : Int) (x y q : Value) (D : Mdl) (kd i p n : Int) (Ad : Option Addr) (nd kdd : Nat) (f : Bool) (w : World) (h : MC w x y q D) (hi : MInv id m u b c z s me o a l D) (he : readZ id m u b c z s me o a l D.L i p n = 0) :
  Calls Try.prog 75 #[modV id m u b c z s me o a l x y q, cmdV kd i p n (.slice Ad nd kdd) f] w (RepP id m u b c z s me o a l x y q D D (readM id m u b c z s me o a l D i p n).1 (bytesOf (readM id m u b c z s me o a l D i p n).2) z59 w) := by
 have hi0 := hi; have hs := fun a b => text_small (i := i) hi a b
 obtain ⟨A1, A2, A3, n1, n2, n3, k1, k2, k3, rfl, rfl, rfl, hn1, hn2, hn3, hC1, hC2, hC3, hk1, hk2, hk3, hrt, hL1, hLp, hlT, hlS, hcb⟩ := mc_open h hi
 have hb1 := hcb.1
 have hR := fun W h => read_any id m u b c z s me o a l A1 k1 D.L i p n W h hk1
 rw [<- hn1] at hR
 rw [<- hn2] at hs
 have HMC := Lib.hid h; have HC1 := Lib.hid hC1; have HC2 := Lib.hid hC2
 obtain ⟨e0, hr⟩ : ∃ r, readZ id m u b c z s me o a l D.L i p n = r := ⟨_, rfl⟩
 rw [hr] at hR he
 have H := Lib.hid (Pk.start w)
 subst he
 obtain ⟨i0, i1, g1, g2, g3⟩ := readZ_ok hrt hr
 rw [<- hn1] at i1
 have i2 : i < (n2 : Int) := by omega
 obtain ⟨-, -, -, hsz⟩ := hi0
 have hsz := (hsz i.toNat (by omega)).1
 rw [Int.toNat_of_nonneg i0] at hsz
 obtain ⟨ad2, rfl⟩ := C_some hC2 (by omega)
 have hs := hs i0 i2
 obtain ⟨tx, htx⟩ : ∃ t, t = rdOf default D.T i := ⟨_, rfl⟩
 rw [<- htx] at hs hsz
 have m1 : p * b <= (tx.size : Int) := by rw [hsz]; exact Int.mul_le_mul_of_nonneg_right (by omega) (by omega)
 have m2 : (p + n) * b <= (tx.size : Int) := by rw [hsz]; exact Int.mul_le_mul_of_nonneg_right (by omega) (by omega)
 have m3 : 0 <= p * b := Int.mul_nonneg (by omega) (by omega)
 have m4 : p * b <= (p + n) * b := Int.mul_le_mul_of_nonneg_right (by omega) (by omega)
 have m5 : p + n <= (p + n) * b := by have := Int.mul_le_mul_of_nonneg_left (show (1 : Int) <= b by omega) (show 0 <= p + n by omega); omega
 have w1 : IntKind.i64.wrap (p * b) = p * b := by rw [i64_w]; unfold wrap64; omega
 have w2 : IntKind.i64.wrap (p + n) = p + n := by rw [i64_w]; unfold wrap64; omega
 have w3 : IntKind.i64.wrap ((p + n) * b) = (p + n) * b := by rw [i64_w]; unfold wrap64; omega
 obtain ⟨lo, hlo⟩ : ∃ k : Int, k = p * b := ⟨_, rfl⟩
 obtain ⟨hh, hhh⟩ : ∃ k : Int, k = (p + n) * b := ⟨_, rfl⟩
 have x1 : IntKind.i64.wrap (p * b) = lo := by rw [hlo]; exact w1
 have y1 : wrap64 (p * b) = lo := by rw [hlo, <- i64_w]; exact w1
 have x3 : IntKind.i64.wrap ((p + n) * b) = hh := by rw [hhh]; exact w3
 have y3 : wrap64 ((p + n) * b) = hh := by rw [hhh, <- i64_w]; exact w3
 have y2 : wrap64 (p + n) = p + n := by rw [<- i64_w]; exact w2
 rw [<- hlo] at m1 m3 m4
 rw [<- hhh] at m2 m4
 clear w1 w3
 obtain ⟨sx, hsx⟩ : ∃ t, tx.extract lo.toNat hh.toNat = t := ⟨_, rfl⟩
 have hxs : sx.size <= 9223372036854775807 := by rw [<- hsx, ByteArray.size_extract]; omega
 have hv : readM id m u b c z s me o a l D i p n = (0, sx) := by unfold readM; rw [hr, if_neg (by simp), <- htx, <- hlo, <- hhh, hsx]
 have HV := Lib.hid hv; have HR := Lib.hid hR; have HTX := Lib.hid htx; have HXS := Lib.hid hxs; clear hv hr hR htx hxs hrt hsz hcb hlT hlS h hi g1 g2 g3 m5
 clear hlo hhh hn1 hn2 hn3 hk1 hk2 hk3 hC1 hC2 hC3
 go_enter Try.func75, Try.ntmps75
 go_wp2_with first
  | (apply bh H 2 (mL id m u b c z s me o a l (.slice A1 n1 k1) (.slice (some ad2) n2 k2) (.slice A3 n3 k3)) 53; clear H; intro gM W1 H; obtain ⟨-, cM⟩ := n1_ H)
  | (apply bh H 3 (xL kd i p n (.slice Ad nd kdd) f) 65; clear H cM; intro gX W2 H; obtain ⟨-, cX, cM⟩ := n2_ H)
  | (apply bh H 4 (mL 0 0 0 0 0 0 0 0 0 0 0 nil_ nil_ nil_) 53; clear H cX cM; intro gR W3 H; obtain ⟨-, cR, cX, cM⟩ := n3_ H)
  | (apply bh H 5 (rL 0 nil_ 0 0 0) 61; clear H cR cX cM; intro gP W4 H; obtain ⟨-, cP, cR, cX, cM⟩ := n4_ H)
  | (go_at_call 57; refine (HR.out _ (Kd.C_below HC1.out H.out.below)).mono ?_; rintro e W5 ⟨rfl, hb⟩; clear cP cR cX cM; replace H := pc H hb; clear hb; obtain ⟨-, cP, cR, cX, cM⟩ := n4_ H)
 clear cP cR cX cM
 refine start_ (n := 23) (S := fun W => bW W gM (mL id m u b c z s me o a l (.slice A1 n1 k1) (.slice (some ad2) n2 k2) (.slice A3 n3 k3)) /\ bW W gX (xL kd i p n (.slice Ad nd kdd) f) /\ W.cell? (ad2.add i.toNat) = some (.string tx)) (ds := []) (bq 23 0) (by kernel_rfl) rfl (by kernel_rfl) ⟨H.out.drew.cell 3 rfl, H.out.drew.cell 2 rfl, (by rw [HTX.out]; exact C_el default (Kd.C_below HC2.out (H.out.drew).below) i i0 i2)⟩ (fun hHeld => ?_)
 refine with_tabW tab_model_read_5 bits_model_read_5 (fun HT_ HW_ => ?_)
 have zH := H.out.drew
 generalize W5.drew = W6 at zH hHeld ⊢
 replace H := Lib.hid zH; clear zH
 apply tw 0 28 (bq 23 1) HT_ HW_ hHeld
 apply pu 1 29 (bq 23 3) HT_
 apply tw 2 30 (bq 23 7) HT_ HW_ hHeld
 apply pu 3 31 (bq 23 15) HT_
 apply tw 4 32 (bq 23 31) HT_ HW_ hHeld
 apply pu 5 33 (bq 23 63) HT_
 apply tw 6 34 (bq 23 127) HT_ HW_ hHeld
 apply pu 7 35 (bq 23 255) HT_
 apply tw 8 36 (bq 23 511) HT_ HW_ hHeld
 apply pu 9 37 (bq 23 1023) HT_
 apply pu 10 38 (bq 23 2047) HT_
 apply pu 11 39 (bq 23 4095) HT_
 apply tw 12 40 (bq 23 8191) HT_ HW_ hHeld
 apply pu 13 41 (bq 23 16383) HT_
 apply tw 14 42 (bq 23 32767) HT_ HW_ hHeld
 apply pu 15 43 (bq 23 65535) HT_
 apply pu 16 44 (bq 23 131071) HT_
 apply pu 17 45 (bq 23 262143) HT_
 apply pu 18 46 (bq 23 524287) HT_
 refine join_ (σ := Nat × Nat) 1 (bq 23 4194303) (fun y => [(47, .slice (some ⟨y.1, 0, none⟩) sx.size y.2), (48, .agg #[.int .i64 0, .slice (some ⟨y.1, 0, none⟩) sx.size y.2, .int .i64 0, .int .i64 0, .int .i64 0])]) (fun y W => (bW W gM (mL id m u b c z s me o a l (.slice A1 n1 k1) (.slice (some ad2) n2 k2) (.slice A3 n3 k3)) /\ bW W gX (xL kd i p n (.slice Ad nd kdd) f) /\ W.cell? (ad2.add i.toNat) = some (.string tx)) /\ Pk w W [⟨gP, 61, (rL 0 nil_ 0 0 0).toArray⟩, ⟨gR, 53, (mL id m u b c z s me o a l (.slice A1 n1 k1) (.slice (some ad2) n2 k2) (.slice A3 n3 k3)).toArray⟩, ⟨gX, 65, (xL kd i p n (.slice Ad nd kdd) f).toArray⟩, ⟨gM, 53, (mL id m u b c z s me o a l (.slice A1 n1 k1) (.slice (some ad2) n2 k2) (.slice A3 n3 k3)).toArray⟩] [BytF (.slice (some ⟨y.1, 0, none⟩) sx.size y.2) (bytesOf sx)]) ?_ ?_
 rotate_left
 ·
  intro hCont
  refine two_ (i := 19) (j := 21) (Ni := some 47) (Nj := none) (bq 23 1048575) (bq 23 2621439) rfl rfl rfl rfl (two_of HT_.out (by kernel_rfl)) (by decide) (by decide) (fun K hK => ?_) (fun K hK => ?_)
  ·
   obtain ⟨-, cP, cR, cX, cM⟩ := n4_ H
   have hr_ := print_bytes (P := Try.prog) 9 57 5 Try.underlying9 Try.underlying57 Try.underlying5 sx W6
   refine event_step rfl (v := .slice (some ⟨W6.heap.size, 0, none⟩) sx.size (grownCap W6 sx.size 0 5)) (w1 := Lib.bytesWorld W6 5 sx) ?hr ?_
   (case hr => first | (go_simp; done) | (go_simp; rfl))
   clear hr_
   clear cP cR cX cM
   have hb : Below W6.heap.size W6 (Lib.bytesWorld W6 5 sx) := bytes_below (Below.refl _ _) (Nat.le_refl _) _ _
   have hR : BR (Lib.bytesWorld W6 5 sx) (.slice (some ⟨W6.heap.size, 0, none⟩) sx.size (grownCap W6 sx.size 0 5)) (bytesOf sx) := BR_bytes _ _ (HXS.out) _ (grownCap_ge _ _ _ _)
   generalize Lib.bytesWorld W6 5 sx = W7 at hb hR ⊢
   generalize grownCap W6 sx.size 0 5 = cV_ at hR ⊢
   generalize W6.heap.size = gV_ at hR ⊢
   replace H := Lib.hid ((H.out.called hb).row (BytF (.slice (some ⟨gV_, 0, none⟩) sx.size cV_) (bytesOf sx)) (hR))
   clear hb hR
   refine hK.out _ _ ⟨H.out.cell 3 rfl, H.out.cell 2 rfl, (by rw [HTX.out]; exact C_el default (Kd.C_below HC2.out H.out.below) i i0 i2)⟩ (fun hHeld => ?_)
   clear hK K
   apply nm 0
   apply pu 20 48 (bq 23 2097151) HT_
   apply on 21 none (bq 23 4194303) HT_; intro K hK
   obtain ⟨-, cP, cR, cX, cM⟩ := n4_ H
   apply shs H 1 53 4 gR (mL id m u b c z s me o a l (.slice A1 n1 k1) (.slice (some ad2) n2 k2) (.slice A3 n3 k3))
   clear H cP cR cX cM
   intro W8 K_
   have H := (n4_ K_).1; clear K_
   refine hK.out _ _ ⟨H.out.cell 3 rfl, H.out.cell 2 rfl, (by rw [HTX.out]; exact C_el default (Kd.C_below HC2.out H.out.below) i i0 i2)⟩ (fun hHeld => ?_)
   clear hK K
   exact norm_ (by simp only [putAll, Act.put, List.setIfInBounds_toArray, List.set_cons_zero, List.set_cons_succ]) (hCont (gV_, cV_) _ ⟨hHeld, H.out⟩)
  ·
   obtain ⟨-, cP, cR, cX, cM⟩ := n4_ H
   apply shs H 1 53 4 gR (mL id m u b c z s me o a l (.slice A1 n1 k1) (.slice (some ad2) n2 k2) (.slice A3 n3 k3))
   clear H cP cR cX cM
   intro W7 K_
   have H := (n4_ K_).1; clear K_
   refine hK.out _ _ ⟨H.out.cell 3 rfl, H.out.cell 2 rfl, (by rw [HTX.out]; exact C_el default (Kd.C_below HC2.out H.out.below) i i0 i2)⟩ (fun hHeld => ?_)
   clear hK K
   apply on 19 (some 47) (bq 23 3145727) HT_; intro K hK
   obtain ⟨-, cP, cR, cX, cM⟩ := n4_ H
   have hr_ := print_bytes (P := Try.prog) 9 57 5 Try.underlying9 Try.underlying57 Try.underlying5 sx W7
   refine event_step rfl (v := .slice (some ⟨W7.heap.size, 0, none⟩) sx.size (grownCap W7 sx.size 0 5)) (w1 := Lib.bytesWorld W7 5 sx) ?hr ?_
   (case hr => first | (go_simp; done) | (go_simp; rfl))
   clear hr_
   clear cP cR cX cM
   have hb : Below W7.heap.size W7 (Lib.bytesWorld W7 5 sx) := bytes_below (Below.refl _ _) (Nat.le_refl _) _ _
   have hR : BR (Lib.bytesWorld W7 5 sx) (.slice (some ⟨W7.heap.size, 0, none⟩) sx.size (grownCap W7 sx.size 0 5)) (bytesOf sx) := BR_bytes _ _ (HXS.out) _ (grownCap_ge _ _ _ _)
   generalize Lib.bytesWorld W7 5 sx = W8 at hb hR ⊢
   generalize grownCap W7 sx.size 0 5 = cV_ at hR ⊢
   generalize W7.heap.size = gV_ at hR ⊢
   replace H := Lib.hid ((H.out.called hb).row (BytF (.slice (some ⟨gV_, 0, none⟩) sx.size cV_) (bytesOf sx)) (hR))
   clear hb hR
   refine hK.out _ _ ⟨H.out.cell 3 rfl, H.out.cell 2 rfl, (by rw [HTX.out]; exact C_el default (Kd.C_below HC2.out H.out.below) i i0 i2)⟩ (fun hHeld => ?_)
   clear hK K
   apply nm 0
   apply pu 20 48 (bq 23 4194303) HT_
   exact norm_ (by simp only [putAll, Act.put, List.setIfInBounds_toArray, List.set_cons_zero, List.set_cons_succ]) (hCont (gV_, cV_) _ ⟨hHeld, H.out⟩)
 rintro ⟨gV_, cV_⟩ W59 ⟨hHeld, hPk⟩
 (try dsimp only at hHeld hPk ⊢)
 replace H := Lib.hid hPk; clear hPk
 refine norm_ (a' := ?_) ?_ ?_
 rotate_left
 ·
  simp only [putAll, Act.put, List.setIfInBounds_toArray, List.set_cons_zero, List.set_cons_succ]
  rfl
 apply on 22 none (bq 23 8388607) HT_; intro K hK
 obtain ⟨-, cP, cR, cX, cM⟩ := n4_ H
 apply shs H 0 61 5 gP (rL 0 (.slice (some ⟨gV_, 0, none⟩) sx.size cV_) 0 0 0)
 clear H cP cR cX cM
 intro W60 K_
 have H := (n4_ K_).1; clear K_
 refine hK.out _ _ ⟨H.out.cell 3 rfl, H.out.cell 2 rfl, (by rw [HTX.out]; exact C_el default (Kd.C_below HC2.out H.out.below) i i0 i2)⟩ (fun hHeld => ?_)
 clear hK K
 refine done_ (done_of HT_.out (by kernel_rfl)) ?_
 obtain ⟨-, cP, cR, cX, cM⟩ := n4_ H
 go_wp2
 refine bodyPost_ret (results_cc rfl _ _ gR gP 53 61 (mL id m u b c z s me o a l (.slice A1 n1 k1) (.slice (some ad2) n2 k2) (.slice A3 n3 k3)).toArray (rL 0 (.slice (some ⟨gV_, 0, none⟩) sx.size cV_) 0 0 0).toArray (0, 0) (0, 0) _ _ rfl (H.out.at_ 1 rfl) Try.underlying53 rfl (by kernel_rfl) rfl (H.out.at_ 0 rfl) Try.underlying61 rfl (by kernel_rfl)) rfl ?_
 rw [HV.out]
 exact RepP_mk rfl MD_same (H.out.fact 0 rfl) H.out.below
theorem mread_any (id m u b c z s me o a l : Int) (x y q : Value) (D : Mdl) (kd i p n : Int) (Ad : Option Addr) (nd kdd : Nat) (f : Bool) (w : World) (h : MC w x y q D) (hi : MInv id m u b c z s me o a l D) :
  Calls Try.prog 75 #[modV id m u b c z s me o a l x y q, cmdV kd i p n (.slice Ad nd kdd) f] w (RepP id m u b c z s me o a l x y q D D (readM id m u b c z s me o a l D i p n).1 (bytesOf (readM id m u b c z s me o a l D i p n).2) z59 w) := by
 by_cases he : readZ id m u b c z s me o a l D.L i p n = 0
 · exact mread_ok id m u b c z s me o a l x y q D kd i p n Ad nd kdd f w h hi he
 · exact mread_err id m u b c z s me o a l x y q D kd i p n Ad nd kdd f w h hi he
end Go.Proofs.Ytgckcaoncjhgbaa
