/- revetmentref18.Do, over the same plain model: some commands. -/
import Derived.Test.YtgckcaoncjhgbaaFMc
import Derived.Test.YtgckcaoncjhgbaaFRw
set_option maxHeartbeats 4000000
set_option maxRecDepth 100000
open Go.Lib (hid)
namespace Go.Proofs.Ytgckcaoncjhgbaa
open Go.RowKit Go.Proofs.Ytgckcaoncjhgbaa.PL Go.Proofs.YtgckcaoncjhgbaaW.PrintWords Go.Proofs.YtgckcaoncjhgbaaW.PrintLast
set_option linter.unusedVariables false
set_option linter.unusedSimpArgs false
attribute [local go_sem] List.getElem?_toArray List.getElem?_cons_succ List.getElem?_cons_zero mL tL cL xL rL oL
def vo_ : Bool × List (List Nat × List Nat) := (true, [([], []), ([], []), ([1], [1]), ([2], [2]), ([], []), ([4], [4]), ([3, 5], [3, 5]), ([6], [6]), ([0, 0], [0]), ([8, 0, 8], []), ([9, 0, 8, 9], []), ([7, 10, 0, 1, 2, 3, 4, 5, 6, 7, 8, 9, 10], [7])])
theorem xi_ : rtab .any (kT_ Try.f28 49) = vo_ := by kernel_rfl
theorem xb_ : jO_ vo_.2 [0, 0, 2, 6, 0, 16, 62, 126, 1, 257, 769, 2047] = true := by kernel_rfl
def vq_ : Bool × List (List Nat × List Nat) := (true, [([], []), ([], []), ([1], [1]), ([], []), ([3], [3]), ([2, 4], [2, 4]), ([5], [5]), ([], []), ([7], [7]), ([], []), ([9], [9]), ([8, 10], [8, 10]), ([], []), ([12], [12]), ([], []), ([14], [14]), ([13, 15], [13, 15]), ([], []), ([17], [17]), ([16, 18], [16, 18]), ([6, 11, 19], [6, 11, 19]), ([], []), ([0, 0], [0]), ([22, 0, 22], []), ([20, 23, 0, 1, 2, 3, 4, 5, 6, 7, 8, 9, 10, 11, 12, 13, 14, 15, 16, 17, 18, 19, 20, 22, 23], [20]), ([21, 24, 0, 1, 2, 3, 4, 5, 6, 7, 8, 9, 10, 11, 12, 13, 14, 15, 16, 17, 18, 19, 20, 21, 22, 23, 24], [21])])
theorem xk_ : rtab .any (kT_ Try.f28 21) = vq_ := by kernel_rfl
theorem xd_ : jO_ vq_.2 [0, 0, 2, 0, 8, 30, 62, 0, 128, 0, 512, 1920, 0, 4096, 0, 16384, 61440, 0, 131072, 520192, 1048574, 0, 1, 4194305, 14680063, 33554431] = true := by kernel_rfl
theorem rdo_flush (id m u b c z s me o a l : Int) (x y q : Value) (D : Mdl) (i p n : Int) (Ad : Option Addr) (kdd : Nat) (d : List Int) (f : Bool) (w : World) (h : MC w x y q D) (hi : MInv id m u b c z s me o a l D) (hd : Kd.C (Kd.int .u8) w Ad d.length d) (hdk : d.length <= kdd) :
  Calls Try.prog 28 #[modV id m u b c z s me o a l x y q, cmdV 2 i p n (.slice Ad d.length kdd) f] w (RsP id m u b c z s me o a l x y q D (doM id m u b c z s me o a l D (⟨2, i, p, n, d, f⟩ : S65)) w) := by
 have hsz0 := hi.2.2.2
 obtain ⟨A1, A2, A3, n1, n2, n3, k1, k2, k3, rfl, rfl, rfl, hn1, hn2, hn3, hC1, hC2, hC3, hk1, hk2, hk3, hrt, hL1, hLp, hlT, hlS, hcb⟩ := jK_ h hi
 obtain ⟨nd, hnd⟩ : ∃ n, n = d.length := ⟨_, rfl⟩
 have hb1 := hcb.1
 have hnm : nd <= 9223372036854775807 := by rw [hnd]; exact hd.2.1
 rw [<- hnd] at hd hdk ⊢
 have HMC := hid h; have HD := hid hd; have HC1 := hid hC1; have HC2 := hid hC2; have HN1 := hid hn1
 have HF := hid (fun W h => rall_any id m u b c z s me o a l (.slice A1 n1 k1) (.slice A2 n2 k2) (.slice A3 n3 k3) D W h (by omega))
 clear h hi hd hrt hcb hlT hlS hsz0 hn1 hn2 hn3 hnd hk1 hk2 hk3 hC1 hC2 hC3
 have h3_ : (0 <= i /\ i < (n2 : Int)) \/ (¬ 0 <= i) \/ (0 <= i /\ ¬ i < (n2 : Int)) := by omega
 rcases h3_ with ⟨j0, j1⟩ | j0 | ⟨j0, j1⟩ <;> (
  have H := hid (Pk.start w)
  go_enter Try.func28, Try.ntmps28
  go_wp2_with first
   | (apply bh H 2 (mL id m u b c z s me o a l (.slice A1 n1 k1) (.slice A2 n2 k2) (.slice A3 n3 k3)) 68; clear H; intro gM W1 H; obtain ⟨-, cM⟩ := n1_ H)
   | (apply bh H 3 (xL 2 i p n (.slice Ad nd kdd) f) 65; clear H cM; intro gX W2 H; obtain ⟨-, cX, cM⟩ := n2_ H)
   | (apply bh H 4 (mL 0 0 0 0 0 0 0 0 0 0 0 nil_ nil_ nil_) 68; clear H cX cM; intro gR W3 H; obtain ⟨-, cR, cX, cM⟩ := n3_ H)
   | (apply bh H 7 (oL 0 0 0) 59; clear H cR cX cM; intro gZ W4 H; obtain ⟨-, cZ, cR, cX, cM⟩ := n4_ H)
   | (apply bh H 8 (cL 0 0 0 0 0 0 0 0 0 0 0) 23; clear H cZ cR cX cM; intro gC W5 H; obtain ⟨-, cC, cZ, cR, cX, cM⟩ := n5_ H)
   | (apply sh H 0 23 8 gC (cL id m u b c z s me o a l); clear H cC cZ cR cX cM; intro W6 K_; obtain ⟨H, cC, cZ, cR, cX, cM⟩ := n5_ K_; clear K_)
   | (go_at_call 79; refine (HF.out _ (kL_ HMC.out H.out.below)).mono ?_; rintro e W7 ⟨q7, rfl, hF, hb⟩; clear cC cZ cR cX cM; obtain ⟨A7, k7, rfl⟩ := Kd.R_slice hF; simp only [List.length_map] at hF ⊢; replace H := pr H hb hF; clear hF; clear hb; obtain ⟨-, cC, cZ, cR, cX, cM⟩ := n5_ H)
   | (apply sh H 2 68 4 gR (mL id m u b c z s me o a l (.slice A1 n1 k1) (.slice A2 n2 k2) (.slice A7 D.L.length k7)); clear H cC cZ cR cX cM; intro W8 K_; obtain ⟨H, cC, cZ, cR, cX, cM⟩ := n5_ K_; clear K_)
   | (apply sn H 1 59 7 gZ (oL 0 0 0))
  refine bodyPost_ret (jJ_ rfl _ _ gR gZ _ _ _ _ (0, 0) (0, 0) _ _ rfl (H.out.at_ 2 rfl) Try.underlying68 rfl (by kernel_rfl) rfl (H.out.at_ 1 rfl) Try.underlying59 rfl (by kernel_rfl)) rfl ?_
  exact vl_ rfl rfl ⟨kd_, kd_, .inr (H.out.fact 0 rfl)⟩ H.out.below)
theorem rdo_other (id m u b c z s me o a l : Int) (x y q : Value) (D : Mdl) (kd : Int) (i p n : Int) (Ad : Option Addr) (kdd : Nat) (d : List Int) (f : Bool) (w : World) (h : MC w x y q D) (hi : MInv id m u b c z s me o a l D) (hd : Kd.C (Kd.int .u8) w Ad d.length d) (hdk : d.length <= kdd) (k0_ : ¬ kd = 0) (k1_ : ¬ kd = 1) (k2_ : ¬ kd = 2) (k3_ : ¬ kd = 3) (k4_ : ¬ kd = 4) (k5_ : ¬ kd = 5) (k6_ : ¬ kd = 6) (k7_ : ¬ kd = 7) :
  Calls Try.prog 28 #[modV id m u b c z s me o a l x y q, cmdV kd i p n (.slice Ad d.length kdd) f] w (RsP id m u b c z s me o a l x y q D (doM id m u b c z s me o a l D (⟨kd, i, p, n, d, f⟩ : S65)) w) := by
 have hsz0 := hi.2.2.2
 obtain ⟨A1, A2, A3, n1, n2, n3, k1, k2, k3, rfl, rfl, rfl, hn1, hn2, hn3, hC1, hC2, hC3, hk1, hk2, hk3, hrt, hL1, hLp, hlT, hlS, hcb⟩ := jK_ h hi
 obtain ⟨nd, hnd⟩ : ∃ n, n = d.length := ⟨_, rfl⟩
 have hb1 := hcb.1
 have hnm : nd <= 9223372036854775807 := by rw [hnd]; exact hd.2.1
 have hv : doM id m u b c z s me o a l D ⟨kd, i, p, n, d, f⟩ = (D, 1, ByteArray.empty, z59) := by unfold doM; simp only [if_neg k0_, if_neg k1_, if_neg k2_, if_neg k3_, if_neg k4_, if_neg k5_, if_neg k6_, if_neg k7_]
 have HV := hid hv
 rw [<- hnd] at hd hdk ⊢
 have HMC := hid h; have HD := hid hd; have HC1 := hid hC1; have HC2 := hid hC2; have HN1 := hid hn1
 have b0_ : (kd == 0) = false := beq_eq_false_iff_ne.mpr k0_
 have b1_ : (kd == 1) = false := beq_eq_false_iff_ne.mpr k1_
 have b2_ : (kd == 2) = false := beq_eq_false_iff_ne.mpr k2_
 have b3_ : (kd == 3) = false := beq_eq_false_iff_ne.mpr k3_
 have b4_ : (kd == 4) = false := beq_eq_false_iff_ne.mpr k4_
 have b5_ : (kd == 5) = false := beq_eq_false_iff_ne.mpr k5_
 have b6_ : (kd == 6) = false := beq_eq_false_iff_ne.mpr k6_
 have b7_ : (kd == 7) = false := beq_eq_false_iff_ne.mpr k7_
 clear h hi hd hrt hcb hlT hlS hsz0 hn1 hn2 hn3 hnd hk1 hk2 hk3 hC1 hC2 hC3 hv k0_ k1_ k2_ k3_ k4_ k5_ k6_ k7_
 have h3_ : (0 <= i /\ i < (n2 : Int)) \/ (¬ 0 <= i) \/ (0 <= i /\ ¬ i < (n2 : Int)) := by omega
 rcases h3_ with ⟨j0, j1⟩ | j0 | ⟨j0, j1⟩ <;> (
  have H := hid (Pk.start w)
  go_enter Try.func28, Try.ntmps28
  go_wp2_with first
   | (apply bh H 2 (mL id m u b c z s me o a l (.slice A1 n1 k1) (.slice A2 n2 k2) (.slice A3 n3 k3)) 68; clear H; intro gM W1 H; obtain ⟨-, cM⟩ := n1_ H)
   | (apply bh H 3 (xL kd i p n (.slice Ad nd kdd) f) 65; clear H cM; intro gX W2 H; obtain ⟨-, cX, cM⟩ := n2_ H)
   | (apply bh H 4 (mL 0 0 0 0 0 0 0 0 0 0 0 nil_ nil_ nil_) 68; clear H cX cM; intro gR W3 H; obtain ⟨-, cR, cX, cM⟩ := n3_ H)
   | (apply bh H 7 (oL 0 0 0) 59; clear H cR cX cM; intro gZ W4 H; obtain ⟨-, cZ, cR, cX, cM⟩ := n4_ H)
   | (apply bh H 8 (cL 0 0 0 0 0 0 0 0 0 0 0) 23; clear H cZ cR cX cM; intro gC W5 H; obtain ⟨-, cC, cZ, cR, cX, cM⟩ := n5_ H)
   | (apply sh H 0 23 8 gC (cL id m u b c z s me o a l); clear H cC cZ cR cX cM; intro W6 K_; obtain ⟨H, cC, cZ, cR, cX, cM⟩ := n5_ K_; clear K_)
   | (apply sh H 2 68 4 gR (mL id m u b c z s me o a l (.slice A1 n1 k1) (.slice A2 n2 k2) (.slice A3 n3 k3)); clear H cC cZ cR cX cM; intro W7 K_; obtain ⟨H, cC, cZ, cR, cX, cM⟩ := n5_ K_; clear K_)
   | (apply sn H 1 59 7 gZ (oL 0 0 0))
  refine bodyPost_ret (jJ_ rfl _ _ gR gZ _ _ _ _ (0, 0) (0, 0) _ _ rfl (H.out.at_ 2 rfl) Try.underlying68 rfl (by kernel_rfl) rfl (H.out.at_ 1 rfl) Try.underlying59 rfl (by kernel_rfl)) rfl ?_
  exact vl_ HV.out rfl kp_ H.out.below)
theorem rdo_zone (id m u b c z s me o a l : Int) (x y q : Value) (D : Mdl) (i p n : Int) (Ad : Option Addr) (kdd : Nat) (d : List Int) (f : Bool) (w : World) (h : MC w x y q D) (hi : MInv id m u b c z s me o a l D) (hd : Kd.C (Kd.int .u8) w Ad d.length d) (hdk : d.length <= kdd) (hin : 0 <= i /\ i < (D.T.length : Int)) :
  Calls Try.prog 28 #[modV id m u b c z s me o a l x y q, cmdV 7 i p n (.slice Ad d.length kdd) f] w (RsP id m u b c z s me o a l x y q D (doM id m u b c z s me o a l D (⟨7, i, p, n, d, f⟩ : S65)) w) := by
 have hsz0 := hi.2.2.2
 obtain ⟨A1, A2, A3, n1, n2, n3, k1, k2, k3, rfl, rfl, rfl, hn1, hn2, hn3, hC1, hC2, hC3, hk1, hk2, hk3, hrt, hL1, hLp, hlT, hlS, hcb⟩ := jK_ h hi
 obtain ⟨nd, hnd⟩ : ∃ n, n = d.length := ⟨_, rfl⟩
 have hb1 := hcb.1
 have hnm : nd <= 9223372036854775807 := by rw [hnd]; exact hd.2.1
 have hv : doM id m u b c z s me o a l D ⟨7, i, p, n, d, f⟩ = (D, 0, ByteArray.empty, jl_ D.L i) := by show (if 0 <= i /\ i < (D.T.length : Int) then _ else _) = _; rw [if_pos hin]
 have HV := hid hv
 rw [<- hn2] at hin
 rw [<- hnd] at hd hdk ⊢
 have HMC := hid h; have HD := hid hd; have HC1 := hid hC1; have HC2 := hid hC2; have HN1 := hid hn1
 obtain ⟨j0, j1⟩ := hin
 have i1 : i < (n1 : Int) := by omega
 obtain ⟨ad1, rfl⟩ := xI_ HC1.out (by omega)
 clear h hi hd hrt hcb hlT hlS hsz0 hn1 hn2 hn3 hnd hk1 hk2 hk3 hC1 hC2 hC3 hv
 have H := hid (Pk.start w)
 go_enter Try.func28, Try.ntmps28
 go_wp2_with first
  | (apply bh H 2 (mL id m u b c z s me o a l (.slice (some ad1) n1 k1) (.slice A2 n2 k2) (.slice A3 n3 k3)) 68; clear H; intro gM W1 H; obtain ⟨-, cM⟩ := n1_ H)
  | (apply bh H 3 (xL 7 i p n (.slice Ad nd kdd) f) 65; clear H cM; intro gX W2 H; obtain ⟨-, cX, cM⟩ := n2_ H)
  | (apply bh H 4 (mL 0 0 0 0 0 0 0 0 0 0 0 nil_ nil_ nil_) 68; clear H cX cM; intro gR W3 H; obtain ⟨-, cR, cX, cM⟩ := n3_ H)
  | (apply bh H 7 (oL 0 0 0) 59; clear H cR cX cM; intro gZ W4 H; obtain ⟨-, cZ, cR, cX, cM⟩ := n4_ H)
  | (apply bh H 8 (cL 0 0 0 0 0 0 0 0 0 0 0) 23; clear H cZ cR cX cM; intro gC W5 H; obtain ⟨-, cC, cZ, cR, cX, cM⟩ := n5_ H)
  | (apply sh H 0 23 8 gC (cL id m u b c z s me o a l); clear H cC cZ cR cX cM; intro W6 K_; obtain ⟨H, cC, cZ, cR, cX, cM⟩ := n5_ K_; clear K_)
 clear cC cZ cR cX cM
 refine jN_ (n := 12) (S := fun W => bW W gM (mL id m u b c z s me o a l (.slice (some ad1) n1 k1) (.slice A2 n2 k2) (.slice A3 n3 k3)) /\ bW W gX (xL 7 i p n (.slice Ad nd kdd) f) /\ (W.cell? (ad1.add (i.toNat * 3)) = some (.int .i64 (jl_ D.L i).f0) /\ W.cell? ⟨(ad1.add (i.toNat * 3)).block, (ad1.add (i.toNat * 3)).off + 1, none⟩ = some (.int .i64 (jl_ D.L i).f1) /\ W.cell? ⟨(ad1.add (i.toNat * 3)).block, (ad1.add (i.toNat * 3)).off + 2, none⟩ = some (.int .i64 (jl_ D.L i).f2))) (ds := []) (bq 12 0) (by kernel_rfl) rfl (by kernel_rfl) ⟨H.out.drew.cell 4 rfl, H.out.drew.cell 3 rfl, xx_ (Kd.C_below HC1.out (H.out.drew).below) i j0 i1⟩ (fun hHeld => ?_)
 refine jw_ xi_ xb_ (fun HT_ HW_ => ?_)
 have zH := H.out.drew
 generalize W6.drew = W7 at zH hHeld ⊢
 replace H := hid zH; clear zH
 apply tw 0 223 (bq 12 1) HT_ HW_ hHeld
 apply pu 1 224 (bq 12 3) HT_
 apply pu 2 225 (bq 12 7) HT_
 apply tw 3 226 (bq 12 15) HT_ HW_ hHeld
 apply pu 4 227 (bq 12 31) HT_
 apply tw 5 228 (bq 12 63) HT_ HW_ hHeld
 apply pu 6 229 (bq 12 127) HT_
 apply tw 7 230 (bq 12 255) HT_ HW_ hHeld
 apply on 8 none (bq 12 511) HT_; intro K hK
 obtain ⟨-, cC, cZ, cR, cX, cM⟩ := n5_ H
 apply shs H 2 68 4 gR (mL id m u b c z s me o a l (.slice (some ad1) n1 k1) (.slice A2 n2 k2) (.slice A3 n3 k3))
 clear H cC cZ cR cX cM
 intro W8 K_
 have H := (n5_ K_).1; clear K_
 refine hK.out _ _ ⟨H.out.cell 4 rfl, H.out.cell 3 rfl, xx_ (Kd.C_below HC1.out H.out.below) i j0 i1⟩ (fun hHeld => ?_)
 clear hK K
 apply pu 9 5 (bq 12 1023) HT_
 apply pu 10 6 (bq 12 2047) HT_
 apply on 11 none (bq 12 4095) HT_; intro K hK
 obtain ⟨-, cC, cZ, cR, cX, cM⟩ := n5_ H
 apply shs H 1 59 7 gZ (oL ((jl_ D.L i).f0) ((jl_ D.L i).f1) ((jl_ D.L i).f2))
 clear H cC cZ cR cX cM
 intro W9 K_
 have H := (n5_ K_).1; clear K_
 refine hK.out _ _ ⟨H.out.cell 4 rfl, H.out.cell 3 rfl, xx_ (Kd.C_below HC1.out H.out.below) i j0 i1⟩ (fun hHeld => ?_)
 clear hK K
 refine kk_ (jF_ HT_.out (by kernel_rfl)) ?_
 obtain ⟨-, cC, cZ, cR, cX, cM⟩ := n5_ H
 go_wp2
 refine bodyPost_ret (jJ_ rfl _ _ gR gZ _ _ _ _ (0, 0) (0, 0) _ _ rfl (H.out.at_ 2 rfl) Try.underlying68 rfl (by kernel_rfl) rfl (H.out.at_ 1 rfl) Try.underlying59 rfl (by kernel_rfl)) rfl ?_
 exact vl_ HV.out rfl kp_ H.out.below
theorem rdo_nozone (id m u b c z s me o a l : Int) (x y q : Value) (D : Mdl) (i p n : Int) (Ad : Option Addr) (kdd : Nat) (d : List Int) (f : Bool) (w : World) (h : MC w x y q D) (hi : MInv id m u b c z s me o a l D) (hd : Kd.C (Kd.int .u8) w Ad d.length d) (hdk : d.length <= kdd) (hin : ¬ (0 <= i /\ i < (D.T.length : Int))) :
  Calls Try.prog 28 #[modV id m u b c z s me o a l x y q, cmdV 7 i p n (.slice Ad d.length kdd) f] w (RsP id m u b c z s me o a l x y q D (doM id m u b c z s me o a l D (⟨7, i, p, n, d, f⟩ : S65)) w) := by
 have hsz0 := hi.2.2.2
 obtain ⟨A1, A2, A3, n1, n2, n3, k1, k2, k3, rfl, rfl, rfl, hn1, hn2, hn3, hC1, hC2, hC3, hk1, hk2, hk3, hrt, hL1, hLp, hlT, hlS, hcb⟩ := jK_ h hi
 obtain ⟨nd, hnd⟩ : ∃ n, n = d.length := ⟨_, rfl⟩
 have hb1 := hcb.1
 have hnm : nd <= 9223372036854775807 := by rw [hnd]; exact hd.2.1
 have hv : doM id m u b c z s me o a l D ⟨7, i, p, n, d, f⟩ = (D, 2, ByteArray.empty, z59) := by show (if 0 <= i /\ i < (D.T.length : Int) then _ else _) = _; rw [if_neg hin]
 have HV := hid hv
 rw [<- hn2] at hin
 rw [<- hnd] at hd hdk ⊢
 have HMC := hid h; have HD := hid hd; have HC1 := hid hC1; have HC2 := hid hC2; have HN1 := hid hn1
 clear h hi hd hrt hcb hlT hlS hsz0 hn1 hn2 hn3 hnd hk1 hk2 hk3 hC1 hC2 hC3 hv
 have h3_ : (¬ 0 <= i) \/ (0 <= i /\ ¬ i < (n2 : Int)) := by omega
 rcases h3_ with j0 | ⟨j0, j1⟩ <;> (
  have H := hid (Pk.start w)
  go_enter Try.func28, Try.ntmps28
  go_wp2_with first
   | (apply bh H 2 (mL id m u b c z s me o a l (.slice A1 n1 k1) (.slice A2 n2 k2) (.slice A3 n3 k3)) 68; clear H; intro gM W1 H; obtain ⟨-, cM⟩ := n1_ H)
   | (apply bh H 3 (xL 7 i p n (.slice Ad nd kdd) f) 65; clear H cM; intro gX W2 H; obtain ⟨-, cX, cM⟩ := n2_ H)
   | (apply bh H 4 (mL 0 0 0 0 0 0 0 0 0 0 0 nil_ nil_ nil_) 68; clear H cX cM; intro gR W3 H; obtain ⟨-, cR, cX, cM⟩ := n3_ H)
   | (apply bh H 7 (oL 0 0 0) 59; clear H cR cX cM; intro gZ W4 H; obtain ⟨-, cZ, cR, cX, cM⟩ := n4_ H)
   | (apply bh H 8 (cL 0 0 0 0 0 0 0 0 0 0 0) 23; clear H cZ cR cX cM; intro gC W5 H; obtain ⟨-, cC, cZ, cR, cX, cM⟩ := n5_ H)
   | (apply sh H 0 23 8 gC (cL id m u b c z s me o a l); clear H cC cZ cR cX cM; intro W6 K_; obtain ⟨H, cC, cZ, cR, cX, cM⟩ := n5_ K_; clear K_)
   | (apply sh H 2 68 4 gR (mL id m u b c z s me o a l (.slice A1 n1 k1) (.slice A2 n2 k2) (.slice A3 n3 k3)); clear H cC cZ cR cX cM; intro W7 K_; obtain ⟨H, cC, cZ, cR, cX, cM⟩ := n5_ K_; clear K_)
   | (apply sn H 1 59 7 gZ (oL 0 0 0))
  refine bodyPost_ret (jJ_ rfl _ _ gR gZ _ _ _ _ (0, 0) (0, 0) _ _ rfl (H.out.at_ 2 rfl) Try.underlying68 rfl (by kernel_rfl) rfl (H.out.at_ 1 rfl) Try.underlying59 rfl (by kernel_rfl)) rfl ?_
  exact vl_ HV.out rfl kp_ H.out.below)
theorem rdo_read_err (id m u b c z s me o a l : Int) (x y q : Value) (D : Mdl) (i p n : Int) (Ad : Option Addr) (kdd : Nat) (d : List Int) (f : Bool) (w : World) (h : MC w x y q D) (hi : MInv id m u b c z s me o a l D) (hd : Kd.C (Kd.int .u8) w Ad d.length d) (hdk : d.length <= kdd) (he : ¬ xo_ id m u b c z s me o a l D.L i p n = 0) :
  Calls Try.prog 28 #[modV id m u b c z s me o a l x y q, cmdV 1 i p n (.slice Ad d.length kdd) f] w (RsP id m u b c z s me o a l x y q D (doM id m u b c z s me o a l D (⟨1, i, p, n, d, f⟩ : S65)) w) := by
 have hsz0 := hi.2.2.2
 obtain ⟨A1, A2, A3, n1, n2, n3, k1, k2, k3, rfl, rfl, rfl, hn1, hn2, hn3, hC1, hC2, hC3, hk1, hk2, hk3, hrt, hL1, hLp, hlT, hlS, hcb⟩ := jK_ h hi
 obtain ⟨nd, hnd⟩ : ∃ n, n = d.length := ⟨_, rfl⟩
 have hb1 := hcb.1
 have hnm : nd <= 9223372036854775807 := by rw [hnd]; exact hd.2.1
 have hR := fun W h => rread_any id m u b c z s me o a l A1 k1 D.L i p n W h hk1 (by omega)
 obtain ⟨e0, hr⟩ : ∃ r, xo_ id m u b c z s me o a l D.L i p n = r := ⟨_, rfl⟩
 rw [hr] at hR he
 have hv : doM id m u b c z s me o a l D ⟨1, i, p, n, d, f⟩ = (D, e0, ByteArray.empty, z59) := by show (D, (vY_ id m u b c z s me o a l D i p n).1, (vY_ id m u b c z s me o a l D i p n).2, z59) = _; unfold vY_; rw [hr, if_pos he]
 have HV := hid hv
 rw [<- hn1] at hR
 rw [<- hnd] at hd hdk ⊢
 have HMC := hid h; have HD := hid hd; have HC1 := hid hC1; have HC2 := hid hC2; have HN1 := hid hn1
 have HR := hid hR
 have eb : (e0 == 0) = false := beq_eq_false_iff_ne.mpr he; have eb2 : (e0 != 0) = true := bne_iff_ne.mpr he
 clear h hi hd hrt hcb hlT hlS hsz0 hn1 hn2 hn3 hnd hk1 hk2 hk3 hC1 hC2 hC3 hv hR he hr
 have h3_ : (0 <= i /\ i < (n2 : Int)) \/ (¬ 0 <= i) \/ (0 <= i /\ ¬ i < (n2 : Int)) := by omega
 rcases h3_ with ⟨j0, j1⟩ | j0 | ⟨j0, j1⟩ <;> (
  have H := hid (Pk.start w)
  go_enter Try.func28, Try.ntmps28
  go_wp2_with first
   | (apply bh H 2 (mL id m u b c z s me o a l (.slice A1 n1 k1) (.slice A2 n2 k2) (.slice A3 n3 k3)) 68; clear H; intro gM W1 H; obtain ⟨-, cM⟩ := n1_ H)
   | (apply bh H 3 (xL 1 i p n (.slice Ad nd kdd) f) 65; clear H cM; intro gX W2 H; obtain ⟨-, cX, cM⟩ := n2_ H)
   | (apply bh H 4 (mL 0 0 0 0 0 0 0 0 0 0 0 nil_ nil_ nil_) 68; clear H cX cM; intro gR W3 H; obtain ⟨-, cR, cX, cM⟩ := n3_ H)
   | (apply bh H 7 (oL 0 0 0) 59; clear H cR cX cM; intro gZ W4 H; obtain ⟨-, cZ, cR, cX, cM⟩ := n4_ H)
   | (apply bh H 8 (cL 0 0 0 0 0 0 0 0 0 0 0) 23; clear H cZ cR cX cM; intro gC W5 H; obtain ⟨-, cC, cZ, cR, cX, cM⟩ := n5_ H)
   | (apply sh H 0 23 8 gC (cL id m u b c z s me o a l); clear H cC cZ cR cX cM; intro W6 K_; obtain ⟨H, cC, cZ, cR, cX, cM⟩ := n5_ K_; clear K_)
   | (go_at_call 63; refine (HR.out _ (Kd.C_below HC1.out H.out.below)).mono ?_; rintro e W7 ⟨rfl, hb⟩; clear cC cZ cR cX cM; replace H := pc H hb; clear hb; obtain ⟨-, cC, cZ, cR, cX, cM⟩ := n5_ H)
   | (apply sh H 2 68 4 gR (mL id m u b c z s me o a l (.slice A1 n1 k1) (.slice A2 n2 k2) (.slice A3 n3 k3)); clear H cC cZ cR cX cM; intro W8 K_; obtain ⟨H, cC, cZ, cR, cX, cM⟩ := n5_ K_; clear K_)
   | (apply sn H 1 59 7 gZ (oL 0 0 0))
  refine bodyPost_ret (jJ_ rfl _ _ gR gZ _ _ _ _ (0, 0) (0, 0) _ _ rfl (H.out.at_ 2 rfl) Try.underlying68 rfl (by kernel_rfl) rfl (H.out.at_ 1 rfl) Try.underlying59 rfl (by kernel_rfl)) rfl ?_
  exact vl_ HV.out rfl kp_ H.out.below)
theorem rdo_read_ok (id m u b c z s me o a l : Int) (x y q : Value) (D : Mdl) (i p n : Int) (Ad : Option Addr) (kdd : Nat) (d : List Int) (f : Bool) (w : World) (h : MC w x y q D) (hi : MInv id m u b c z s me o a l D) (hd : Kd.C (Kd.int .u8) w Ad d.length d) (hdk : d.length <= kdd) (he : xo_ id m u b c z s me o a l D.L i p n = 0) :
  Calls Try.prog 28 #[modV id m u b c z s me o a l x y q, cmdV 1 i p n (.slice Ad d.length kdd) f] w (RsP id m u b c z s me o a l x y q D (doM id m u b c z s me o a l D (⟨1, i, p, n, d, f⟩ : S65)) w) := by
 have hi0 := hi
 have hsz0 := hi.2.2.2
 obtain ⟨A1, A2, A3, n1, n2, n3, k1, k2, k3, rfl, rfl, rfl, hn1, hn2, hn3, hC1, hC2, hC3, hk1, hk2, hk3, hrt, hL1, hLp, hlT, hlS, hcb⟩ := jK_ h hi
 obtain ⟨nd, hnd⟩ : ∃ n, n = d.length := ⟨_, rfl⟩
 have hb1 := hcb.1
 have hnm : nd <= 9223372036854775807 := by rw [hnd]; exact hd.2.1
 have hR := fun W h => rread_any id m u b c z s me o a l A1 k1 D.L i p n W h hk1 (by omega)
 obtain ⟨e0, hr⟩ : ∃ r, xo_ id m u b c z s me o a l D.L i p n = r := ⟨_, rfl⟩
 rw [hr] at hR he
 have hs := fun a b => yL_ (i := i) hi0 a b
 subst he
 obtain ⟨i0, i1, g1, g2, g3⟩ := readZ_ok hrt hr
 have hsz := (hsz0 i.toNat (by omega)).1
 rw [Int.toNat_of_nonneg i0] at hsz
 rw [<- hn1] at hR i1
 rw [<- hn2] at hs
 rw [<- hnd] at hd hdk ⊢
 have HMC := hid h; have HD := hid hd; have HC1 := hid hC1; have HC2 := hid hC2; have HN1 := hid hn1
 have j0 := i0
 have j1 : i < (n2 : Int) := by omega
 obtain ⟨ad2, rfl⟩ := zh_ HC2.out (by omega)
 have hs := hs i0 j1
 obtain ⟨tx, htx⟩ : ∃ t, t = rdOf default D.T i := ⟨_, rfl⟩
 rw [<- htx] at hs hsz
 have m1 : p * b <= (tx.size : Int) := by rw [hsz]; exact Int.mul_le_mul_of_nonneg_right (by omega) (by omega)
 have m2 : (p + n) * b <= (tx.size : Int) := by rw [hsz]; exact Int.mul_le_mul_of_nonneg_right (by omega) (by omega)
 have m3 : 0 <= p * b := Int.mul_nonneg (by omega) (by omega)
 have m4 : p * b <= (p + n) * b := Int.mul_le_mul_of_nonneg_right (by omega) (by omega)
 have m5 : p + n <= (p + n) * b := by have := Int.mul_le_mul_of_nonneg_left (show (1 : Int) <= b by omega) (show 0 <= p + n by omega); omega
 have w1 : IntKind.i64.wrap (p * b) = p * b := by rw [kq_]; unfold wrap64; omega
 have w2 : IntKind.i64.wrap (p + n) = p + n := by rw [kq_]; unfold wrap64; omega
 have w3 : IntKind.i64.wrap ((p + n) * b) = (p + n) * b := by rw [kq_]; unfold wrap64; omega
 obtain ⟨lo, hlo⟩ : ∃ k : Int, k = p * b := ⟨_, rfl⟩
 obtain ⟨hh, hhh⟩ : ∃ k : Int, k = (p + n) * b := ⟨_, rfl⟩
 have x1 : IntKind.i64.wrap (p * b) = lo := by rw [hlo]; exact w1
 have y1 : wrap64 (p * b) = lo := by rw [hlo, <- kq_]; exact w1
 have x3 : IntKind.i64.wrap ((p + n) * b) = hh := by rw [hhh]; exact w3
 have y3 : wrap64 ((p + n) * b) = hh := by rw [hhh, <- kq_]; exact w3
 have y2 : wrap64 (p + n) = p + n := by rw [<- kq_]; exact w2
 rw [<- hlo] at m1 m3 m4
 rw [<- hhh] at m2 m4
 clear w1 w3
 have hv : doM id m u b c z s me o a l D ⟨1, i, p, n, d, f⟩ = (D, 0, tx.extract lo.toNat hh.toNat, z59) := by show (D, (vY_ id m u b c z s me o a l D i p n).1, (vY_ id m u b c z s me o a l D i p n).2, z59) = _; unfold vY_; rw [hr, if_neg (by simp), <- htx, <- hlo, <- hhh]
 obtain ⟨sx, hsx⟩ : ∃ t, tx.extract lo.toNat hh.toNat = t := ⟨_, rfl⟩
 rw [hsx] at hv
 have HV := hid hv; have HR := hid hR; have HTX := hid htx
 clear h hi hd hrt hcb hlT hlS hsz0 hn1 hn2 hn3 hnd hk1 hk2 hk3 hC1 hC2 hC3 hv hr hR htx hsz hs g1 g2 g3 m5 hlo hhh hi0
 have H := hid (Pk.start w)
 go_enter Try.func28, Try.ntmps28
 go_wp2_with first
  | (apply bh H 2 (mL id m u b c z s me o a l (.slice A1 n1 k1) (.slice (some ad2) n2 k2) (.slice A3 n3 k3)) 68; clear H; intro gM W1 H; obtain ⟨-, cM⟩ := n1_ H)
  | (apply bh H 3 (xL 1 i p n (.slice Ad nd kdd) f) 65; clear H cM; intro gX W2 H; obtain ⟨-, cX, cM⟩ := n2_ H)
  | (apply bh H 4 (mL 0 0 0 0 0 0 0 0 0 0 0 nil_ nil_ nil_) 68; clear H cX cM; intro gR W3 H; obtain ⟨-, cR, cX, cM⟩ := n3_ H)
  | (apply bh H 7 (oL 0 0 0) 59; clear H cR cX cM; intro gZ W4 H; obtain ⟨-, cZ, cR, cX, cM⟩ := n4_ H)
  | (apply bh H 8 (cL 0 0 0 0 0 0 0 0 0 0 0) 23; clear H cZ cR cX cM; intro gC W5 H; obtain ⟨-, cC, cZ, cR, cX, cM⟩ := n5_ H)
  | (apply sh H 0 23 8 gC (cL id m u b c z s me o a l); clear H cC cZ cR cX cM; intro W6 K_; obtain ⟨H, cC, cZ, cR, cX, cM⟩ := n5_ K_; clear K_)
  | (go_at_call 63; refine (HR.out _ (Kd.C_below HC1.out H.out.below)).mono ?_; rintro e W7 ⟨rfl, hb⟩; clear cC cZ cR cX cM; replace H := pc H hb; clear hb; obtain ⟨-, cC, cZ, cR, cX, cM⟩ := n5_ H)
 clear cC cZ cR cX cM
 refine jN_ (n := 26) (S := fun W => bW W gM (mL id m u b c z s me o a l (.slice A1 n1 k1) (.slice (some ad2) n2 k2) (.slice A3 n3 k3)) /\ bW W gX (xL 1 i p n (.slice Ad nd kdd) f) /\ bW W gC (cL id m u b c z s me o a l) /\ W.cell? (ad2.add i.toNat) = some (.string tx)) (ds := []) (bq 26 0) (by kernel_rfl) rfl (by kernel_rfl) ⟨H.out.drew.cell 4 rfl, H.out.drew.cell 3 rfl, H.out.drew.cell 0 rfl, (by rw [HTX.out]; exact C_el default (Kd.C_below HC2.out (H.out.drew).below) i j0 j1)⟩ (fun hHeld => ?_)
 refine jw_ xk_ xd_ (fun HT_ HW_ => ?_)
 have zH := H.out.drew
 generalize W7.drew = W8 at zH hHeld ⊢
 replace H := hid zH; clear zH
 apply tw 0 111 (bq 26 1) HT_ HW_ hHeld
 apply pu 1 112 (bq 26 3) HT_
 apply tw 2 113 (bq 26 7) HT_ HW_ hHeld
 apply pu 3 114 (bq 26 15) HT_
 apply tw 4 115 (bq 26 31) HT_ HW_ hHeld
 apply pu 5 116 (bq 26 63) HT_
 apply tw 6 117 (bq 26 127) HT_ HW_ hHeld
 apply pu 7 118 (bq 26 255) HT_
 apply tw 8 119 (bq 26 511) HT_ HW_ hHeld
 apply pu 9 120 (bq 26 1023) HT_
 apply tw 10 121 (bq 26 2047) HT_ HW_ hHeld
 apply pu 11 122 (bq 26 4095) HT_
 apply pu 12 123 (bq 26 8191) HT_
 apply tw 13 124 (bq 26 16383) HT_ HW_ hHeld
 apply pu 14 125 (bq 26 32767) HT_
 apply tw 15 126 (bq 26 65535) HT_ HW_ hHeld
 apply pu 16 127 (bq 26 131071) HT_
 apply pu 17 128 (bq 26 262143) HT_
 apply tw 18 129 (bq 26 524287) HT_ HW_ hHeld
 apply pu 19 130 (bq 26 1048575) HT_
 apply pu 20 131 (bq 26 2097151) HT_
 apply pu 21 132 (bq 26 4194303) HT_
 apply on 22 none (bq 26 8388607) HT_; intro K hK
 obtain ⟨-, cC, cZ, cR, cX, cM⟩ := n5_ H
 apply shs H 2 68 4 gR (mL id m u b c z s me o a l (.slice A1 n1 k1) (.slice (some ad2) n2 k2) (.slice A3 n3 k3))
 clear H cC cZ cR cX cM
 intro W9 K_
 have H := (n5_ K_).1; clear K_
 refine hK.out _ _ ⟨H.out.cell 4 rfl, H.out.cell 3 rfl, H.out.cell 0 rfl, (by rw [HTX.out]; exact C_el default (Kd.C_below HC2.out H.out.below) i j0 j1)⟩ (fun hHeld => ?_)
 clear hK K
 apply pu 23 5 (bq 26 16777215) HT_
 apply pu 24 6 (bq 26 33554431) HT_
 apply on 25 none (bq 26 67108863) HT_; intro K hK
 obtain ⟨-, cC, cZ, cR, cX, cM⟩ := n5_ H
 apply sns H 1 59 7 gZ (oL 0 0 0)
 clear cC cZ cR cX cM
 refine hK.out _ _ ⟨H.out.cell 4 rfl, H.out.cell 3 rfl, H.out.cell 0 rfl, (by rw [HTX.out]; exact C_el default (Kd.C_below HC2.out H.out.below) i j0 j1)⟩ (fun hHeld => ?_)
 clear hK K
 refine kk_ (jF_ HT_.out (by kernel_rfl)) ?_
 obtain ⟨-, cC, cZ, cR, cX, cM⟩ := n5_ H
 go_wp2
 refine bodyPost_ret (jJ_ rfl _ _ gR gZ _ _ _ _ (0, 0) (0, 0) _ _ rfl (H.out.at_ 2 rfl) Try.underlying68 rfl (by kernel_rfl) rfl (H.out.at_ 1 rfl) Try.underlying59 rfl (by kernel_rfl)) rfl ?_
 exact vl_ HV.out rfl kp_ H.out.below
end Go.Proofs.Ytgckcaoncjhgbaa
