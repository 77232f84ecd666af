/- judge.Low, after, High. -/
import Derived.WalkKit
import Derived.WalkSpells
import Derived.WalkLawsBesides
import Derived.Lib.Hide
import Derived.Test.YtgckcaoncjhgbaaFGw
import Derived.Test.YtgckcaoncjhgbaaFMe
import Derived.Test.YtgckcaoncjhgbaaFJa
namespace Go.Proofs.Ytgckcaoncjhgbaa
open Go.RowKit Go.Proofs.Ytgckcaoncjhgbaa.PL Go.Proofs.YtgckcaoncjhgbaaW.PrintWords Go.Proofs.YtgckcaoncjhgbaaW.PrintLast
set_option linter.unusedVariables false
set_option linter.unusedSimpArgs false
attribute [local go_sem] List.getElem?_toArray List.getElem?_cons_succ List.getElem?_cons_zero mL tL cL xL rL oL
def T_judge_after_2 : Bool × List (List Nat × List Nat) := (true, [([], []), ([], []), ([1], [1]), ([2], [2]), ([3, 2], [2, 3]), ([2], [2]), ([4, 5, 2], [2, 4, 5]), ([2, 6], [2, 6]), ([7, 2], [7]), ([8], [8]), ([9, 8], [8, 9]), ([10, 8], [8, 10]), ([8, 11], [8, 11]), ([0, 8, 0], [0]), ([12, 13, 0, 1, 2, 3, 4, 5, 6, 7, 8, 9, 10, 11, 12, 13], [12])])
theorem tab_judge_after_2 : rtab .any (opsOf Try.f89 2) = T_judge_after_2 := by kernel_rfl
theorem bits_judge_after_2 : waitsOk T_judge_after_2.2 [0, 0, 2, 6, 14, 6, 62, 126, 254, 510, 1022, 2046, 4094, 511, 16383] = true := by kernel_rfl
set_option maxHeartbeats 4000000 in
set_option maxRecDepth 100000 in
theorem low_any (id m u b c z s me o a l : Int) (x y q : Value) (D : Mdl) (z_ : Int) (w : World) (h : MC w x y q D) (hi : MInv id m u b c z s me o a l D) : Calls Try.prog 36 #[modV id m u b c z s me o a l x y q, .int .i64 z_] w fun e w' => e = .returned (.int .i64 (if 0 <= z_ /\ z_ < (D.T.length : Int) then rdOf default D.S z_ else 0)) /\ Below w.heap.size w w' := by
 have hf := fun x y q W h => msafe_any id m u b c z s me o a l x y q D z_ W h (hi.2.2.1.trans hi.2.1.symm)
 generalize (if 0 <= z_ /\ z_ < (D.T.length : Int) then rdOf default D.S z_ else 0) = V at hf ⊢
 obtain ⟨A1, A2, A3, n1, n2, n3, k1, k2, k3, rfl, rfl, rfl, hn1, hn2, hn3, hC1, hC2, hC3, hk1, hk2, hk3, hrt, hL1, hLp, hlT, hlS, hcb⟩ := mc_open h hi
 have HMC := Lib.hid h; have HF := Lib.hid hf; clear hf
 clear h hi hcb hrt hL1 hLp hlT hlS hn1 hn2 hn3 hk1 hk2 hk3 hC1 hC2 hC3
 have H := Lib.hid (Pk.start w)
 go_enter Try.func36, Try.ntmps36
 go_wp2_with first
  | (apply bh H 2 (mL id m u b c z s me o a l (.slice A1 n1 k1) (.slice A2 n2 k2) (.slice A3 n3 k3)) 53; clear H; intro gM W1 H; obtain ⟨-, cM⟩ := n1_ H)
  | (go_at_call 82; refine (HF.out _ _ _ _ (MC_below HMC.out H.out.below)).mono ?_; rintro e W2 ⟨rfl, hb⟩; clear cM; replace H := pc H hb; clear hb; obtain ⟨-, cM⟩ := n1_ H)
 go_ret
 refine ⟨?_, H.out.below⟩
 rfl
set_option maxHeartbeats 4000000 in
set_option maxRecDepth 100000 in
theorem after_a (id m u b c z s me o a l : Int) (x y q : Value) (D : Mdl) (kd i p n : Int) (Ad : Option Addr) (kdd : Nat) (d : List Int) (f : Bool) (is : Bool) (z_ : Int) (w : World) (h : MC w x y q D) (hi : MInv id m u b c z s me o a l D) (hd : Kd.C (Kd.int .u8) w Ad d.length d) (hdk : d.length <= kdd) (h1 : is = false) : Calls Try.prog 89 #[modV id m u b c z s me o a l x y q, cmdV kd i p n (.slice Ad d.length kdd) f, .bool is, .int .i64 z_] w fun e w' => (∃ x' y' q' : Value, e = .returned (.tuple #[modV id m u b c z s me o a l x' y' q', .bool false]) /\ MD w.heap.size w' x y q D x' y' q' (doM id m u b c z s me o a l D (⟨kd, i, p, n, d, f⟩ : S65)).1) /\ Below w.heap.size w w' := by
 have hdo := fun x y q W h hd => mdo_any id m u b c z s me o a l x y q D kd i p n Ad kdd d f W h hi hd hdk
 generalize doM id m u b c z s me o a l D (⟨kd, i, p, n, d, f⟩ : S65) = r at hdo ⊢
 obtain ⟨N, E, dt, zz⟩ := r
 dsimp only at hdo ⊢
 obtain ⟨A1, A2, A3, n1, n2, n3, k1, k2, k3, rfl, rfl, rfl, hn1, hn2, hn3, hC1, hC2, hC3, hk1, hk2, hk3, hrt, hL1, hLp, hlT, hlS, hcb⟩ := mc_open h hi
 have HMC := Lib.hid h; have HD := Lib.hid hd; have HDO := Lib.hid hdo; clear hdo hd
 clear h hi hcb hrt hL1 hLp hlT hlS hn1 hn2 hn3 hk1 hk2 hk3 hC1 hC2 hC3
 subst h1
 have H := Lib.hid (Pk.start w)
 go_enter Try.func89, Try.ntmps89
 go_wp2_with first
  | (apply bh H 4 (mL id m u b c z s me o a l (.slice A1 n1 k1) (.slice A2 n2 k2) (.slice A3 n3 k3)) 53; clear H; intro gM W1 H; obtain ⟨-, cM⟩ := n1_ H)
  | (apply bh H 5 (xL kd i p n (.slice Ad d.length kdd) f) 65; clear H cM; intro gX W2 H; obtain ⟨-, cX, cM⟩ := n2_ H)
  | (apply bh H 8 (mL 0 0 0 0 0 0 0 0 0 0 0 nil_ nil_ nil_) 53; clear H cX cM; intro gR W3 H; obtain ⟨-, cR, cX, cM⟩ := n3_ H)
  | (go_at_call 26; refine (HDO.out _ _ _ _ (MC_below HMC.out H.out.below) (Kd.C_below HD.out H.out.below)).mono ?_; rintro e W4 hP; obtain ⟨B51, m51, j51, B52, m52, j52, B53, m53, j53, B54, m54, j54, rfl, hM, hB, hb⟩ := RepP_open hP; clear hP; clear cR cX cM; have hl_ := H.out.below.size; replace H := Lib.hid ((H.out.called hb).row (MdF w.heap.size (.slice A1 n1 k1) (.slice A2 n2 k2) (.slice A3 n3 k3) D (.slice B51 m51 j51) (.slice B52 m52 j52) (.slice B53 m53 j53) (N)) (MD_lower hM hl_)); clear hb hM hB hl_; obtain ⟨-, cR, cX, cM⟩ := n3_ H)
  | (apply bh H 10 (mL 0 0 0 0 0 0 0 0 0 0 0 nil_ nil_ nil_) 53; clear H cR cX cM; intro gN W5 H; obtain ⟨-, cN, cR, cX, cM⟩ := n4_ H)
  | (apply bh H 11 (rL 0 nil_ 0 0 0) 61; clear H cN cR cX cM; intro gP W6 H; obtain ⟨-, cP, cN, cR, cX, cM⟩ := n5_ H)
  | (apply sh H 1 53 10 gN (mL id m u b c z s me o a l (.slice B51 m51 j51) (.slice B52 m52 j52) (.slice B53 m53 j53)); clear H cP cN cR cX cM; intro W7 K_; obtain ⟨H, cP, cN, cR, cX, cM⟩ := n5_ K_; clear K_)
  | (apply sh H 0 61 11 gP (rL E (.slice B54 m54 j54) zz.f0 zz.f1 zz.f2); clear H cP cN cR cX cM; intro W8 K_; obtain ⟨H, cP, cN, cR, cX, cM⟩ := n5_ K_; clear K_)
 clear cP cN cR cX cM
 refine start_ (n := 15) (S := fun W => bW W gX (xL kd i p n (.slice Ad d.length kdd) f) /\ bW W gN (mL id m u b c z s me o a l (.slice B51 m51 j51) (.slice B52 m52 j52) (.slice B53 m53 j53)) /\ bW W gP (rL E (.slice B54 m54 j54) zz.f0 zz.f1 zz.f2)) (ds := []) (bq 15 0) (by kernel_rfl) rfl (by kernel_rfl) ⟨H.out.drew.cell 3 rfl, H.out.drew.cell 1 rfl, H.out.drew.cell 0 rfl⟩ (fun hHeld => ?_)
 refine with_tabW tab_judge_after_2 bits_judge_after_2 (fun HT_ HW_ => ?_)
 have zH := H.out.drew
 generalize W8.drew = W9 at zH hHeld ⊢
 replace H := Lib.hid zH; clear zH
 apply tw 0 18 (bq 15 1) HT_ HW_ hHeld
 apply pu 1 19 (bq 15 3) HT_
 apply pu 2 20 (bq 15 7) HT_
 apply po 3 21 (bq 15 15) HT_
 apply po 4 22 (bq 15 31) HT_
 apply po 5 23 (bq 15 63) HT_
 apply po 6 24 (bq 15 127) HT_
 apply pu 7 25 (bq 15 255) HT_
 apply pu 8 26 (bq 15 511) HT_
 apply po 9 27 (bq 15 1023) HT_
 apply po 10 28 (bq 15 2047) HT_
 apply po 11 29 (bq 15 4095) HT_
 apply pu 12 30 (bq 15 8191) HT_
 apply on 13 none (bq 15 16383) HT_; intro K hK
 obtain ⟨-, cP, cN, cR, cX, cM⟩ := n5_ H
 apply shs H 2 53 8 gR (mL id m u b c z s me o a l (.slice B51 m51 j51) (.slice B52 m52 j52) (.slice B53 m53 j53))
 clear H cP cN cR cX cM
 intro W10 K_
 have H := (n5_ K_).1; clear K_
 refine hK.out _ _ ⟨H.out.cell 3 rfl, H.out.cell 1 rfl, H.out.cell 0 rfl⟩ (fun hHeld => ?_)
 clear hK K
 apply pu 14 9 (bq 15 32767) HT_
 refine done_ (done_of HT_.out (by kernel_rfl)) ?_
 obtain ⟨-, cP, cN, cR, cX, cM⟩ := n5_ H
 go_wp2
 refine bodyPost_ret (results_ct rfl _ _ gR 53 (mL id m u b c z s me o a l (.slice B51 m51 j51) (.slice B52 m52 j52) (.slice B53 m53 j53)).toArray (0, 0) _ rfl (H.out.at_ 2 rfl) Try.underlying53 rfl (by kernel_rfl)) rfl ?_
 exact ⟨⟨_, _, _, rfl, (H.out.fact 0 rfl)⟩, H.out.below⟩
set_option maxHeartbeats 4000000 in
set_option maxRecDepth 100000 in
theorem after_b (id m u b c z s me o a l : Int) (x y q : Value) (D : Mdl) (kd i p n : Int) (Ad : Option Addr) (kdd : Nat) (d : List Int) (f : Bool) (is : Bool) (z_ : Int) (w : World) (h : MC w x y q D) (hi : MInv id m u b c z s me o a l D) (hd : Kd.C (Kd.int .u8) w Ad d.length d) (hdk : d.length <= kdd) (h1 : is = true) (h2 : ¬ i = z_) : Calls Try.prog 89 #[modV id m u b c z s me o a l x y q, cmdV kd i p n (.slice Ad d.length kdd) f, .bool is, .int .i64 z_] w fun e w' => (∃ x' y' q' : Value, e = .returned (.tuple #[modV id m u b c z s me o a l x' y' q', .bool false]) /\ MD w.heap.size w' x y q D x' y' q' (doM id m u b c z s me o a l D (⟨kd, i, p, n, d, f⟩ : S65)).1) /\ Below w.heap.size w w' := by
 have hdo := fun x y q W h hd => mdo_any id m u b c z s me o a l x y q D kd i p n Ad kdd d f W h hi hd hdk
 generalize doM id m u b c z s me o a l D (⟨kd, i, p, n, d, f⟩ : S65) = r at hdo ⊢
 obtain ⟨N, E, dt, zz⟩ := r
 dsimp only at hdo ⊢
 obtain ⟨A1, A2, A3, n1, n2, n3, k1, k2, k3, rfl, rfl, rfl, hn1, hn2, hn3, hC1, hC2, hC3, hk1, hk2, hk3, hrt, hL1, hLp, hlT, hlS, hcb⟩ := mc_open h hi
 have HMC := Lib.hid h; have HD := Lib.hid hd; have HDO := Lib.hid hdo; clear hdo hd
 clear h hi hcb hrt hL1 hLp hlT hlS hn1 hn2 hn3 hk1 hk2 hk3 hC1 hC2 hC3
 subst h1
 (try have bh2 : (i == z_) = true := beq_iff_eq.mpr h2)
 (try have bh2 : (i == z_) = false := beq_eq_false_iff_ne.mpr h2)
 (try have dh2 : (i != z_) = false := bne_eq_false_iff_eq.mpr h2)
 (try have dh2 : (i != z_) = true := bne_iff_ne.mpr h2)
 (try have Hh2 := Lib.hid h2)
 (try clear h2)
 have H := Lib.hid (Pk.start w)
 go_enter Try.func89, Try.ntmps89
 go_wp2_with first
  | (apply bh H 4 (mL id m u b c z s me o a l (.slice A1 n1 k1) (.slice A2 n2 k2) (.slice A3 n3 k3)) 53; clear H; intro gM W1 H; obtain ⟨-, cM⟩ := n1_ H)
  | (apply bh H 5 (xL kd i p n (.slice Ad d.length kdd) f) 65; clear H cM; intro gX W2 H; obtain ⟨-, cX, cM⟩ := n2_ H)
  | (apply bh H 8 (mL 0 0 0 0 0 0 0 0 0 0 0 nil_ nil_ nil_) 53; clear H cX cM; intro gR W3 H; obtain ⟨-, cR, cX, cM⟩ := n3_ H)
  | (go_at_call 26; refine (HDO.out _ _ _ _ (MC_below HMC.out H.out.below) (Kd.C_below HD.out H.out.below)).mono ?_; rintro e W4 hP; obtain ⟨B51, m51, j51, B52, m52, j52, B53, m53, j53, B54, m54, j54, rfl, hM, hB, hb⟩ := RepP_open hP; clear hP; clear cR cX cM; have hl_ := H.out.below.size; replace H := Lib.hid ((H.out.called hb).row (MdF w.heap.size (.slice A1 n1 k1) (.slice A2 n2 k2) (.slice A3 n3 k3) D (.slice B51 m51 j51) (.slice B52 m52 j52) (.slice B53 m53 j53) (N)) (MD_lower hM hl_)); clear hb hM hB hl_; obtain ⟨-, cR, cX, cM⟩ := n3_ H)
  | (apply bh H 10 (mL 0 0 0 0 0 0 0 0 0 0 0 nil_ nil_ nil_) 53; clear H cR cX cM; intro gN W5 H; obtain ⟨-, cN, cR, cX, cM⟩ := n4_ H)
  | (apply bh H 11 (rL 0 nil_ 0 0 0) 61; clear H cN cR cX cM; intro gP W6 H; obtain ⟨-, cP, cN, cR, cX, cM⟩ := n5_ H)
  | (apply sh H 1 53 10 gN (mL id m u b c z s me o a l (.slice B51 m51 j51) (.slice B52 m52 j52) (.slice B53 m53 j53)); clear H cP cN cR cX cM; intro W7 K_; obtain ⟨H, cP, cN, cR, cX, cM⟩ := n5_ K_; clear K_)
  | (apply sh H 0 61 11 gP (rL E (.slice B54 m54 j54) zz.f0 zz.f1 zz.f2); clear H cP cN cR cX cM; intro W8 K_; obtain ⟨H, cP, cN, cR, cX, cM⟩ := n5_ K_; clear K_)
 clear cP cN cR cX cM
 refine start_ (n := 15) (S := fun W => bW W gX (xL kd i p n (.slice Ad d.length kdd) f) /\ bW W gN (mL id m u b c z s me o a l (.slice B51 m51 j51) (.slice B52 m52 j52) (.slice B53 m53 j53)) /\ bW W gP (rL E (.slice B54 m54 j54) zz.f0 zz.f1 zz.f2)) (ds := []) (bq 15 0) (by kernel_rfl) rfl (by kernel_rfl) ⟨H.out.drew.cell 3 rfl, H.out.drew.cell 1 rfl, H.out.drew.cell 0 rfl⟩ (fun hHeld => ?_)
 refine with_tabW tab_judge_after_2 bits_judge_after_2 (fun HT_ HW_ => ?_)
 have zH := H.out.drew
 generalize W8.drew = W9 at zH hHeld ⊢
 replace H := Lib.hid zH; clear zH
 apply tw 0 18 (bq 15 1) HT_ HW_ hHeld
 apply pu 1 19 (bq 15 3) HT_
 apply pu 2 20 (bq 15 7) HT_
 apply pu 3 21 (bq 15 15) HT_
 apply tw 4 22 (bq 15 31) HT_ HW_ hHeld
 apply pu 5 23 (bq 15 63) HT_
 apply pu 6 24 (bq 15 127) HT_
 apply pu 7 25 (bq 15 255) HT_
 apply pu 8 26 (bq 15 511) HT_
 apply po 9 27 (bq 15 1023) HT_
 apply po 10 28 (bq 15 2047) HT_
 apply po 11 29 (bq 15 4095) HT_
 apply pu 12 30 (bq 15 8191) HT_
 apply on 13 none (bq 15 16383) HT_; intro K hK
 obtain ⟨-, cP, cN, cR, cX, cM⟩ := n5_ H
 apply shs H 2 53 8 gR (mL id m u b c z s me o a l (.slice B51 m51 j51) (.slice B52 m52 j52) (.slice B53 m53 j53))
 clear H cP cN cR cX cM
 intro W10 K_
 have H := (n5_ K_).1; clear K_
 refine hK.out _ _ ⟨H.out.cell 3 rfl, H.out.cell 1 rfl, H.out.cell 0 rfl⟩ (fun hHeld => ?_)
 clear hK K
 apply pu 14 9 (bq 15 32767) HT_
 refine done_ (done_of HT_.out (by kernel_rfl)) ?_
 obtain ⟨-, cP, cN, cR, cX, cM⟩ := n5_ H
 go_wp2
 refine bodyPost_ret (results_ct rfl _ _ gR 53 (mL id m u b c z s me o a l (.slice B51 m51 j51) (.slice B52 m52 j52) (.slice B53 m53 j53)).toArray (0, 0) _ rfl (H.out.at_ 2 rfl) Try.underlying53 rfl (by kernel_rfl)) rfl ?_
 exact ⟨⟨_, _, _, rfl, (H.out.fact 0 rfl)⟩, H.out.below⟩
set_option maxHeartbeats 4000000 in
set_option maxRecDepth 100000 in
theorem after_c (id m u b c z s me o a l : Int) (x y q : Value) (D : Mdl) (kd i p n : Int) (Ad : Option Addr) (kdd : Nat) (d : List Int) (f : Bool) (is : Bool) (z_ : Int) (w : World) (h : MC w x y q D) (hi : MInv id m u b c z s me o a l D) (hd : Kd.C (Kd.int .u8) w Ad d.length d) (hdk : d.length <= kdd) (h1 : is = true) (h2 : i = z_) : Calls Try.prog 89 #[modV id m u b c z s me o a l x y q, cmdV kd i p n (.slice Ad d.length kdd) f, .bool is, .int .i64 z_] w fun e w' => (∃ x' y' q' : Value, e = .returned (.tuple #[modV id m u b c z s me o a l x' y' q', .bool ((doM id m u b c z s me o a l D (⟨kd, i, p, n, d, f⟩ : S65)).2.1 == 0)]) /\ MD w.heap.size w' x y q D x' y' q' (doM id m u b c z s me o a l D (⟨kd, i, p, n, d, f⟩ : S65)).1) /\ Below w.heap.size w w' := by
 have hdo := fun x y q W h hd => mdo_any id m u b c z s me o a l x y q D kd i p n Ad kdd d f W h hi hd hdk
 generalize doM id m u b c z s me o a l D (⟨kd, i, p, n, d, f⟩ : S65) = r at hdo ⊢
 obtain ⟨N, E, dt, zz⟩ := r
 dsimp only at hdo ⊢
 obtain ⟨A1, A2, A3, n1, n2, n3, k1, k2, k3, rfl, rfl, rfl, hn1, hn2, hn3, hC1, hC2, hC3, hk1, hk2, hk3, hrt, hL1, hLp, hlT, hlS, hcb⟩ := mc_open h hi
 have HMC := Lib.hid h; have HD := Lib.hid hd; have HDO := Lib.hid hdo; clear hdo hd
 clear h hi hcb hrt hL1 hLp hlT hlS hn1 hn2 hn3 hk1 hk2 hk3 hC1 hC2 hC3
 subst h1
 (try have bh2 : (i == z_) = true := beq_iff_eq.mpr h2)
 (try have bh2 : (i == z_) = false := beq_eq_false_iff_ne.mpr h2)
 (try have dh2 : (i != z_) = false := bne_eq_false_iff_eq.mpr h2)
 (try have dh2 : (i != z_) = true := bne_iff_ne.mpr h2)
 (try have Hh2 := Lib.hid h2)
 (try clear h2)
 have H := Lib.hid (Pk.start w)
 go_enter Try.func89, Try.ntmps89
 go_wp2_with first
  | (apply bh H 4 (mL id m u b c z s me o a l (.slice A1 n1 k1) (.slice A2 n2 k2) (.slice A3 n3 k3)) 53; clear H; intro gM W1 H; obtain ⟨-, cM⟩ := n1_ H)
  | (apply bh H 5 (xL kd i p n (.slice Ad d.length kdd) f) 65; clear H cM; intro gX W2 H; obtain ⟨-, cX, cM⟩ := n2_ H)
  | (apply bh H 8 (mL 0 0 0 0 0 0 0 0 0 0 0 nil_ nil_ nil_) 53; clear H cX cM; intro gR W3 H; obtain ⟨-, cR, cX, cM⟩ := n3_ H)
  | (go_at_call 26; refine (HDO.out _ _ _ _ (MC_below HMC.out H.out.below) (Kd.C_below HD.out H.out.below)).mono ?_; rintro e W4 hP; obtain ⟨B51, m51, j51, B52, m52, j52, B53, m53, j53, B54, m54, j54, rfl, hM, hB, hb⟩ := RepP_open hP; clear hP; clear cR cX cM; have hl_ := H.out.below.size; replace H := Lib.hid ((H.out.called hb).row (MdF w.heap.size (.slice A1 n1 k1) (.slice A2 n2 k2) (.slice A3 n3 k3) D (.slice B51 m51 j51) (.slice B52 m52 j52) (.slice B53 m53 j53) (N)) (MD_lower hM hl_)); clear hb hM hB hl_; obtain ⟨-, cR, cX, cM⟩ := n3_ H)
  | (apply bh H 10 (mL 0 0 0 0 0 0 0 0 0 0 0 nil_ nil_ nil_) 53; clear H cR cX cM; intro gN W5 H; obtain ⟨-, cN, cR, cX, cM⟩ := n4_ H)
  | (apply bh H 11 (rL 0 nil_ 0 0 0) 61; clear H cN cR cX cM; intro gP W6 H; obtain ⟨-, cP, cN, cR, cX, cM⟩ := n5_ H)
  | (apply sh H 1 53 10 gN (mL id m u b c z s me o a l (.slice B51 m51 j51) (.slice B52 m52 j52) (.slice B53 m53 j53)); clear H cP cN cR cX cM; intro W7 K_; obtain ⟨H, cP, cN, cR, cX, cM⟩ := n5_ K_; clear K_)
  | (apply sh H 0 61 11 gP (rL E (.slice B54 m54 j54) zz.f0 zz.f1 zz.f2); clear H cP cN cR cX cM; intro W8 K_; obtain ⟨H, cP, cN, cR, cX, cM⟩ := n5_ K_; clear K_)
 clear cP cN cR cX cM
 refine start_ (n := 15) (S := fun W => bW W gX (xL kd i p n (.slice Ad d.length kdd) f) /\ bW W gN (mL id m u b c z s me o a l (.slice B51 m51 j51) (.slice B52 m52 j52) (.slice B53 m53 j53)) /\ bW W gP (rL E (.slice B54 m54 j54) zz.f0 zz.f1 zz.f2)) (ds := []) (bq 15 0) (by kernel_rfl) rfl (by kernel_rfl) ⟨H.out.drew.cell 3 rfl, H.out.drew.cell 1 rfl, H.out.drew.cell 0 rfl⟩ (fun hHeld => ?_)
 refine with_tabW tab_judge_after_2 bits_judge_after_2 (fun HT_ HW_ => ?_)
 have zH := H.out.drew
 generalize W8.drew = W9 at zH hHeld ⊢
 replace H := Lib.hid zH; clear zH
 apply tw 0 18 (bq 15 1) HT_ HW_ hHeld
 apply pu 1 19 (bq 15 3) HT_
 apply pu 2 20 (bq 15 7) HT_
 apply pu 3 21 (bq 15 15) HT_
 apply tw 4 22 (bq 15 31) HT_ HW_ hHeld
 apply pu 5 23 (bq 15 63) HT_
 apply pu 6 24 (bq 15 127) HT_
 apply pu 7 25 (bq 15 255) HT_
 apply pu 8 26 (bq 15 511) HT_
 apply pu 9 27 (bq 15 1023) HT_
 apply tw 10 28 (bq 15 2047) HT_ HW_ hHeld
 apply pu 11 29 (bq 15 4095) HT_
 apply pu 12 30 (bq 15 8191) HT_
 apply on 13 none (bq 15 16383) HT_; intro K hK
 obtain ⟨-, cP, cN, cR, cX, cM⟩ := n5_ H
 apply shs H 2 53 8 gR (mL id m u b c z s me o a l (.slice B51 m51 j51) (.slice B52 m52 j52) (.slice B53 m53 j53))
 clear H cP cN cR cX cM
 intro W10 K_
 have H := (n5_ K_).1; clear K_
 refine hK.out _ _ ⟨H.out.cell 3 rfl, H.out.cell 1 rfl, H.out.cell 0 rfl⟩ (fun hHeld => ?_)
 clear hK K
 apply pu 14 9 (bq 15 32767) HT_
 refine done_ (done_of HT_.out (by kernel_rfl)) ?_
 obtain ⟨-, cP, cN, cR, cX, cM⟩ := n5_ H
 go_wp2
 refine bodyPost_ret (results_ct rfl _ _ gR 53 (mL id m u b c z s me o a l (.slice B51 m51 j51) (.slice B52 m52 j52) (.slice B53 m53 j53)).toArray (0, 0) _ rfl (H.out.at_ 2 rfl) Try.underlying53 rfl (by kernel_rfl)) rfl ?_
 exact ⟨⟨_, _, _, rfl, (H.out.fact 0 rfl)⟩, H.out.below⟩
theorem after_any (id m u b c z s me o a l : Int) (x y q : Value) (D : Mdl) (kd i p n : Int) (Ad : Option Addr) (kdd : Nat) (d : List Int) (f : Bool) (is : Bool) (z_ : Int) (w : World) (h : MC w x y q D) (hi : MInv id m u b c z s me o a l D) (hd : Kd.C (Kd.int .u8) w Ad d.length d) (hdk : d.length <= kdd) : Calls Try.prog 89 #[modV id m u b c z s me o a l x y q, cmdV kd i p n (.slice Ad d.length kdd) f, .bool is, .int .i64 z_] w fun e w' => (∃ x' y' q' : Value, e = .returned (.tuple #[modV id m u b c z s me o a l x' y' q', .bool (mineB is i z_ (doM id m u b c z s me o a l D (⟨kd, i, p, n, d, f⟩ : S65)).2.1)]) /\ MD w.heap.size w' x y q D x' y' q' (doM id m u b c z s me o a l D (⟨kd, i, p, n, d, f⟩ : S65)).1) /\ Below w.heap.size w w' := by
 cases h1 : is
 ·
  have e : mineB false i z_ (doM id m u b c z s me o a l D (⟨kd, i, p, n, d, f⟩ : S65)).2.1 = false := by simp [mineB]
  rw [e]; exact after_a id m u b c z s me o a l x y q D kd i p n Ad kdd d f false z_ w h hi hd hdk rfl
 ·
  by_cases h2 : i = z_
  ·
   have e : mineB true i z_ (doM id m u b c z s me o a l D (⟨kd, i, p, n, d, f⟩ : S65)).2.1 = ((doM id m u b c z s me o a l D (⟨kd, i, p, n, d, f⟩ : S65)).2.1 == 0) := by simp [mineB, h2]
   rw [e]; exact after_c id m u b c z s me o a l x y q D kd i p n Ad kdd d f true z_ w h hi hd hdk rfl h2
  ·
   have e : mineB true i z_ (doM id m u b c z s me o a l D (⟨kd, i, p, n, d, f⟩ : S65)).2.1 = false := by simp [mineB, h2]
   rw [e]; exact after_b id m u b c z s me o a l x y q D kd i p n Ad kdd d f true z_ w h hi hd hdk rfl h2
set_option maxHeartbeats 4000000 in
set_option maxRecDepth 100000 in
theorem high_any (id m u b c z s me o a l : Int) (x y q : Value) (D : Mdl) (kd i p n : Int) (Ad : Option Addr) (kdd : Nat) (d : List Int) (f : Bool) (is : Bool) (z_ : Int) (w : World) (h : MC w x y q D) (hi : MInv2 id m u b c z s me o a l D) (hd : Kd.C (Kd.int .u8) w Ad d.length d) (hdk : d.length <= kdd) : Calls Try.prog 37 #[modV id m u b c z s me o a l x y q, cmdV kd i p n (.slice Ad d.length kdd) f, .bool is, .int .i64 z_] w fun e w' => e = .returned (.int .i64 (if mineB is i z_ (doM id m u b c z s me o a l D (⟨kd, i, p, n, d, f⟩ : S65)).2.1 = true /\ kd = 0 then (zoneOf (doM id m u b c z s me o a l D (⟨kd, i, p, n, d, f⟩ : S65)).1 z_).f1 else (zoneOf D z_).f1)) /\ Below w.heap.size w w' := by
 have haf := fun x y q W h hd => after_any id m u b c z s me o a l x y q D kd i p n Ad kdd d f is z_ W h hi.1 hd hdk
 have hok := doM_ok hi (⟨kd, i, p, n, d, f⟩ : S65)
 have hz := fun x y q W h => mzone_any id m u b c z s me o a l x y q D z_ W h hi.1.2.1
 have hzn := fun x y q W h => mzone_any id m u b c z s me o a l x y q (doM id m u b c z s me o a l D (⟨kd, i, p, n, d, f⟩ : S65)).1 z_ W h hok.1.1.2.1
 generalize mineB is i z_ (doM id m u b c z s me o a l D (⟨kd, i, p, n, d, f⟩ : S65)).2.1 = mb at haf ⊢
 generalize (doM id m u b c z s me o a l D (⟨kd, i, p, n, d, f⟩ : S65)).1 = N at haf hzn ⊢
 clear hok
 replace hi := hi.1
 obtain ⟨ZD, hZD⟩ : ∃ Z, Z = zoneOf D z_ := ⟨_, rfl⟩
 obtain ⟨ZN, hZN⟩ : ∃ Z, Z = zoneOf N z_ := ⟨_, rfl⟩
 rw [<- hZD, <- hZN]
 unfold zoneOf at hZD hZN
 rw [<- hZD] at hz; rw [<- hZN] at hzn
 generalize decide (0 <= z_ /\ z_ < (D.T.length : Int)) = tD at hz
 generalize decide (0 <= z_ /\ z_ < (N.T.length : Int)) = tN at hzn
 clear hZD hZN
 obtain ⟨A1, A2, A3, n1, n2, n3, k1, k2, k3, rfl, rfl, rfl, hn1, hn2, hn3, hC1, hC2, hC3, hk1, hk2, hk3, hrt, hL1, hLp, hlT, hlS, hcb⟩ := mc_open h hi
 have HMC := Lib.hid h; have HD := Lib.hid hd; have HAF := Lib.hid haf; have HZ := Lib.hid hz; have HZN := Lib.hid hzn; clear haf hz hzn hd
 clear h hi hcb hrt hL1 hLp hlT hlS hn1 hn2 hn3 hk1 hk2 hk3 hC1 hC2 hC3
 obtain ⟨V, hV⟩ : ∃ V, V = (if mb = true /\ kd = 0 then ZN.f1 else ZD.f1) := ⟨_, rfl⟩
 rw [<- hV]
 cases mb
 ·
  have HV := Lib.hid (show V = ZD.f1 by rw [hV, if_neg (by first | exact fun h => h0 h.2 | (intro h; cases h.1))]); clear hV
  have H := Lib.hid (Pk.start w)
  go_enter Try.func37, Try.ntmps37
  go_wp2_with first
   | (apply bh H 4 (mL id m u b c z s me o a l (.slice A1 n1 k1) (.slice A2 n2 k2) (.slice A3 n3 k3)) 53; clear H; intro gM W1 H; obtain ⟨-, cM⟩ := n1_ H)
   | (apply bh H 5 (xL kd i p n (.slice Ad d.length kdd) f) 65; clear H cM; intro gX W2 H; obtain ⟨-, cX, cM⟩ := n2_ H)
   | (go_at_call 89; refine (HAF.out _ _ _ _ (MC_below HMC.out H.out.below) (Kd.C_below HD.out H.out.below)).mono ?_; rintro e W3 ⟨⟨x_, y_, q_, rfl, hM⟩, hb⟩; obtain ⟨B51, m51, j51, rfl⟩ := RowD_shape hM.1; obtain ⟨B52, m52, j52, rfl⟩ := RowD_shape hM.2.1; obtain ⟨B53, m53, j53, rfl⟩ := RowD_shape hM.2.2; clear cX cM; replace H := Lib.hid ((H.out.called hb).row (MdF w.heap.size (.slice A1 n1 k1) (.slice A2 n2 k2) (.slice A3 n3 k3) D (.slice B51 m51 j51) (.slice B52 m52 j52) (.slice B53 m53 j53) (N)) (MD_lower hM H.out.below.size)); clear hM; clear hb; obtain ⟨-, cX, cM⟩ := n2_ H)
   | (apply bh H 9 (mL 0 0 0 0 0 0 0 0 0 0 0 nil_ nil_ nil_) 53; clear H cX cM; intro gN W4 H; obtain ⟨-, cN, cX, cM⟩ := n3_ H)
   | (apply sh H 0 53 9 gN (mL id m u b c z s me o a l (.slice B51 m51 j51) (.slice B52 m52 j52) (.slice B53 m53 j53)); clear H cN cX cM; intro W5 K_; obtain ⟨H, cN, cX, cM⟩ := n3_ K_; clear K_)
   | (go_at_call 32; refine (HZ.out _ _ _ _ (MC_below HMC.out H.out.below)).mono ?_; rintro e W6 ⟨rfl, hb⟩; clear cN cX cM; replace H := pc H hb; clear hb; obtain ⟨-, cN, cX, cM⟩ := n3_ H)
   | (apply bhz H 11 (oL 0 0 0) 59; have HO_ := H; clear H cN cX cM; intro gY W7 hg H; have n_Y_G := Lib.hid (mdf_lt (HO_.out.fact 0 rfl) hg); clear HO_ hg; obtain ⟨-, cY, cN, cX, cM⟩ := n4_ H)
   | (apply shz H 0 59 11 gY (oL ZD.f0 ZD.f1 ZD.f2) (fun w_ hw_ => fcons (mdf_set hw_ (H.out.fact 0 rfl) n_Y_G.out (H.out.at_ 0 rfl)) (fnil)); clear H cY cN cX cM; intro W8 K_; obtain ⟨H, cY, cN, cX, cM⟩ := n4_ K_; clear K_)
  go_ret
  refine ⟨?_, H.out.below⟩
  rw [HV.out]; try rfl
 ·
  by_cases h0 : kd = 0
  ·
   subst h0
   have HV := Lib.hid (show V = ZN.f1 by rw [hV, if_pos ⟨rfl, rfl⟩]); clear hV
   have H := Lib.hid (Pk.start w)
   go_enter Try.func37, Try.ntmps37
   go_wp2_with first
    | (apply bh H 4 (mL id m u b c z s me o a l (.slice A1 n1 k1) (.slice A2 n2 k2) (.slice A3 n3 k3)) 53; clear H; intro gM W1 H; obtain ⟨-, cM⟩ := n1_ H)
    | (apply bh H 5 (xL 0 i p n (.slice Ad d.length kdd) f) 65; clear H cM; intro gX W2 H; obtain ⟨-, cX, cM⟩ := n2_ H)
    | (go_at_call 89; refine (HAF.out _ _ _ _ (MC_below HMC.out H.out.below) (Kd.C_below HD.out H.out.below)).mono ?_; rintro e W3 ⟨⟨x_, y_, q_, rfl, hM⟩, hb⟩; obtain ⟨B51, m51, j51, rfl⟩ := RowD_shape hM.1; obtain ⟨B52, m52, j52, rfl⟩ := RowD_shape hM.2.1; obtain ⟨B53, m53, j53, rfl⟩ := RowD_shape hM.2.2; clear cX cM; replace H := Lib.hid ((H.out.called hb).row (MdF w.heap.size (.slice A1 n1 k1) (.slice A2 n2 k2) (.slice A3 n3 k3) D (.slice B51 m51 j51) (.slice B52 m52 j52) (.slice B53 m53 j53) (N)) (MD_lower hM H.out.below.size)); clear hM; clear hb; obtain ⟨-, cX, cM⟩ := n2_ H)
    | (apply bh H 9 (mL 0 0 0 0 0 0 0 0 0 0 0 nil_ nil_ nil_) 53; clear H cX cM; intro gN W4 H; obtain ⟨-, cN, cX, cM⟩ := n3_ H)
    | (apply sh H 0 53 9 gN (mL id m u b c z s me o a l (.slice B51 m51 j51) (.slice B52 m52 j52) (.slice B53 m53 j53)); clear H cN cX cM; intro W5 K_; obtain ⟨H, cN, cX, cM⟩ := n3_ K_; clear K_)
    | (apply sh H 2 53 4 gM (mL id m u b c z s me o a l (.slice B51 m51 j51) (.slice B52 m52 j52) (.slice B53 m53 j53)); clear H cN cX cM; intro W6 K_; obtain ⟨H, cN, cX, cM⟩ := n3_ K_; clear K_)
    | (go_at_call 32; refine (HZN.out _ _ _ _ (MD_C (H.out.fact 0 rfl) (MC_below HMC.out H.out.below))).mono ?_; rintro e W7 ⟨rfl, hb⟩; clear cN cX cM; replace H := pc H hb; clear hb; obtain ⟨-, cN, cX, cM⟩ := n3_ H)
    | (apply bhz H 11 (oL 0 0 0) 59; have HO_ := H; clear H cN cX cM; intro gY W8 hg H; have n_Y_G := Lib.hid (mdf_lt (HO_.out.fact 0 rfl) hg); clear HO_ hg; obtain ⟨-, cY, cN, cX, cM⟩ := n4_ H)
    | (apply shz H 0 59 11 gY (oL ZN.f0 ZN.f1 ZN.f2) (fun w_ hw_ => fcons (mdf_set hw_ (H.out.fact 0 rfl) n_Y_G.out (H.out.at_ 0 rfl)) (fnil)); clear H cY cN cX cM; intro W9 K_; obtain ⟨H, cY, cN, cX, cM⟩ := n4_ K_; clear K_)
   go_ret
   refine ⟨?_, H.out.below⟩
   rw [HV.out]; try rfl
  ·
   have HV := Lib.hid (show V = ZD.f1 by rw [hV, if_neg (by first | exact fun h => h0 h.2 | (intro h; cases h.1))]); clear hV
   (try have bh0 : (kd == 0) = true := beq_iff_eq.mpr h0)
   (try have bh0 : (kd == 0) = false := beq_eq_false_iff_ne.mpr h0)
   (try have dh0 : (kd != 0) = false := bne_eq_false_iff_eq.mpr h0)
   (try have dh0 : (kd != 0) = true := bne_iff_ne.mpr h0)
   (try have Hh0 := Lib.hid h0)
   (try clear h0)
   have H := Lib.hid (Pk.start w)
   go_enter Try.func37, Try.ntmps37
   go_wp2_with first
    | (apply bh H 4 (mL id m u b c z s me o a l (.slice A1 n1 k1) (.slice A2 n2 k2) (.slice A3 n3 k3)) 53; clear H; intro gM W1 H; obtain ⟨-, cM⟩ := n1_ H)
    | (apply bh H 5 (xL kd i p n (.slice Ad d.length kdd) f) 65; clear H cM; intro gX W2 H; obtain ⟨-, cX, cM⟩ := n2_ H)
    | (go_at_call 89; refine (HAF.out _ _ _ _ (MC_below HMC.out H.out.below) (Kd.C_below HD.out H.out.below)).mono ?_; rintro e W3 ⟨⟨x_, y_, q_, rfl, hM⟩, hb⟩; obtain ⟨B51, m51, j51, rfl⟩ := RowD_shape hM.1; obtain ⟨B52, m52, j52, rfl⟩ := RowD_shape hM.2.1; obtain ⟨B53, m53, j53, rfl⟩ := RowD_shape hM.2.2; clear cX cM; replace H := Lib.hid ((H.out.called hb).row (MdF w.heap.size (.slice A1 n1 k1) (.slice A2 n2 k2) (.slice A3 n3 k3) D (.slice B51 m51 j51) (.slice B52 m52 j52) (.slice B53 m53 j53) (N)) (MD_lower hM H.out.below.size)); clear hM; clear hb; obtain ⟨-, cX, cM⟩ := n2_ H)
    | (apply bh H 9 (mL 0 0 0 0 0 0 0 0 0 0 0 nil_ nil_ nil_) 53; clear H cX cM; intro gN W4 H; obtain ⟨-, cN, cX, cM⟩ := n3_ H)
    | (apply sh H 0 53 9 gN (mL id m u b c z s me o a l (.slice B51 m51 j51) (.slice B52 m52 j52) (.slice B53 m53 j53)); clear H cN cX cM; intro W5 K_; obtain ⟨H, cN, cX, cM⟩ := n3_ K_; clear K_)
    | (go_at_call 32; refine (HZ.out _ _ _ _ (MC_below HMC.out H.out.below)).mono ?_; rintro e W6 ⟨rfl, hb⟩; clear cN cX cM; replace H := pc H hb; clear hb; obtain ⟨-, cN, cX, cM⟩ := n3_ H)
    | (apply bhz H 11 (oL 0 0 0) 59; have HO_ := H; clear H cN cX cM; intro gY W7 hg H; have n_Y_G := Lib.hid (mdf_lt (HO_.out.fact 0 rfl) hg); clear HO_ hg; obtain ⟨-, cY, cN, cX, cM⟩ := n4_ H)
    | (apply shz H 0 59 11 gY (oL ZD.f0 ZD.f1 ZD.f2) (fun w_ hw_ => fcons (mdf_set hw_ (H.out.fact 0 rfl) n_Y_G.out (H.out.at_ 0 rfl)) (fnil)); clear H cY cN cX cM; intro W8 K_; obtain ⟨H, cY, cN, cX, cM⟩ := n4_ K_; clear K_)
   go_ret
   refine ⟨?_, H.out.below⟩
   rw [HV.out]; try rfl
end Go.Proofs.Ytgckcaoncjhgbaa
