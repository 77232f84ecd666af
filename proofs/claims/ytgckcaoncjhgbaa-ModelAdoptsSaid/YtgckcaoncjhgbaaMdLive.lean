/- revetmentlaw18.live: the page's example. -/
import Derived.WalkKit
import Derived.WalkSpells
import Derived.WalkLawsBesides
import Derived.Lib.Hide
import Derived.Test.YtgckcaoncjhgbaaFGw
import Derived.Test.YtgckcaoncjhgbaaMdWalk
import Derived.Test.YtgckcaoncjhgbaaPLx4
namespace Go.Proofs.Ytgckcaoncjhgbaa
open Go.RowKit Go.Proofs.Ytgckcaoncjhgbaa.PL Go.Proofs.YtgckcaoncjhgbaaW.PrintWords Go.Proofs.YtgckcaoncjhgbaaW.PrintLast
set_option linter.unusedVariables false
set_option linter.unusedSimpArgs false
attribute [local go_sem] List.getElem?_toArray List.getElem?_cons_succ List.getElem?_cons_zero mL tL cL xL rL oL
-- conf_Plain.calls
theorem info_u8 : (Try.prog.info? 5).map (fun i => (i.zero, i.size, i.bytes)) = some (some (.int .u8 0), 1, 1) := by kernel_rfl
def T_revetmentlaw18_live_6 : Bool × List (List Nat × List Nat) := (true, [([], []), ([0], [0]), ([], []), ([2], [2]), ([3, 1], [3]), ([1, 4], [1, 4]), ([], []), ([6], [6]), ([7, 4], [7]), ([5, 8], [5, 8]), ([9], [9]), ([10, 8], [10]), ([11], [11]), ([12, 11], [11, 12]), ([13, 11], [11, 13]), ([11], [11]), ([15, 11], [11, 15]), ([14, 16, 11], [11, 14, 16]), ([11, 17], [11, 17]), ([18, 11, 0, 1, 2, 3, 4, 5, 6, 7, 8, 9, 10, 11, 12, 13, 14, 15, 16, 17, 18], [18])])
theorem tab_revetmentlaw18_live_6 : rtab .any (opsOf Try.f25 6) = T_revetmentlaw18_live_6 := by kernel_rfl
theorem bits_revetmentlaw18_live_6 : waitsOk T_revetmentlaw18_live_6.2 [0, 1, 0, 4, 15, 31, 0, 64, 223, 511, 1023, 2047, 4095, 8191, 16383, 4095, 36863, 131071, 262143, 524287] = true := by kernel_rfl
theorem live18_steps : ∃ D1 : Mdl, doM 7 4 2 64 24 3 1 3 2 3 7 ⟨List.replicate 3 z59, List.replicate 3 ByteArray.empty, List.replicate 3 0⟩ ⟨0, 0, 0, 0, ((List.replicate 64 (0 : Int)).set 5 9), false⟩ = (D1, 0, ByteArray.empty, z59) ∧ MInv2 7 4 2 64 24 3 1 3 2 3 7 D1 ∧ doM 7 4 2 64 24 3 1 3 2 3 7 D1 ⟨1, 0, 0, 1, [], false⟩ = (D1, 0, strOfNums ((List.replicate 64 (0 : Int)).set 5 9), z59) := by
  have h0 : MInv2 7 4 2 64 24 3 1 3 2 3 7 ⟨List.replicate 3 z59, List.replicate 3 ByteArray.empty, List.replicate 3 0⟩ := minv_new 7 4 2 64 24 3 1 3 2 3 7 (by decide)
  have h1 := doM_ok h0 ⟨0, 0, 0, 0, ((List.replicate 64 (0 : Int)).set 5 9), false⟩
  have e1 : (doM 7 4 2 64 24 3 1 3 2 3 7 ⟨List.replicate 3 z59, List.replicate 3 ByteArray.empty, List.replicate 3 0⟩ ⟨0, 0, 0, 0, ((List.replicate 64 (0 : Int)).set 5 9), false⟩).2 = (0, ByteArray.empty, z59) := by kernel_rfl
  refine ⟨_, Prod.ext rfl e1, h1.1, ?_⟩
  refine Prod.ext rfl (Prod.ext ?_ (Prod.ext ?_ rfl))
  · kernel_rfl
  · kernel_rfl
theorem live_b : bytesOf (strOfNums ((List.replicate 64 (0 : Int)).set 5 9)) = ((List.replicate 64 (0 : Int)).set 5 9) := by decide +kernel
theorem live_bs : ((List.replicate 64 (0 : Int)).set 5 9).length = 64 := by simp
set_option maxHeartbeats 4000000 in
set_option maxRecDepth 100000 in
theorem live18_any (w : World) : Calls Try.prog 25 #[] w fun e w' => e = .returned (.bool true) ∧ Below w.heap.size w w' := by
  have H := Lib.hid (Pk.start w)
  obtain ⟨D1, s1, hI1, s2⟩ := live18_steps
  have hI0 := minv_new 7 4 2 64 24 3 1 3 2 3 7 (by decide)
  obtain ⟨bl, hbl⟩ : ∃ bl, bl = ((List.replicate 64 (0 : Int)).set 5 9) := ⟨_, rfl⟩
  have hlb := live_b
  have hln := live_bs
  rw [← hbl] at s1 s2 hlb hln
  obtain ⟨sx, hsx⟩ : ∃ sx, sx = strOfNums bl := ⟨_, rfl⟩
  rw [← hsx] at s2 hlb
  have hnew := fun W => mnew_ok 7 4 2 64 24 3 1 3 2 3 7 W (by decide)
  have hpl := fun W => conf_Plain.calls 7 4 2 64 24 3 1 3 2 3 7 W rfl
  have hd1 := fun (x y q : Value) (A : Option Addr) (k : Nat) (W : World) (h : MC W x y q ⟨List.replicate 3 z59, List.replicate 3 ByteArray.empty, List.replicate 3 0⟩) (hd : Kd.C (Kd.int .u8) W A bl.length bl) (hk : bl.length ≤ k) => mdo_any 7 4 2 64 24 3 1 3 2 3 7 x y q ⟨List.replicate 3 z59, List.replicate 3 ByteArray.empty, List.replicate 3 0⟩ 0 0 0 0 A k bl false W h hI0.1 hd hk
  rw [s1] at hd1
  dsimp only at hd1
  have hd2 := fun (x y q : Value) (W : World) (h : MC W x y q D1) => mdo_any 7 4 2 64 24 3 1 3 2 3 7 x y q D1 1 0 0 1 none 0 [] false W h hI1.1 (Kd.C_nil _ W) (Nat.le_refl 0)
  rw [s2] at hd2
  dsimp only at hd2
  rw [hlb] at hd2
  rw [hln] at hd1
  have hL := hln
  have HN := Lib.hid hnew; have HP := Lib.hid hpl; have HA := Lib.hid hd1; have HB := Lib.hid hd2; have HL := Lib.hid hln; have HS := Lib.hid hsx; have HBL := Lib.hid hbl; clear hnew hpl hd1 hd2 s1 s2 hI0 hI1 hlb hln hL hsx hbl
  go_enter Try.func25, Try.ntmps25
  go_wp2_with first
    | (go_at_call 55; refine (HP.out _).mono ?_; rintro e W1 ⟨rfl, hb⟩; replace H := pc H hb; clear hb)
    | (go_at_call 22; refine (HN.out _).mono ?_; rintro e W2 ⟨x_, y_, q_, rfl, hM, hb⟩; obtain ⟨B01, m01, j01, B02, m02, j02, B03, m03, j03, rfl, rfl, rfl⟩ := MR_shape hM; replace H := Lib.hid ((H.out.called hb).row (MrF w.heap.size (.slice B01 m01 j01) (.slice B02 m02 j02) (.slice B03 m03 j03) (⟨List.replicate 3 z59, List.replicate 3 ByteArray.empty, List.replicate 3 0⟩)) (MR_lower hM H.out.below.size)); clear hM; clear hb)
    | (apply bh H 1 (mL 0 0 0 0 0 0 0 0 0 0 0 nil_ nil_ nil_) 53; clear H; intro gM W3 H; obtain ⟨-, cM⟩ := n1_ H)
    | (apply sh H 0 53 1 gM (mL 7 4 2 64 24 3 1 3 2 3 7 (.slice B01 m01 j01) (.slice B02 m02 j02) (.slice B03 m03 j03)); clear H cM; intro W4 K_; obtain ⟨H, cM⟩ := n1_ K_; clear K_)
    | ((with_reducible refine gate_dst (N := 12) rfl ?_); refine Kd.R_make (Kd.int .u8) w.heap.size 5 rfl (N := 12) rfl 57 _ _ rfl (64 : Int) rfl rfl Try.underlying57 (.int .u8 0) 1 info_u8 rfl (by decide) (by omega) (0 : Int) (ok := fun _ => True) (okp := fun _ => True) (rfl) (fun _ hk => hk) trivial (by decide) (by decide) H.out.below H.out.below.size ?_; intro v_ W5 hR hB_ hgr_ hnew_; obtain ⟨gB, cB, rfl, -⟩ := Kd.R_form hR (by decide); simp only [List.length_replicate, show (64 : Int).toNat = 64 from rfl] at hR ⊢; clear cM; have hb := grown_below hgr_; replace H := Lib.hid ((H.out.called hb).row (RowF (Kd.int .u8) 5 w.heap.size (.slice (some ⟨gB, 0, none⟩) 64 cB) (List.replicate 64 (0 : Int))) hR); clear hb hR hB_ hgr_ hnew_; obtain ⟨-, cM⟩ := n1_ H)
    | (have hR_ : Kd.R (Kd.int .u8) 5 W5 w.heap.size (fun _ => True) (.slice (some ⟨gB, 0, none⟩) 64 cB) (List.replicate 64 (0 : Int)) := H.out.fact 0 rfl; obtain ⟨ce_, fe_⟩ := elem_atN hR_ 5 (by decide); clear hR_; apply sv 5 14 gB 5 [.int .u8 9]; intro W6 hw; clear ce_ fe_; clear cM; replace H := Lib.hid (H.out.putE 0 rfl hw rfl rfl); clear hw; rw [← HBL.out] at H; obtain ⟨-, cM⟩ := n1_ H)
    | (go_at_call 26; refine (HA.out _ _ _ _ _ _ (MC_R (H.out.fact 1 rfl)) (by have h := (Kd.R_reads' (H.out.fact 0 rfl)).2.2; rw [HL.out] at h; exact h) (by have h := (Kd.R_reads' (H.out.fact 0 rfl)).2.1; first | exact h | (rw [HL.out] at h; exact h))).mono ?_; rintro e W7 hP; obtain ⟨B11, m11, j11, B12, m12, j12, B13, m13, j13, B14, m14, j14, rfl, hM, hB, hb⟩ := RepP_open hP; clear hP; clear cM; have hb0_ := H.out.below.size; replace H := Lib.hid ((H.out.called hb).row (MrF w.heap.size (.slice B11 m11 j11) (.slice B12 m12 j12) (.slice B13 m13 j13) (D1)) (MD_R hM ((H.out.called hb).fact 1 rfl) H.out.below.size)); replace H := Lib.hid ((H.out).row (BytF (.slice B14 m14 j14) []) (hB)); clear hb0_; clear hM hB; clear hb; obtain ⟨-, cM⟩ := n1_ H)
    | (apply bh H 4 (rL 0 nil_ 0 0 0) 61; clear H cM; intro gX W8 H; obtain ⟨-, cX, cM⟩ := n2_ H)
    | (apply sh H 1 53 1 gM (mL 7 4 2 64 24 3 1 3 2 3 7 (.slice B11 m11 j11) (.slice B12 m12 j12) (.slice B13 m13 j13)); clear H cX cM; intro W9 K_; obtain ⟨H, cX, cM⟩ := n2_ K_; clear K_)
    | (apply sh H 0 61 4 gX (rL 0 (.slice B14 m14 j14) 0 0 0); clear H cX cM; intro W10 K_; obtain ⟨H, cX, cM⟩ := n2_ K_; clear K_)
    | (go_at_call 26; refine (HB.out _ _ _ _ (MC_R (H.out.fact 1 rfl))).mono ?_; rintro e W11 hP; obtain ⟨B21, m21, j21, B22, m22, j22, B23, m23, j23, B24, m24, j24, rfl, hM, hB, hb⟩ := RepP_open hP; clear hP; clear cX cM; have hb0_ := H.out.below.size; replace H := Lib.hid ((H.out.called hb).row (MrF w.heap.size (.slice B21 m21 j21) (.slice B22 m22 j22) (.slice B23 m23 j23) (D1)) (MD_R hM ((H.out.called hb).fact 1 rfl) H.out.below.size)); replace H := Lib.hid ((H.out).row (BytF (.slice B24 m24 j24) bl) (hB)); clear hb0_; clear hM hB; clear hb; obtain ⟨-, cX, cM⟩ := n2_ H)
    | (apply bh H 5 (mL 0 0 0 0 0 0 0 0 0 0 0 nil_ nil_ nil_) 53; clear H cX cM; intro gN W12 H; obtain ⟨-, cN, cX, cM⟩ := n3_ H)
    | (apply bh H 6 (rL 0 nil_ 0 0 0) 61; clear H cN cX cM; intro gY W13 H; obtain ⟨-, cY, cN, cX, cM⟩ := n4_ H)
    | (apply sh H 1 53 5 gN (mL 7 4 2 64 24 3 1 3 2 3 7 (.slice B21 m21 j21) (.slice B22 m22 j22) (.slice B23 m23 j23)); clear H cY cN cX cM; intro W14 K_; obtain ⟨H, cY, cN, cX, cM⟩ := n4_ K_; clear K_)
    | (apply sh H 0 61 6 gY (rL 0 (.slice B24 m24 j24) 0 0 0); clear H cY cN cX cM; intro W15 K_; obtain ⟨H, cY, cN, cX, cM⟩ := n4_ K_; clear K_)
  have wz : wrap64 0 = 0 := by unfold wrap64; omega
  go_wp2
  clear cY cN cX cM
  refine start_ (n := 20) (S := fun W => (∀ j_, W.cell? ⟨gX, j_, none⟩ = ((rL 0 (.slice B14 m14 j14) 0 0 0).toArray : Array Value)[j_]?) ∧ (∀ j_, W.cell? ⟨gY, j_, none⟩ = ((rL 0 (.slice B24 m24 j24) 0 0 0).toArray : Array Value)[j_]?) ∧ (convert 57 9 (.slice B24 m24 j24)).run Try.prog W = .ok (.string sx) W ∧ (convert 57 9 (.slice (some ⟨gB, 0, none⟩) 64 cB)).run Try.prog W = .ok (.string sx) W) (ds := []) (bq 20 0) (by kernel_rfl) rfl (by kernel_rfl) ⟨H.out.drew.cell 2 rfl, H.out.drew.cell 0 rfl, (by rw [HS.out]; exact BR_string ((H.out.drew).fact 0 rfl)), (by rw [HS.out]; exact Kd.C_string Try.underlying57 Try.underlying5 Try.underlying9 (by have h := (Kd.R_reads' ((H.out.drew).fact 4 rfl)).2.2; rw [HL.out] at h; exact h))⟩ (fun hHeld => ?_)
  refine with_tabW tab_revetmentlaw18_live_6 bits_revetmentlaw18_live_6 (fun HT_ HW_ => ?_)
  have zH := H.out.drew
  generalize W15.drew = W16 at zH hHeld ⊢
  replace H := Lib.hid zH; clear zH
  apply pu 0 28 (bq 20 1) HT_
  apply pu 2 30 (bq 20 5) HT_
  apply tw 3 31 (bq 20 13) HT_ HW_ hHeld
  apply pu 6 34 (bq 20 77) HT_
  apply tw 7 35 (bq 20 205) HT_ HW_ hHeld
  apply on 1 (some 29) (bq 20 207) HT_; intro K hK
  refine gs Try.func23 #[.int .i64 0] ?_
  refine (code18_any _ _).mono ?_
  rintro e W17 ⟨rfl, hb⟩
  refine ⟨_, rfl, ?_⟩
  replace H := pc H hb
  clear hb
  refine hK.out _ _ ⟨H.out.cell 2 rfl, H.out.cell 0 rfl, (by rw [HS.out]; exact BR_string (H.out.fact 0 rfl)), (by rw [HS.out]; exact Kd.C_string Try.underlying57 Try.underlying5 Try.underlying9 (by have h := (Kd.R_reads' (H.out.fact 4 rfl)).2.2; rw [HL.out] at h; exact h))⟩ (fun hHeld => ?_)
  clear hK K
  apply nm 0
  apply on 4 (some 32) (bq 20 223) HT_; intro K hK
  refine gs Try.func23 #[.int .i64 0] ?_
  refine (code18_any _ _).mono ?_
  rintro e W18 ⟨rfl, hb⟩
  refine ⟨_, rfl, ?_⟩
  replace H := pc H hb
  clear hb
  refine hK.out _ _ ⟨H.out.cell 2 rfl, H.out.cell 0 rfl, (by rw [HS.out]; exact BR_string (H.out.fact 0 rfl)), (by rw [HS.out]; exact Kd.C_string Try.underlying57 Try.underlying5 Try.underlying9 (by have h := (Kd.R_reads' (H.out.fact 4 rfl)).2.2; rw [HL.out] at h; exact h))⟩ (fun hHeld => ?_)
  clear hK K
  apply nm 0
  apply pu 5 33 (bq 20 255) HT_
  apply on 8 (some 36) (bq 20 511) HT_; intro K hK
  refine gs Try.func23 #[.int .i64 0] ?_
  refine (code18_any _ _).mono ?_
  rintro e W19 ⟨rfl, hb⟩
  refine ⟨_, rfl, ?_⟩
  replace H := pc H hb
  clear hb
  refine hK.out _ _ ⟨H.out.cell 2 rfl, H.out.cell 0 rfl, (by rw [HS.out]; exact BR_string (H.out.fact 0 rfl)), (by rw [HS.out]; exact Kd.C_string Try.underlying57 Try.underlying5 Try.underlying9 (by have h := (Kd.R_reads' (H.out.fact 4 rfl)).2.2; rw [HL.out] at h; exact h))⟩ (fun hHeld => ?_)
  clear hK K
  apply nm 0
  apply pu 9 37 (bq 20 1023) HT_
  apply pu 10 38 (bq 20 2047) HT_
  apply pu 11 39 (bq 20 4095) HT_
  apply pu 12 40 (bq 20 8191) HT_
  apply tw 13 41 (bq 20 16383) HT_ HW_ hHeld
  apply tw 14 42 (bq 20 32767) HT_ HW_ hHeld
  apply pu 15 43 (bq 20 65535) HT_
  apply tw 16 44 (bq 20 131071) HT_ HW_ hHeld
  apply pu 17 45 (bq 20 262143) HT_
  apply pu 18 46 (bq 20 524287) HT_
  apply pu 19 0 (bq 20 1048575) HT_
  refine done_ (done_of HT_.out (by kernel_rfl)) ?_
  obtain ⟨-, cY, cN, cX, cM⟩ := n4_ H
  go_wp2
  go_ret
  exact ⟨rfl, H.out.below⟩
end Go.Proofs.Ytgckcaoncjhgbaa
