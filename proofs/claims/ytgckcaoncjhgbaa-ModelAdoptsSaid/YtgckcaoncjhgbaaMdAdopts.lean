/- The walk of revetmentlaw18.ModelAdopts. -/
import Derived.WalkKit
import Derived.WalkSpells
import Derived.WalkLawsBesides
import Derived.Lib.Hide
import Derived.Test.YtgckcaoncjhgbaaFGw
import Derived.Deep.CutBlock
import Derived.Test.YtgckcaoncjhgbaaMdLive
import Derived.Test.YtgckcaoncjhgbaaMdSame
import Derived.Test.YtgckcaoncjhgbaaRmDo
import Derived.Test.YtgckcaoncjhgbaaRmNew
import Derived.Test.YtgckcaoncjhgbaaRmAdopt
import Derived.Test.YtgckcaoncjhgbaaMdRsP
namespace Go.Proofs.Ytgckcaoncjhgbaa
open Go.RowKit Go.Proofs.Ytgckcaoncjhgbaa.PL Go.Proofs.YtgckcaoncjhgbaaW.PrintWords Go.Proofs.YtgckcaoncjhgbaaW.PrintLast
set_option linter.unusedVariables false
set_option linter.unusedSimpArgs false
attribute [local go_sem] List.getElem?_toArray List.getElem?_cons_succ List.getElem?_cons_zero mL tL cL xL rL oL
attribute [local go_sem high] eqZ_any
/-- The model behind commands. -/
def runM (id m u b c z s me o a l : Int) (D : Mdl) (xs : List S65) : Mdl := xs.foldl (fun D x => (doM id m u b c z s me o a l D x).1) D
theorem run_step (id m u b c z s me o a l : Int) (D0 : Mdl) (xs : List S65) (j : Nat) (D : Mdl) (h : D = runM id m u b c z s me o a l D0 (xs.take j)) (hj : j < xs.length) : (doM id m u b c z s me o a l D (rd_T65 xs (j : Int))).1 = runM id m u b c z s me o a l D0 (xs.take (j + 1)) := by
  have e : rd_T65 xs (j : Int) = xs[j] := by simp [rd_T65, List.getD_eq_getElem?_getD, List.getElem?_eq_getElem hj]
  rw [e, List.take_succ_eq_append_getElem hj, h]
  unfold runM
  rw [List.foldl_append]
  rfl
theorem run_inv (id m u b c z s me o a l : Int) (hk : checkC id m u b c z s me o a l = 0) (xs : List S65) : MInv2 id m u b c z s me o a l (runM id m u b c z s me o a l ⟨List.replicate z.toNat z59, List.replicate z.toNat ByteArray.empty, List.replicate z.toNat 0⟩ xs) := by
  have key : ∀ (xs : List S65) (D : Mdl), MInv2 id m u b c z s me o a l D → MInv2 id m u b c z s me o a l (runM id m u b c z s me o a l D xs) := by
    intro xs
    induction xs with
    | nil => exact fun D h => h
    | cons x l ih => exact fun D h => ih _ (doM_ok h x).1
  exact key xs _ (minv_new id m u b c z s me o a l hk)
def T_revetmentlaw18_ModelAdopts_8 : Bool × List (List Nat × List Nat) := (true, [([], []), ([], []), ([], []), ([1, 2], [1, 2]), ([3], [3]), ([0, 4], [0, 4]), ([5], [5]), ([6], [6]), ([6], [6]), ([], []), ([], []), ([9, 7, 5, 0, 1, 2, 3, 4, 5, 6, 7, 9, 10], [7, 9]), ([10, 8, 11, 0, 1, 2, 3, 4, 5, 6, 7, 8, 9, 10, 11], [8, 10])])
theorem tab_revetmentlaw18_ModelAdopts_8 : rtab .any (opsOf Try.f6 8) = T_revetmentlaw18_ModelAdopts_8 := by kernel_rfl
theorem bits_revetmentlaw18_ModelAdopts_8 : waitsOk T_revetmentlaw18_ModelAdopts_8.2 [0, 0, 0, 6, 14, 31, 63, 127, 127, 0, 0, 1791, 4095] = true := by kernel_rfl
def T_revetmentlaw18_ModelAdopts_9 : Bool × List (List Nat × List Nat) := (true, [([], []), ([], []), ([], []), ([1, 2], [1, 2]), ([3], [3]), ([0, 4], [0, 4]), ([5], [5]), ([6], [6]), ([6], [6]), ([6], [6]), ([6], [6]), ([], []), ([], []), ([11, 7, 5, 0, 1, 2, 3, 4, 5, 6, 7, 11, 12], [7, 11]), ([8, 13, 0, 1, 2, 3, 4, 5, 6, 7, 8, 11, 12, 13], [8]), ([9, 14, 0, 1, 2, 3, 4, 5, 6, 7, 8, 9, 11, 12, 13, 14], [9]), ([12, 10, 15, 0, 1, 2, 3, 4, 5, 6, 7, 8, 9, 10, 11, 12, 13, 14, 15], [10, 12])])
theorem tab_revetmentlaw18_ModelAdopts_9 : rtab .any (opsOf Try.f6 9) = T_revetmentlaw18_ModelAdopts_9 := by kernel_rfl
theorem bits_revetmentlaw18_ModelAdopts_9 : waitsOk T_revetmentlaw18_ModelAdopts_9.2 [0, 0, 0, 6, 14, 31, 63, 127, 127, 127, 127, 0, 0, 6399, 14847, 31743, 65535] = true := by kernel_rfl
def T_revetmentlaw18_ModelAdopts_10 : Bool × List (List Nat × List Nat) := (true, [([], []), ([], []), ([0, 0], [0]), ([1, 2, 0, 1, 2], [1])])
theorem tab_revetmentlaw18_ModelAdopts_10 : rtab .any (opsOf Try.f6 10) = T_revetmentlaw18_ModelAdopts_10 := by kernel_rfl
theorem bits_revetmentlaw18_ModelAdopts_10 : waitsOk T_revetmentlaw18_ModelAdopts_10.2 [0, 0, 1, 7] = true := by kernel_rfl
/-- What stands behind n statements. -/
def rightsA : Nat → Code → Code
  | 0, c => c
  | n + 1, .seq _ b => rightsA n b
  | _ + 1, c => c
noncomputable def adR : Code := rightsA 5 (Try.f6.body.getD .skip)
/-- What stands behind the loop, where both models are D. -/
def AdE (id m u b c z s me o a l : Int) (w : World) (zi st wp gen : Int) (Ab : Option Addr) (cb : Nat) (db : List Int) (D : Mdl) : Prop := ∀ (v : Nat → Value) (gC gX gM gQ : Nat) (wc : World) (B1 : Option Addr) (m1 : Nat) (j1 : Nat) (B2 : Option Addr) (m2 : Nat) (j2 : Nat) (B3 : Option Addr) (m3 : Nat) (j3 : Nat) (Bd1 : Option Addr) (md1 : Nat) (jd1 : Nat) (Bd2 : Option Addr) (md2 : Nat) (jd2 : Nat) (Bd3 : Option Addr) (md3 : Nat) (jd3 : Nat), Hid (Pk w wc [⟨gQ, 68, (mL id m u b c z s me o a l (.slice Bd1 md1 jd1) (.slice Bd2 md2 jd2) (.slice Bd3 md3 jd3)).toArray⟩, ⟨gM, 53, (mL id m u b c z s me o a l (.slice B1 m1 j1) (.slice B2 m2 j2) (.slice B3 m3 j3)).toArray⟩, ⟨gX, 59, (oL st wp gen).toArray⟩, ⟨gC, 23, (cL id m u b c z s me o a l).toArray⟩] [MrF w.heap.size (.slice Bd1 md1 jd1) (.slice Bd2 md2 jd2) (.slice Bd3 md3 jd3) (D), MrF w.heap.size (.slice B1 m1 j1) (.slice B2 m2 j2) (.slice B3 m3 j3) (D)]) → Code.wp Try.prog adR (bodyPost Try.prog Try.f6 fun e w' => e = .returned (.bool true) ∧ Below w.heap.size w w') ⟨#[v 0, v 1, .int .i64 zi, v 3, .slice Ab db.length cb, v 5, v 6, v 7, .pointer (some ⟨gX, 0, none⟩), v 9, v 10, .pointer (some ⟨gM, 0, none⟩), v 12, .pointer (some ⟨gQ, 0, none⟩), v 14, v 15, v 16, v 17, v 18, v 19, v 20, v 21, v 22, v 23, v 24, v 25, v 26, v 27, v 28, v 29, v 30, v 31, v 32, v 33, v 34, v 35, v 36, v 37, v 38, v 39, v 40, v 41, v 42, v 43, v 44, v 45, v 46, v 47, v 48, v 49, v 50, v 51, v 52, v 53, v 54, v 55, v 56, v 57, v 58, v 59, v 60, v 61, v 62, v 63, v 64, v 65, v 66, v 67, v 68, v 69, v 70, v 71, v 72, v 73, v 74, v 75, v 76, v 77, v 78, v 79, v 80, v 81, v 82, v 83, v 84, v 85, v 86, v 87, v 88, v 89, v 90, v 91, v 92, v 93, v 94, v 95, v 96, v 97, v 98, v 99, v 100, v 101, v 102, v 103, v 104, v 105, v 106, v 107, v 108, v 109, v 110, v 111, v 112, v 113, v 114, v 115, v 116, v 117, v 118], []⟩ wc
set_option maxHeartbeats 16000000 in
set_option maxRecDepth 100000 in
theorem ad_ok (id m u b c z s me o a l : Int) (w : World) (zi st wp gen : Int) (Ab : Option Addr) (cb : Nat) (db : List Int) (D : Mdl) (hi : MInv id m u b c z s me o a l D) (hbr : Kd.C (Kd.int .u8) w Ab db.length db) (hbc : db.length ≤ cb) (he : (adoptM id m u b c z s me o a l D zi ⟨st, wp, gen⟩ db).2 = 0) : AdE id m u b c z s me o a l w zi st wp gen Ab cb db D := by
  unfold AdE
  intro v gC gX gM gQ wc B1 m1 j1 B2 m2 j2 B3 m3 j3 Bd1 md1 jd1 Bd2 md2 jd2 Bd3 md3 jd3 H
  obtain ⟨nb, hnb⟩ : ∃ n, n = db.length := ⟨_, rfl⟩
  have hnbm : nb ≤ 9223372036854775807 := by rw [hnb]; exact hbr.2.1
  have HIM := Lib.hid hi; have HBC := Lib.hid hbc
  have hma := fun W h hd => madopt_ok id m u b c z s me o a l (.slice B1 m1 j1) (.slice B2 m2 j2) (.slice B3 m3 j3) D zi ⟨st, wp, gen⟩ Ab cb db W h HIM.out hd HBC.out he
  have hra := fun W h hd => radopt_ok id m u b c z s me o a l (.slice Bd1 md1 jd1) (.slice Bd2 md2 jd2) (.slice Bd3 md3 jd3) D zi ⟨st, wp, gen⟩ Ab cb db W h HIM.out hd HBC.out he
  have hin := adopt_inv HIM.out he
  generalize (adoptM id m u b c z s me o a l D zi ⟨st, wp, gen⟩ db).1 = N at hma hra hin
  have HIN := Lib.hid hin; clear hin
  have HS2 := Lib.hid (fun W h h2 => same18_any id m u b c z s me o a l (.slice B1 m1 j1) (.slice B2 m2 j2) (.slice B3 m3 j3) (.slice Bd1 md1 jd1) (.slice Bd2 md2 jd2) (.slice Bd3 md3 jd3) D W h h2 HIM.out)
  rw [← hnb] at hma hra hbr ⊢
  have HMA := Lib.hid hma; have HRA := Lib.hid hra; have HBR := Lib.hid hbr; clear hma hra he hnb hbr hbc hi
  conv => arg 2; whnf
  obtain ⟨-, cQ, cM, cX, cC⟩ := n4_ H
  have tok1 : True := trivial
  have tok2 : True := trivial
  go_wp2_with first
    | (go_at_call 30; refine (HMA.out _ (MC_R (H.out.fact 1 rfl)) (Kd.C_below HBR.out H.out.below)).mono ?_; rintro e W41 ⟨⟨x_, y_, q_, rfl, hM⟩, hb⟩; obtain ⟨B81, m81, j81, B82, m82, j82, B83, m83, j83, rfl, rfl, rfl⟩ := MR_shape hM; clear cQ cM cX cC; replace H := Lib.hid ((H.out.called hb).row (MrF w.heap.size (.slice B81 m81 j81) (.slice B82 m82 j82) (.slice B83 m83 j83) (N)) (MR_lower hM H.out.below.size)); clear hM; clear hb; obtain ⟨-, cQ, cM, cX, cC⟩ := n4_ H)
    | (apply bh H 21 (mL 0 0 0 0 0 0 0 0 0 0 0 nil_ nil_ nil_) 53; clear H cQ cM cX cC; intro gN W42 H; obtain ⟨-, cN, cQ, cM, cX, cC⟩ := n5_ H)
    | (apply sh H 0 53 21 gN (mL id m u b c z s me o a l (.slice B81 m81 j81) (.slice B82 m82 j82) (.slice B83 m83 j83)); clear H cN cQ cM cX cC; intro W43 K_; obtain ⟨H, cN, cQ, cM, cX, cC⟩ := n5_ K_; clear K_)
    | (go_at_call 31; refine (HRA.out _ (MC_R (H.out.fact 1 rfl)) (Kd.C_below HBR.out H.out.below)).mono ?_; rintro e W44 ⟨⟨x_, y_, q_, rfl, hM⟩, hb⟩; obtain ⟨B91, m91, j91, B92, m92, j92, B93, m93, j93, rfl, rfl, rfl⟩ := MR_shape hM; clear cN cQ cM cX cC; replace H := Lib.hid ((H.out.called hb).row (MrF w.heap.size (.slice B91 m91 j91) (.slice B92 m92 j92) (.slice B93 m93 j93) (N)) (MR_lower hM H.out.below.size)); clear hM; clear hb; obtain ⟨-, cN, cQ, cM, cX, cC⟩ := n5_ H)
    | (apply bh H 23 (mL 0 0 0 0 0 0 0 0 0 0 0 nil_ nil_ nil_) 68; clear H cN cQ cM cX cC; intro gS W45 H; obtain ⟨-, cS, cN, cQ, cM, cX, cC⟩ := n6_ H)
    | (apply sh H 0 68 23 gS (mL id m u b c z s me o a l (.slice B91 m91 j91) (.slice B92 m92 j92) (.slice B93 m93 j93)); clear H cS cN cQ cM cX cC; intro W46 K_; obtain ⟨H, cS, cN, cQ, cM, cX, cC⟩ := n6_ K_; clear K_)
    | (go_at_call 23; have _t := tok1; refine (code18_any _ _).mono ?_; rintro e W47 ⟨rfl, hb⟩; clear cS cN cQ cM cX cC; replace H := pc H hb; clear hb; clear tok1; obtain ⟨-, cS, cN, cQ, cM, cX, cC⟩ := n6_ H)
    | (go_at_call 29; have _t := tok2; refine (same18_any id m u b c z s me o a l (.slice B81 m81 j81) (.slice B82 m82 j82) (.slice B83 m83 j83) (.slice B91 m91 j91) (.slice B92 m92 j92) (.slice B93 m93 j93) N _ (MC_R (H.out.fact 1 rfl)) (MC_R (H.out.fact 0 rfl)) HIN.out).mono ?_; rintro e W48 ⟨rfl, hb⟩; clear cS cN cQ cM cX cC; replace H := pc H hb; clear hb; clear tok2; obtain ⟨-, cS, cN, cQ, cM, cX, cC⟩ := n6_ H)
    | (go_at_call 29; refine (HS2.out _ (MC_R (H.out.fact 3 rfl)) (MC_R (H.out.fact 2 rfl))).mono ?_; rintro e W49 ⟨rfl, hb⟩; clear cS cN cQ cM cX cC; replace H := pc H hb; clear hb; obtain ⟨-, cS, cN, cQ, cM, cX, cC⟩ := n6_ H)
    | (go_at_call 25; refine (live18_any _).mono ?_; rintro e W50 ⟨rfl, hb⟩; clear cS cN cQ cM cX cC; replace H := pc H hb; clear hb; obtain ⟨-, cS, cN, cQ, cM, cX, cC⟩ := n6_ H)
  go_ret
  exact ⟨rfl, H.out.below⟩
set_option maxHeartbeats 16000000 in
set_option maxRecDepth 100000 in
theorem ad_er (id m u b c z s me o a l : Int) (w : World) (zi st wp gen : Int) (Ab : Option Addr) (cb : Nat) (db : List Int) (D : Mdl) (hi : MInv id m u b c z s me o a l D) (hbr : Kd.C (Kd.int .u8) w Ab db.length db) (hbc : db.length ≤ cb) (he : ¬ (adoptM id m u b c z s me o a l D zi ⟨st, wp, gen⟩ db).2 = 0) : AdE id m u b c z s me o a l w zi st wp gen Ab cb db D := by
  unfold AdE
  intro v gC gX gM gQ wc B1 m1 j1 B2 m2 j2 B3 m3 j3 Bd1 md1 jd1 Bd2 md2 jd2 Bd3 md3 jd3 H
  obtain ⟨nb, hnb⟩ : ∃ n, n = db.length := ⟨_, rfl⟩
  have hnbm : nb ≤ 9223372036854775807 := by rw [hnb]; exact hbr.2.1
  have HIM := Lib.hid hi; have HBC := Lib.hid hbc
  have hma := fun W h hd => madopt_err id m u b c z s me o a l (.slice B1 m1 j1) (.slice B2 m2 j2) (.slice B3 m3 j3) D zi ⟨st, wp, gen⟩ Ab cb db W h HIM.out hd HBC.out he
  have hra := fun W h hd => radopt_err id m u b c z s me o a l (.slice Bd1 md1 jd1) (.slice Bd2 md2 jd2) (.slice Bd3 md3 jd3) D zi ⟨st, wp, gen⟩ Ab cb db W h HIM.out hd HBC.out he
  generalize (adoptM id m u b c z s me o a l D zi ⟨st, wp, gen⟩ db).2 = E at he hma hra
  have kb : (E == 0) = false := beq_eq_false_iff_ne.mpr he; have kb2 : (E != 0) = true := bne_iff_ne.mpr he
  have hz0 := fun W => mzone_any 0 0 0 0 0 0 0 0 0 0 0 nil_ nil_ nil_ ⟨[], [], []⟩ 0 W ⟨⟨none, 0, rfl, Nat.le_refl 0, Kd.C_nil _ _⟩, ⟨none, 0, rfl, Nat.le_refl 0, Kd.C_nil _ _⟩, ⟨none, 0, rfl, Nat.le_refl 0, Kd.C_nil _ _⟩⟩ rfl
  rw [if_neg (show ¬ ((0 : Int) ≤ 0 ∧ (0 : Int) < (([] : List ByteArray).length : Int)) from fun h => by have := h.2; simp at this), decide_eq_false (show ¬ ((0 : Int) ≤ 0 ∧ (0 : Int) < (([] : List ByteArray).length : Int)) from fun h => by have := h.2; simp at this)] at hz0
  have HZ0 := Lib.hid hz0; clear hz0
  rw [← hnb] at hma hra hbr ⊢
  have HMA := Lib.hid hma; have HRA := Lib.hid hra; have HBR := Lib.hid hbr; clear hma hra he hnb hbr hbc hi
  conv => arg 2; whnf
  obtain ⟨-, cQ, cM, cX, cC⟩ := n4_ H
  have tok1 : True := trivial
  go_wp2_with first
    | (go_at_call 30; refine (HMA.out _ (MC_R (H.out.fact 1 rfl)) (Kd.C_below HBR.out H.out.below)).mono ?_; rintro e W41 ⟨rfl, hb⟩; clear cQ cM cX cC; replace H := pc H hb; clear hb; obtain ⟨-, cQ, cM, cX, cC⟩ := n4_ H)
    | (apply bh H 21 (mL 0 0 0 0 0 0 0 0 0 0 0 nil_ nil_ nil_) 53; clear H cQ cM cX cC; intro gN W42 H; obtain ⟨-, cN, cQ, cM, cX, cC⟩ := n5_ H)
    | (apply sn H 0 53 21 gN (mL 0 0 0 0 0 0 0 0 0 0 0 nil_ nil_ nil_))
    | (go_at_call 31; refine (HRA.out _ (MC_R (H.out.fact 0 rfl)) (Kd.C_below HBR.out H.out.below)).mono ?_; rintro e W43 ⟨⟨x_, y_, q_, rfl, hM⟩, hb⟩; obtain ⟨B81, m81, j81, rfl⟩ := RowD_shape hM.1; obtain ⟨B82, m82, j82, rfl⟩ := RowD_shape hM.2.1; obtain ⟨B83, m83, j83, rfl⟩ := RowD_shape hM.2.2; clear hM; clear cN cQ cM cX cC; replace H := pc H hb; clear hb; obtain ⟨-, cN, cQ, cM, cX, cC⟩ := n5_ H)
    | (apply bh H 23 (mL 0 0 0 0 0 0 0 0 0 0 0 nil_ nil_ nil_) 68; clear H cN cQ cM cX cC; intro gS W44 H; obtain ⟨-, cS, cN, cQ, cM, cX, cC⟩ := n6_ H)
    | (apply sh H 0 68 23 gS (mL id m u b c z s me o a l (.slice B81 m81 j81) (.slice B82 m82 j82) (.slice B83 m83 j83)); clear H cS cN cQ cM cX cC; intro W45 K_; obtain ⟨H, cS, cN, cQ, cM, cX, cC⟩ := n6_ K_; clear K_)
    | (go_at_call 23; have _t := tok1; refine (code18_any _ _).mono ?_; rintro e W46 ⟨rfl, hb⟩; clear cS cN cQ cM cX cC; replace H := pc H hb; clear hb; clear tok1; obtain ⟨-, cS, cN, cQ, cM, cX, cC⟩ := n6_ H)
    | (go_at_call 32; refine (HZ0.out _).mono ?_; rintro e W47 ⟨rfl, hb⟩; clear cS cN cQ cM cX cC; replace H := pc H hb; clear hb; obtain ⟨-, cS, cN, cQ, cM, cX, cC⟩ := n6_ H)
    | (apply bh H 25 (oL 0 0 0) 59; clear H cS cN cQ cM cX cC; intro gY W48 H; obtain ⟨-, cY, cS, cN, cQ, cM, cX, cC⟩ := n7_ H)
    | (apply sn H 0 59 25 gY (oL 0 0 0))
    | (go_at_call 25; refine (live18_any _).mono ?_; rintro e W49 ⟨rfl, hb⟩; clear cY cS cN cQ cM cX cC; replace H := pc H hb; clear hb; obtain ⟨-, cY, cS, cN, cQ, cM, cX, cC⟩ := n7_ H)
  go_ret
  exact ⟨rfl, H.out.below⟩
set_option maxHeartbeats 16000000 in
set_option maxRecDepth 100000 in
theorem adopts18_no (id m u b c z s me o a l : Int) (Aa : Option Addr) (ca : Nat) (xs : List S65) (w : World) (hr : Kd.C k65 w Aa xs.length xs) (hc : xs.length ≤ ca) (zi : Int) (zn : S59) (Ab : Option Addr) (cb : Nat) (db : List Int) (hbr : Kd.C (Kd.int .u8) w Ab db.length db) (hbc : db.length ≤ cb) (hk : ¬ checkC id m u b c z s me o a l = 0) :
    Calls Try.prog 6 #[.agg #[.int .i64 id, .int .i64 m, .int .i64 u, .int .i64 b, .int .i64 c, .int .i64 z, .int .i64 s, .int .i64 me, .int .i64 o, .int .i64 a, .int .i64 l], .slice Aa xs.length ca, .int .i64 zi, zoV zn, .slice Ab db.length cb] w fun e w' => e = .returned (.bool true) ∧ Below w.heap.size w w' := by
  have H := Lib.hid (Pk.start w)
  obtain ⟨n, hn⟩ : ∃ n, n = xs.length := ⟨_, rfl⟩
  obtain ⟨nb, hnb⟩ : ∃ n, n = db.length := ⟨_, rfl⟩
  rw [← hn] at hr hc ⊢
  rw [← hnb] at hbr hbc ⊢
  have hnbm : nb ≤ 9223372036854775807 := hbr.2.1
  obtain ⟨st, wp, gen⟩ := zn
  show Calls _ _ #[_, _, _, .agg #[.int .i64 st, .int .i64 wp, .int .i64 gen], _] _ _
  have HX := Lib.hid hr
  have hnew := fun W => mnew_no id m u b c z s me o a l W hk
  generalize checkC id m u b c z s me o a l = E at hnew hk
  have kb : (E == 0) = false := beq_eq_false_iff_ne.mpr hk; have kb2 : (E != 0) = true := bne_iff_ne.mpr hk
  have HN := Lib.hid hnew; clear hnew hr hn hnb hbr
  go_enter Try.func6, Try.ntmps6
  go_wp2_with first
    | (apply bh H 5 (cL id m u b c z s me o a l) 23; clear H; intro gC W1 H; obtain ⟨-, cC⟩ := n1_ H)
    | (apply bh H 8 (oL st wp gen) 59; clear H cC; intro gX W2 H; obtain ⟨-, cX, cC⟩ := n2_ H)
  go_wp2_with first
    | (go_at_call 22; refine (HN.out _).mono ?_; rintro e W3 ⟨rfl, hb⟩; clear cX cC; replace H := pc H hb; clear hb; obtain ⟨-, cX, cC⟩ := n2_ H)
    | (apply bh H 11 (mL 0 0 0 0 0 0 0 0 0 0 0 nil_ nil_ nil_) 53; clear H cX cC; intro gM W4 H; obtain ⟨-, cM, cX, cC⟩ := n3_ H)
    | (apply sn H 0 53 11 gM (mL 0 0 0 0 0 0 0 0 0 0 0 nil_ nil_ nil_))
  have tok1 : True := trivial
  go_wp2_with first
    | (go_at_call 23; have _t := tok1; refine (code18_any _ _).mono ?_; rintro e W5 ⟨rfl, hb⟩; clear cM cX cC; replace H := pc H hb; clear hb; clear tok1; obtain ⟨-, cM, cX, cC⟩ := n3_ H)
    | (go_at_call 25; refine (live18_any _).mono ?_; rintro e W6 ⟨rfl, hb⟩; clear cM cX cC; replace H := pc H hb; clear hb; obtain ⟨-, cM, cX, cC⟩ := n3_ H)
  go_ret
  exact ⟨rfl, H.out.below⟩
set_option maxHeartbeats 16000000 in
set_option maxRecDepth 100000 in
theorem adopts18_much (id m u b c z s me o a l : Int) (Aa : Option Addr) (ca : Nat) (xs : List S65) (w : World) (hr : Kd.C k65 w Aa xs.length xs) (hc : xs.length ≤ ca) (zi : Int) (zn : S59) (Ab : Option Addr) (cb : Nat) (db : List Int) (hbr : Kd.C (Kd.int .u8) w Ab db.length db) (hbc : db.length ≤ cb) (hk : checkC id m u b c z s me o a l = 0) (hm : ∀ (W' : World), Below w.heap.size w W' → Calls Try.prog 24 #[.agg #[.int .i64 id, .int .i64 m, .int .i64 u, .int .i64 b, .int .i64 c, .int .i64 z, .int .i64 s, .int .i64 me, .int .i64 o, .int .i64 a, .int .i64 l], .slice Aa xs.length ca] W' fun e w' => e = .returned (.bool true) ∧ Below W'.heap.size W' w') :
    Calls Try.prog 6 #[.agg #[.int .i64 id, .int .i64 m, .int .i64 u, .int .i64 b, .int .i64 c, .int .i64 z, .int .i64 s, .int .i64 me, .int .i64 o, .int .i64 a, .int .i64 l], .slice Aa xs.length ca, .int .i64 zi, zoV zn, .slice Ab db.length cb] w fun e w' => e = .returned (.bool true) ∧ Below w.heap.size w w' := by
  have H := Lib.hid (Pk.start w)
  obtain ⟨n, hn⟩ : ∃ n, n = xs.length := ⟨_, rfl⟩
  obtain ⟨nb, hnb⟩ : ∃ n, n = db.length := ⟨_, rfl⟩
  rw [← hn] at hr hc hm ⊢
  rw [← hnb] at hbr hbc ⊢
  have hnbm : nb ≤ 9223372036854775807 := hbr.2.1
  obtain ⟨st, wp, gen⟩ := zn
  show Calls _ _ #[_, _, _, .agg #[.int .i64 st, .int .i64 wp, .int .i64 gen], _] _ _
  clear hn hnb
  have HX := Lib.hid hr
  have hnew := fun W => mnew_ok id m u b c z s me o a l W hk
  have hb_ := okC_bd (checkC_ok hk).1
  have HRN := Lib.hid (fun W => rmnew_any id m u b c z s me o a l W (by omega) (by omega))
  have HN := Lib.hid hnew; have HI0 := Lib.hid (minv_new id m u b c z s me o a l hk); have HM := Lib.hid hm; have HBR := Lib.hid hbr
  clear hnew hr hm hb_ hbr
  go_enter Try.func6, Try.ntmps6
  go_wp2_with first
    | (apply bh H 5 (cL id m u b c z s me o a l) 23; clear H; intro gC W1 H; obtain ⟨-, cC⟩ := n1_ H)
    | (apply bh H 8 (oL st wp gen) 59; clear H cC; intro gX W2 H; obtain ⟨-, cX, cC⟩ := n2_ H)
  go_wp2_with first
    | (go_at_call 22; refine (HN.out _).mono ?_; rintro e W3 ⟨x_, y_, q_, rfl, hM, hb⟩; clear cX cC; obtain ⟨B01, m01, j01, B02, m02, j02, B03, m03, j03, rfl, rfl, rfl⟩ := MR_shape hM; replace H := Lib.hid ((H.out.called hb).row (MrF w.heap.size (.slice B01 m01 j01) (.slice B02 m02 j02) (.slice B03 m03 j03) (⟨List.replicate z.toNat z59, List.replicate z.toNat ByteArray.empty, List.replicate z.toNat 0⟩)) (MR_lower hM H.out.below.size)); clear hM; clear hb; obtain ⟨-, cX, cC⟩ := n2_ H)
    | (apply bh H 11 (mL 0 0 0 0 0 0 0 0 0 0 0 nil_ nil_ nil_) 53; clear H cX cC; intro gM W4 H; obtain ⟨-, cM, cX, cC⟩ := n3_ H)
    | (apply sh H 0 53 11 gM (mL id m u b c z s me o a l (.slice B01 m01 j01) (.slice B02 m02 j02) (.slice B03 m03 j03)); clear H cM cX cC; intro W5 K_; obtain ⟨H, cM, cX, cC⟩ := n3_ K_; clear K_)
  have tok1 : True := trivial
  go_wp2_with first
    | (go_at_call 23; have _t := tok1; refine (code18_any _ _).mono ?_; rintro e W6 ⟨rfl, hb⟩; clear cM cX cC; replace H := pc H hb; clear hb; clear tok1; obtain ⟨-, cM, cX, cC⟩ := n3_ H)
    | (go_at_call 24; refine (HM.out _ H.out.below).mono ?_; rintro e W7 ⟨rfl, hb⟩; clear cM cX cC; replace H := pc H hb; clear hb; obtain ⟨-, cM, cX, cC⟩ := n3_ H)
    | (go_at_call 25; refine (live18_any _).mono ?_; rintro e W8 ⟨rfl, hb⟩; clear cM cX cC; replace H := pc H hb; clear hb; obtain ⟨-, cM, cX, cC⟩ := n3_ H)
  go_ret
  exact ⟨rfl, H.out.below⟩
set_option maxHeartbeats 16000000 in
set_option maxRecDepth 100000 in
theorem adopts18_big (id m u b c z s me o a l : Int) (Aa : Option Addr) (ca : Nat) (xs : List S65) (w : World) (hr : Kd.C k65 w Aa xs.length xs) (hc : xs.length ≤ ca) (zi : Int) (zn : S59) (Ab : Option Addr) (cb : Nat) (db : List Int) (hbr : Kd.C (Kd.int .u8) w Ab db.length db) (hbc : db.length ≤ cb) (hk : checkC id m u b c z s me o a l = 0) (hm : ∀ (W' : World), Below w.heap.size w W' → Calls Try.prog 24 #[.agg #[.int .i64 id, .int .i64 m, .int .i64 u, .int .i64 b, .int .i64 c, .int .i64 z, .int .i64 s, .int .i64 me, .int .i64 o, .int .i64 a, .int .i64 l], .slice Aa xs.length ca] W' fun e w' => e = .returned (.bool false) ∧ Below W'.heap.size W' w') (h8 : 8000 < db.length) :
    Calls Try.prog 6 #[.agg #[.int .i64 id, .int .i64 m, .int .i64 u, .int .i64 b, .int .i64 c, .int .i64 z, .int .i64 s, .int .i64 me, .int .i64 o, .int .i64 a, .int .i64 l], .slice Aa xs.length ca, .int .i64 zi, zoV zn, .slice Ab db.length cb] w fun e w' => e = .returned (.bool true) ∧ Below w.heap.size w w' := by
  have H := Lib.hid (Pk.start w)
  obtain ⟨n, hn⟩ : ∃ n, n = xs.length := ⟨_, rfl⟩
  obtain ⟨nb, hnb⟩ : ∃ n, n = db.length := ⟨_, rfl⟩
  rw [← hn] at hr hc hm ⊢
  rw [← hnb] at hbr hbc ⊢
  have hnbm : nb ≤ 9223372036854775807 := hbr.2.1
  obtain ⟨st, wp, gen⟩ := zn
  show Calls _ _ #[_, _, _, .agg #[.int .i64 st, .int .i64 wp, .int .i64 gen], _] _ _
  have h8b : (nb : Int) > 8000 := (by omega); clear hn hnb h8
  have HX := Lib.hid hr
  have hnew := fun W => mnew_ok id m u b c z s me o a l W hk
  have hb_ := okC_bd (checkC_ok hk).1
  have HRN := Lib.hid (fun W => rmnew_any id m u b c z s me o a l W (by omega) (by omega))
  have HN := Lib.hid hnew; have HI0 := Lib.hid (minv_new id m u b c z s me o a l hk); have HM := Lib.hid hm; have HBR := Lib.hid hbr
  clear hnew hr hm hb_ hbr
  go_enter Try.func6, Try.ntmps6
  go_wp2_with first
    | (apply bh H 5 (cL id m u b c z s me o a l) 23; clear H; intro gC W1 H; obtain ⟨-, cC⟩ := n1_ H)
    | (apply bh H 8 (oL st wp gen) 59; clear H cC; intro gX W2 H; obtain ⟨-, cX, cC⟩ := n2_ H)
  go_wp2_with first
    | (go_at_call 22; refine (HN.out _).mono ?_; rintro e W3 ⟨x_, y_, q_, rfl, hM, hb⟩; clear cX cC; obtain ⟨B01, m01, j01, B02, m02, j02, B03, m03, j03, rfl, rfl, rfl⟩ := MR_shape hM; replace H := Lib.hid ((H.out.called hb).row (MrF w.heap.size (.slice B01 m01 j01) (.slice B02 m02 j02) (.slice B03 m03 j03) (⟨List.replicate z.toNat z59, List.replicate z.toNat ByteArray.empty, List.replicate z.toNat 0⟩)) (MR_lower hM H.out.below.size)); clear hM; clear hb; obtain ⟨-, cX, cC⟩ := n2_ H)
    | (apply bh H 11 (mL 0 0 0 0 0 0 0 0 0 0 0 nil_ nil_ nil_) 53; clear H cX cC; intro gM W4 H; obtain ⟨-, cM, cX, cC⟩ := n3_ H)
    | (apply sh H 0 53 11 gM (mL id m u b c z s me o a l (.slice B01 m01 j01) (.slice B02 m02 j02) (.slice B03 m03 j03)); clear H cM cX cC; intro W5 K_; obtain ⟨H, cM, cX, cC⟩ := n3_ K_; clear K_)
  have tok1 : True := trivial
  go_wp2_with first
    | (go_at_call 23; have _t := tok1; refine (code18_any _ _).mono ?_; rintro e W6 ⟨rfl, hb⟩; clear cM cX cC; replace H := pc H hb; clear hb; clear tok1; obtain ⟨-, cM, cX, cC⟩ := n3_ H)
    | (go_at_call 24; refine (HM.out _ H.out.below).mono ?_; rintro e W7 ⟨rfl, hb⟩; clear cM cX cC; replace H := pc H hb; clear hb; obtain ⟨-, cM, cX, cC⟩ := n3_ H)
    | (go_at_call 25; refine (live18_any _).mono ?_; rintro e W8 ⟨rfl, hb⟩; clear cM cX cC; replace H := pc H hb; clear hb; obtain ⟨-, cM, cX, cC⟩ := n3_ H)
  go_ret
  exact ⟨rfl, H.out.below⟩
set_option maxHeartbeats 16000000 in
set_option maxRecDepth 100000 in
theorem adopts18_go (id m u b c z s me o a l : Int) (Aa : Option Addr) (ca : Nat) (xs : List S65) (w : World) (hr : Kd.C k65 w Aa xs.length xs) (hc : xs.length ≤ ca) (zi : Int) (zn : S59) (Ab : Option Addr) (cb : Nat) (db : List Int) (hbr : Kd.C (Kd.int .u8) w Ab db.length db) (hbc : db.length ≤ cb) (hk : checkC id m u b c z s me o a l = 0) (hm : ∀ (W' : World), Below w.heap.size w W' → Calls Try.prog 24 #[.agg #[.int .i64 id, .int .i64 m, .int .i64 u, .int .i64 b, .int .i64 c, .int .i64 z, .int .i64 s, .int .i64 me, .int .i64 o, .int .i64 a, .int .i64 l], .slice Aa xs.length ca] W' fun e w' => e = .returned (.bool false) ∧ Below W'.heap.size W' w') (h40 : xs.length ≤ 40) (h8 : ¬ 8000 < db.length) (hE : AdE id m u b c z s me o a l w zi zn.f0 zn.f1 zn.f2 Ab cb db (runM id m u b c z s me o a l ⟨List.replicate z.toNat z59, List.replicate z.toNat ByteArray.empty, List.replicate z.toNat 0⟩ xs)) :
    Calls Try.prog 6 #[.agg #[.int .i64 id, .int .i64 m, .int .i64 u, .int .i64 b, .int .i64 c, .int .i64 z, .int .i64 s, .int .i64 me, .int .i64 o, .int .i64 a, .int .i64 l], .slice Aa xs.length ca, .int .i64 zi, zoV zn, .slice Ab db.length cb] w fun e w' => e = .returned (.bool true) ∧ Below w.heap.size w w' := by
  have H := Lib.hid (Pk.start w)
  obtain ⟨n, hn⟩ : ∃ n, n = xs.length := ⟨_, rfl⟩
  obtain ⟨nb, hnb⟩ : ∃ n, n = db.length := ⟨_, rfl⟩
  rw [← hn] at hr hc hm ⊢
  rw [← hnb] at hbr hbc ⊢
  have hnbm : nb ≤ 9223372036854775807 := hbr.2.1
  obtain ⟨st, wp, gen⟩ := zn
  show Calls _ _ #[_, _, _, .agg #[.int .i64 st, .int .i64 wp, .int .i64 gen], _] _ _
  rw [← hn] at h40; have c40 : (n : Int) ≤ 40 := (by omega); have h8b : ¬ (nb : Int) > 8000 := (by omega); have HNB := Lib.hid hnb; have HNX := Lib.hid hn; have HE := Lib.hid hE; clear hn hnb h8 hE
  have HX := Lib.hid hr
  have hnew := fun W => mnew_ok id m u b c z s me o a l W hk
  have hb_ := okC_bd (checkC_ok hk).1
  have HRN := Lib.hid (fun W => rmnew_any id m u b c z s me o a l W (by omega) (by omega))
  have HN := Lib.hid hnew; have HI0 := Lib.hid (minv_new id m u b c z s me o a l hk); have HM := Lib.hid hm; have HBR := Lib.hid hbr
  clear hnew hr hm hb_ hbr
  go_enter Try.func6, Try.ntmps6
  go_wp2_with first
    | (apply bh H 5 (cL id m u b c z s me o a l) 23; clear H; intro gC W1 H; obtain ⟨-, cC⟩ := n1_ H)
    | (apply bh H 8 (oL st wp gen) 59; clear H cC; intro gX W2 H; obtain ⟨-, cX, cC⟩ := n2_ H)
  go_wp2_with first
    | (go_at_call 22; refine (HN.out _).mono ?_; rintro e W3 ⟨x_, y_, q_, rfl, hM, hb⟩; clear cX cC; obtain ⟨B01, m01, j01, B02, m02, j02, B03, m03, j03, rfl, rfl, rfl⟩ := MR_shape hM; replace H := Lib.hid ((H.out.called hb).row (MrF w.heap.size (.slice B01 m01 j01) (.slice B02 m02 j02) (.slice B03 m03 j03) (⟨List.replicate z.toNat z59, List.replicate z.toNat ByteArray.empty, List.replicate z.toNat 0⟩)) (MR_lower hM H.out.below.size)); clear hM; clear hb; obtain ⟨-, cX, cC⟩ := n2_ H)
    | (apply bh H 11 (mL 0 0 0 0 0 0 0 0 0 0 0 nil_ nil_ nil_) 53; clear H cX cC; intro gM W4 H; obtain ⟨-, cM, cX, cC⟩ := n3_ H)
    | (apply sh H 0 53 11 gM (mL id m u b c z s me o a l (.slice B01 m01 j01) (.slice B02 m02 j02) (.slice B03 m03 j03)); clear H cM cX cC; intro W5 K_; obtain ⟨H, cM, cX, cC⟩ := n3_ K_; clear K_)
  have tok1 : True := trivial
  go_upto_block 0 with first
    | (go_at_call 23; have _t := tok1; refine (code18_any _ _).mono ?_; rintro e W6 ⟨rfl, hb⟩; clear cM cX cC; replace H := pc H hb; clear hb; clear tok1; obtain ⟨-, cM, cX, cC⟩ := n3_ H)
    | (go_at_call 24; refine (HM.out _ H.out.below).mono ?_; rintro e W7 ⟨rfl, hb⟩; clear cM cX cC; replace H := pc H hb; clear hb; obtain ⟨-, cM, cX, cC⟩ := n3_ H)
    | (go_at_call 27; refine (HRN.out _).mono ?_; rintro e W8 ⟨x_, y_, q_, rfl, hM, hb⟩; clear cM cX cC; obtain ⟨B71, m71, j71, B72, m72, j72, B73, m73, j73, rfl, rfl, rfl⟩ := MR_shape hM; replace H := Lib.hid ((H.out.called hb).row (MrF w.heap.size (.slice B71 m71 j71) (.slice B72 m72 j72) (.slice B73 m73 j73) (⟨List.replicate z.toNat z59, List.replicate z.toNat ByteArray.empty, List.replicate z.toNat 0⟩)) (MR_lower hM H.out.below.size)); clear hM; clear hb; obtain ⟨-, cM, cX, cC⟩ := n3_ H)
    | (apply bh H 13 (mL 0 0 0 0 0 0 0 0 0 0 0 nil_ nil_ nil_) 68; clear H cM cX cC; intro gQ W9 H; obtain ⟨-, cQ, cM, cX, cC⟩ := n4_ H)
    | (apply sh H 0 68 13 gQ (mL id m u b c z s me o a l (.slice B71 m71 j71) (.slice B72 m72 j72) (.slice B73 m73 j73)); clear H cQ cM cX cC; intro W10 K_; obtain ⟨H, cQ, cM, cX, cC⟩ := n4_ K_; clear K_)
  go_cut [14] from 27 (fun s14 wr => ∃ (D : Mdl) (B1 : Option Addr) (m1 : Nat) (j1 : Nat) (B2 : Option Addr) (m2 : Nat) (j2 : Nat) (B3 : Option Addr) (m3 : Nat) (j3 : Nat) (Bd1 : Option Addr) (md1 : Nat) (jd1 : Nat) (Bd2 : Option Addr) (md2 : Nat) (jd2 : Nat) (Bd3 : Option Addr) (md3 : Nat) (jd3 : Nat), Hid (MInv2 id m u b c z s me o a l D) ∧ Hid (D = runM id m u b c z s me o a l ⟨List.replicate z.toNat z59, List.replicate z.toNat ByteArray.empty, List.replicate z.toNat 0⟩ xs) ∧ Hid (Pk w wr [⟨gQ, 68, (mL id m u b c z s me o a l (.slice Bd1 md1 jd1) (.slice Bd2 md2 jd2) (.slice Bd3 md3 jd3)).toArray⟩, ⟨gM, 53, (mL id m u b c z s me o a l (.slice B1 m1 j1) (.slice B2 m2 j2) (.slice B3 m3 j3)).toArray⟩, ⟨gX, 59, (oL st wp gen).toArray⟩, ⟨gC, 23, (cL id m u b c z s me o a l).toArray⟩] [MrF w.heap.size (.slice Bd1 md1 jd1) (.slice Bd2 md2 jd2) (.slice Bd3 md3 jd3) (D), MrF w.heap.size (.slice B1 m1 j1) (.slice B2 m2 j2) (.slice B3 m3 j3) (D)]))
  case first =>
    clear HE
    go_wp2
    go_loopw [14] (fun v14 wr => ∃ (j : Nat) (D : Mdl) (B1 : Option Addr) (m1 : Nat) (j1 : Nat) (B2 : Option Addr) (m2 : Nat) (j2 : Nat) (B3 : Option Addr) (m3 : Nat) (j3 : Nat) (Bd1 : Option Addr) (md1 : Nat) (jd1 : Nat) (Bd2 : Option Addr) (md2 : Nat) (jd2 : Nat) (Bd3 : Option Addr) (md3 : Nat) (jd3 : Nat), v14 = .int .i64 j ∧ j ≤ n ∧ Hid (MInv2 id m u b c z s me o a l D) ∧ Hid (D = runM id m u b c z s me o a l ⟨List.replicate z.toNat z59, List.replicate z.toNat ByteArray.empty, List.replicate z.toNat 0⟩ (xs.take j)) ∧ Hid (Pk w wr [⟨gQ, 68, (mL id m u b c z s me o a l (.slice Bd1 md1 jd1) (.slice Bd2 md2 jd2) (.slice Bd3 md3 jd3)).toArray⟩, ⟨gM, 53, (mL id m u b c z s me o a l (.slice B1 m1 j1) (.slice B2 m2 j2) (.slice B3 m3 j3)).toArray⟩, ⟨gX, 59, (oL st wp gen).toArray⟩, ⟨gC, 23, (cL id m u b c z s me o a l).toArray⟩] [MrF w.heap.size (.slice Bd1 md1 jd1) (.slice Bd2 md2 jd2) (.slice Bd3 md3 jd3) (D), MrF w.heap.size (.slice B1 m1 j1) (.slice B2 m2 j2) (.slice B3 m3 j3) (D)])) (fun v14 _ => ((n : Int) - intOf v14).toNat)
    case atStart => exact ⟨0, _, B01, m01, j01, B02, m02, j02, B03, m03, j03, B71, m71, j71, B72, m72, j72, B73, m73, j73, rfl, by omega, HI0, Lib.hid rfl, H⟩
    case round =>
      clear H cQ cM cX cC
      obtain ⟨j, D, B1, m1, j1, B2, m2, j2, B3, m3, j3, Bd1, md1, jd1, Bd2, md2, jd2, Bd3, md3, jd3, rfl, hj, HI, HD0, H⟩ := hrel
      by_cases hlt : j < n
      · have c1 : (j : Int) < (n : Int) := by omega
        obtain ⟨ad, A4, c4, e, hl4, hat⟩ := cmd_at HX.out j hlt
        subst e
        have q1 : (0 : Int) ≤ (j : Int) := by omega
        have e2 : wrap64 ((j : Int) + 1) = ((j + 1 : Nat) : Int) := by unfold wrap64; push_cast; omega
        have hdo : ∀ (W : World) (h : MC W (.slice B1 m1 j1) (.slice B2 m2 j2) (.slice B3 m3 j3) D) (hd : Kd.C (Kd.int .u8) W A4 (rd_T65 xs j).f4.length (rd_T65 xs j).f4), Calls Try.prog 26 #[modV id m u b c z s me o a l (.slice B1 m1 j1) (.slice B2 m2 j2) (.slice B3 m3 j3), cmdV (rd_T65 xs j).f0 (rd_T65 xs j).f1 (rd_T65 xs j).f2 (rd_T65 xs j).f3 (.slice A4 (rd_T65 xs j).f4.length c4) (rd_T65 xs j).f5] W (RepP id m u b c z s me o a l (.slice B1 m1 j1) (.slice B2 m2 j2) (.slice B3 m3 j3) D (doM id m u b c z s me o a l D (rd_T65 xs j)).1 (doM id m u b c z s me o a l D (rd_T65 xs j)).2.1 (bytesOf (doM id m u b c z s me o a l D (rd_T65 xs j)).2.2.1) (doM id m u b c z s me o a l D (rd_T65 xs j)).2.2.2 W) := fun W h hd => mdo_any id m u b c z s me o a l (.slice B1 m1 j1) (.slice B2 m2 j2) (.slice B3 m3 j3) D (rd_T65 xs j).f0 (rd_T65 xs j).f1 (rd_T65 xs j).f2 (rd_T65 xs j).f3 A4 c4 (rd_T65 xs j).f4 (rd_T65 xs j).f5 W h HI.out.1 hd hl4
        have hrd : ∀ (W : World) (h : MC W (.slice Bd1 md1 jd1) (.slice Bd2 md2 jd2) (.slice Bd3 md3 jd3) D) (hd : Kd.C (Kd.int .u8) W A4 (rd_T65 xs j).f4.length (rd_T65 xs j).f4), Calls Try.prog 28 #[modV id m u b c z s me o a l (.slice Bd1 md1 jd1) (.slice Bd2 md2 jd2) (.slice Bd3 md3 jd3), cmdV (rd_T65 xs j).f0 (rd_T65 xs j).f1 (rd_T65 xs j).f2 (rd_T65 xs j).f3 (.slice A4 (rd_T65 xs j).f4.length c4) (rd_T65 xs j).f5] W (RsP id m u b c z s me o a l (.slice Bd1 md1 jd1) (.slice Bd2 md2 jd2) (.slice Bd3 md3 jd3) D (doM id m u b c z s me o a l D (rd_T65 xs j)) W) := fun W h hd => rdo_any id m u b c z s me o a l (.slice Bd1 md1 jd1) (.slice Bd2 md2 jd2) (.slice Bd3 md3 jd3) D (rd_T65 xs j).f0 (rd_T65 xs j).f1 (rd_T65 xs j).f2 (rd_T65 xs j).f3 A4 c4 (rd_T65 xs j).f4 (rd_T65 xs j).f5 W h HI.out.1 hd hl4
        have hok := doM_ok HI.out (rd_T65 xs j)
        have hrn := run_step id m u b c z s me o a l ⟨List.replicate z.toNat z59, List.replicate z.toNat ByteArray.empty, List.replicate z.toNat 0⟩ xs j D HD0.out (by rw [← HNX.out]; exact hlt)
        generalize doM id m u b c z s me o a l D (rd_T65 xs j) = r at hdo hrd hok hrn
        obtain ⟨N, E, dt, zz⟩ := r
        dsimp only at hdo hrd hok hrn
        obtain ⟨lx, hlx⟩ : ∃ q, q = (rd_T65 xs j).f4.length := ⟨_, rfl⟩
        rw [← hlx] at hdo hrd
        have hat2 := fun (W : World) (hb : Below w.heap.size w W) => hat hb
        rw [← hlx] at hat2
        have HIN := Lib.hid hok.1; have HD := Lib.hid hdo; have HRD := Lib.hid hrd; have HAT := Lib.hid hat2; clear hdo hrd hok hat hat2 hlx hl4
        have HDN := Lib.hid hrn; clear hrn
        obtain ⟨-, cQ, cM, cX, cC⟩ := n4_ H
        go_wp2
        clear cQ cM cX cC
        refine start_ (n := 13) (S := fun W => (∀ j_, W.cell? ⟨gM, j_, none⟩ = ((mL id m u b c z s me o a l (.slice B1 m1 j1) (.slice B2 m2 j2) (.slice B3 m3 j3)).toArray : Array Value)[j_]?) ∧ (W.cell? (ad.add (j * 6)) = some (.int .i64 (rd_T65 xs j).f0) ∧ W.cell? ⟨(ad.add (j * 6)).block, (ad.add (j * 6)).off + 1, none⟩ = some (.int .i64 (rd_T65 xs j).f1) ∧ W.cell? ⟨(ad.add (j * 6)).block, (ad.add (j * 6)).off + 2, none⟩ = some (.int .i64 (rd_T65 xs j).f2) ∧ W.cell? ⟨(ad.add (j * 6)).block, (ad.add (j * 6)).off + 3, none⟩ = some (.int .i64 (rd_T65 xs j).f3) ∧ W.cell? ⟨(ad.add (j * 6)).block, (ad.add (j * 6)).off + 4, none⟩ = some (.slice A4 lx c4) ∧ W.cell? ⟨(ad.add (j * 6)).block, (ad.add (j * 6)).off + 5, none⟩ = some (.bool (rd_T65 xs j).f5))) (ds := []) (bq 13 0) (by kernel_rfl) rfl (by kernel_rfl) ⟨H.out.drew.cell 1 rfl, (HAT.out _ (H.out.drew).below).2⟩ (fun hHeld => ?_)
        refine with_tabW tab_revetmentlaw18_ModelAdopts_8 bits_revetmentlaw18_ModelAdopts_8 (fun HT_ HW_ => ?_)
        have zH := H.out.drew
        generalize wr.drew = W61 at zH hHeld ⊢
        replace H := Lib.hid zH; clear zH
        apply tw 0 55 (bq 13 1) HT_ HW_ hHeld
        apply pu 1 56 (bq 13 3) HT_
        apply pu 2 57 (bq 13 7) HT_
        apply pu 3 58 (bq 13 15) HT_
        apply tw 4 59 (bq 13 31) HT_ HW_ hHeld
        have b0 := Lib.hid (Below.refl W61.heap.size W61)
        refine join_ (σ := Option Addr × Nat × Nat × Option Addr × Nat × Nat × Option Addr × Nat × Nat × Option Addr × Nat × Nat × Nat × Nat) 2 (bq 13 2047) (fun y => [(60, .tuple #[modV id m u b c z s me o a l (.slice y.1 y.2.1 y.2.2.1) (.slice y.2.2.2.1 y.2.2.2.2.1 y.2.2.2.2.2.1) (.slice y.2.2.2.2.2.2.1 y.2.2.2.2.2.2.2.1 y.2.2.2.2.2.2.2.2.1), repV E (.slice y.2.2.2.2.2.2.2.2.2.1 y.2.2.2.2.2.2.2.2.2.2.1 y.2.2.2.2.2.2.2.2.2.2.2.1) zz.f0 zz.f1 zz.f2]), (54, .tuple #[modV id m u b c z s me o a l (.slice y.1 y.2.1 y.2.2.1) (.slice y.2.2.2.1 y.2.2.2.2.1 y.2.2.2.2.2.1) (.slice y.2.2.2.2.2.2.1 y.2.2.2.2.2.2.2.1 y.2.2.2.2.2.2.2.2.1), repV E (.slice y.2.2.2.2.2.2.2.2.2.1 y.2.2.2.2.2.2.2.2.2.2.1 y.2.2.2.2.2.2.2.2.2.2.2.1) zz.f0 zz.f1 zz.f2]), (61, modV id m u b c z s me o a l (.slice y.1 y.2.1 y.2.2.1) (.slice y.2.2.2.1 y.2.2.2.2.1 y.2.2.2.2.2.1) (.slice y.2.2.2.2.2.2.1 y.2.2.2.2.2.2.2.1 y.2.2.2.2.2.2.2.2.1)), (62, repV E (.slice y.2.2.2.2.2.2.2.2.2.1 y.2.2.2.2.2.2.2.2.2.2.1 y.2.2.2.2.2.2.2.2.2.2.2.1) zz.f0 zz.f1 zz.f2), (15, .pointer (some ⟨y.2.2.2.2.2.2.2.2.2.2.2.2.1, 0, none⟩)), (16, .pointer (some ⟨y.2.2.2.2.2.2.2.2.2.2.2.2.2, 0, none⟩))]) (fun y W => ((∀ j_, W.cell? ⟨gM, j_, none⟩ = ((mL id m u b c z s me o a l (.slice B1 m1 j1) (.slice B2 m2 j2) (.slice B3 m3 j3)).toArray : Array Value)[j_]?) ∧ (W.cell? (ad.add (j * 6)) = some (.int .i64 (rd_T65 xs j).f0) ∧ W.cell? ⟨(ad.add (j * 6)).block, (ad.add (j * 6)).off + 1, none⟩ = some (.int .i64 (rd_T65 xs j).f1) ∧ W.cell? ⟨(ad.add (j * 6)).block, (ad.add (j * 6)).off + 2, none⟩ = some (.int .i64 (rd_T65 xs j).f2) ∧ W.cell? ⟨(ad.add (j * 6)).block, (ad.add (j * 6)).off + 3, none⟩ = some (.int .i64 (rd_T65 xs j).f3) ∧ W.cell? ⟨(ad.add (j * 6)).block, (ad.add (j * 6)).off + 4, none⟩ = some (.slice A4 lx c4) ∧ W.cell? ⟨(ad.add (j * 6)).block, (ad.add (j * 6)).off + 5, none⟩ = some (.bool (rd_T65 xs j).f5))) ∧ Below W61.heap.size W61 W ∧ W.heap[y.2.2.2.2.2.2.2.2.2.2.2.2.1]? = some (.cells (mL 0 0 0 0 0 0 0 0 0 0 0 nil_ nil_ nil_).toArray 53 (0, 0)) ∧ W.heap[y.2.2.2.2.2.2.2.2.2.2.2.2.2]? = some (.cells (rL 0 nil_ 0 0 0).toArray 61 (0, 0)) ∧ W61.heap.size ≤ y.2.2.2.2.2.2.2.2.2.2.2.2.1 ∧ W61.heap.size ≤ y.2.2.2.2.2.2.2.2.2.2.2.2.2 ∧ y.2.2.2.2.2.2.2.2.2.2.2.2.1 ≠ y.2.2.2.2.2.2.2.2.2.2.2.2.2 ∧ BR W (.slice y.2.2.2.2.2.2.2.2.2.1 y.2.2.2.2.2.2.2.2.2.2.1 y.2.2.2.2.2.2.2.2.2.2.2.1) (bytesOf dt) ∧ (MrF w.heap.size (.slice y.1 y.2.1 y.2.2.1) (.slice y.2.2.2.1 y.2.2.2.2.1 y.2.2.2.2.2.1) (.slice y.2.2.2.2.2.2.1 y.2.2.2.2.2.2.2.1 y.2.2.2.2.2.2.2.2.1) (N)).P W) ?_ ?_
        rotate_left
        · intro hCont
          refine three_ (i := 5) (j := 9) (k := 10) (Ni := some 60) (Nj := some 15) (Nk := some 16) (bq 13 63) (bq 13 543) (bq 13 1055) rfl rfl rfl rfl rfl rfl (three_of HT_.out (by kernel_rfl)) (by decide) (by decide) (by decide) (fun K hK => ?_) (fun K hK => ?_) (fun K hK => ?_)
          · refine gs Try.func26 #[modV id m u b c z s me o a l (.slice B1 m1 j1) (.slice B2 m2 j2) (.slice B3 m3 j3), cmdV (rd_T65 xs j).f0 (rd_T65 xs j).f1 (rd_T65 xs j).f2 (rd_T65 xs j).f3 (.slice A4 lx c4) (rd_T65 xs j).f5] ?_
            refine (HD.out _ (MC_R (H.out.fact 1 rfl)) (HAT.out _ H.out.below).1).mono ?_
            rintro e W62 hP
            obtain ⟨B51, m51, j51, B52, m52, j52, B53, m53, j53, B54, m54, j54, rfl, hM, hB, hb⟩ := RepP_open hP
            clear hP
            refine ⟨_, rfl, ?_⟩
            have hb0_ := H.out.below.size; replace H := Lib.hid ((H.out.called hb).row (MrF w.heap.size (.slice B51 m51 j51) (.slice B52 m52 j52) (.slice B53 m53 j53) (N)) (MD_R hM ((H.out.called hb).fact 1 rfl) H.out.below.size))
            replace H := Lib.hid ((H.out).row (BytF (.slice B54 m54 j54) (bytesOf dt)) (hB))
            clear hb0_
            replace b0 := Lib.hid (below_step b0.out hb)
            clear hM hB
            clear hb
            refine hK.out _ _ ⟨H.out.cell 1 rfl, (HAT.out _ H.out.below).2⟩ (fun hHeld => ?_)
            clear hK K
            apply nm 0
            apply pu 6 54 (bq 13 127) HT_
            apply pu 7 61 (bq 13 255) HT_
            apply pu 8 62 (bq 13 511) HT_
            refine two_ (i := 9) (j := 10) (Ni := some 15) (Nj := some 16) (bq 13 1023) (bq 13 1535) rfl rfl rfl rfl (two_of HT_.out (by kernel_rfl)) (by decide) (by decide) (fun K hK => ?_) (fun K hK => ?_)
            · obtain ⟨-, cQ, cM, cX, cC⟩ := n4_ H
              apply bhs H 15 (mL 0 0 0 0 0 0 0 0 0 0 0 nil_ nil_ nil_) 53
              clear H cQ cM cX cC
              intro gU W63 hg hb H
              have GU := Lib.hid (Nat.le_trans b0.out.size hg)
              replace b0 := Lib.hid (below_step b0.out hb)
              clear hb hg
              refine hK.out _ _ ⟨H.out.cell 2 rfl, (HAT.out _ H.out.below).2⟩ (fun hHeld => ?_)
              clear hK K
              apply nm 0
              apply on 10 (some 16) (bq 13 2047) HT_; intro K hK
              obtain ⟨-, cU, cQ, cM, cX, cC⟩ := n5_ H
              apply bhs H 16 (rL 0 nil_ 0 0 0) 61
              clear H cU cQ cM cX cC
              intro gP W64 hg hb H
              have GP := Lib.hid (Nat.le_trans b0.out.size hg)
              replace b0 := Lib.hid (below_step b0.out hb)
              clear hb hg
              refine hK.out _ _ ⟨H.out.cell 3 rfl, (HAT.out _ H.out.below).2⟩ (fun hHeld => ?_)
              clear hK K
              apply nm 0
              have hn_UP := (H.out.dist 0 1 rfl rfl (by decide)).symm
              exact norm_ (by simp only [putAll, Act.put, List.setIfInBounds_toArray, List.set_cons_zero, List.set_cons_succ]) (hCont (B51, m51, j51, B52, m52, j52, B53, m53, j53, B54, m54, j54, gU, gP) _ ⟨hHeld, b0.out, H.out.at_ 1 rfl, H.out.at_ 0 rfl, GU.out, GP.out, hn_UP, H.out.fact 0 rfl, H.out.fact 1 rfl⟩)
            · obtain ⟨-, cQ, cM, cX, cC⟩ := n4_ H
              apply bhs H 16 (rL 0 nil_ 0 0 0) 61
              clear H cQ cM cX cC
              intro gP W63 hg hb H
              have GP := Lib.hid (Nat.le_trans b0.out.size hg)
              replace b0 := Lib.hid (below_step b0.out hb)
              clear hb hg
              refine hK.out _ _ ⟨H.out.cell 2 rfl, (HAT.out _ H.out.below).2⟩ (fun hHeld => ?_)
              clear hK K
              apply nm 0
              apply on 9 (some 15) (bq 13 2047) HT_; intro K hK
              obtain ⟨-, cP, cQ, cM, cX, cC⟩ := n5_ H
              apply bhs H 15 (mL 0 0 0 0 0 0 0 0 0 0 0 nil_ nil_ nil_) 53
              clear H cP cQ cM cX cC
              intro gU W64 hg hb H
              have GU := Lib.hid (Nat.le_trans b0.out.size hg)
              replace b0 := Lib.hid (below_step b0.out hb)
              clear hb hg
              refine hK.out _ _ ⟨H.out.cell 3 rfl, (HAT.out _ H.out.below).2⟩ (fun hHeld => ?_)
              clear hK K
              apply nm 0
              have hn_UP := H.out.dist 0 1 rfl rfl (by decide)
              exact norm_ (by simp only [putAll, Act.put, List.setIfInBounds_toArray, List.set_cons_zero, List.set_cons_succ]) (hCont (B51, m51, j51, B52, m52, j52, B53, m53, j53, B54, m54, j54, gU, gP) _ ⟨hHeld, b0.out, H.out.at_ 0 rfl, H.out.at_ 1 rfl, GU.out, GP.out, hn_UP, H.out.fact 0 rfl, H.out.fact 1 rfl⟩)
          · obtain ⟨-, cQ, cM, cX, cC⟩ := n4_ H
            apply bhs H 15 (mL 0 0 0 0 0 0 0 0 0 0 0 nil_ nil_ nil_) 53
            clear H cQ cM cX cC
            intro gU W62 hg hb H
            have GU := Lib.hid (Nat.le_trans b0.out.size hg)
            replace b0 := Lib.hid (below_step b0.out hb)
            clear hb hg
            refine hK.out _ _ ⟨H.out.cell 2 rfl, (HAT.out _ H.out.below).2⟩ (fun hHeld => ?_)
            clear hK K
            apply nm 0
            refine two_ (i := 5) (j := 10) (Ni := some 60) (Nj := some 16) (bq 13 575) (bq 13 1567) rfl rfl rfl rfl (two_of HT_.out (by kernel_rfl)) (by decide) (by decide) (fun K hK => ?_) (fun K hK => ?_)
            · refine gs Try.func26 #[modV id m u b c z s me o a l (.slice B1 m1 j1) (.slice B2 m2 j2) (.slice B3 m3 j3), cmdV (rd_T65 xs j).f0 (rd_T65 xs j).f1 (rd_T65 xs j).f2 (rd_T65 xs j).f3 (.slice A4 lx c4) (rd_T65 xs j).f5] ?_
              refine (HD.out _ (MC_R (H.out.fact 1 rfl)) (HAT.out _ H.out.below).1).mono ?_
              rintro e W63 hP
              obtain ⟨B51, m51, j51, B52, m52, j52, B53, m53, j53, B54, m54, j54, rfl, hM, hB, hb⟩ := RepP_open hP
              clear hP
              refine ⟨_, rfl, ?_⟩
              have hb0_ := H.out.below.size; replace H := Lib.hid ((H.out.called hb).row (MrF w.heap.size (.slice B51 m51 j51) (.slice B52 m52 j52) (.slice B53 m53 j53) (N)) (MD_R hM ((H.out.called hb).fact 1 rfl) H.out.below.size))
              replace H := Lib.hid ((H.out).row (BytF (.slice B54 m54 j54) (bytesOf dt)) (hB))
              clear hb0_
              replace b0 := Lib.hid (below_step b0.out hb)
              clear hM hB
              clear hb
              refine hK.out _ _ ⟨H.out.cell 2 rfl, (HAT.out _ H.out.below).2⟩ (fun hHeld => ?_)
              clear hK K
              apply nm 0
              apply pu 6 54 (bq 13 639) HT_
              apply pu 7 61 (bq 13 767) HT_
              apply pu 8 62 (bq 13 1023) HT_
              apply on 10 (some 16) (bq 13 2047) HT_; intro K hK
              obtain ⟨-, cU, cQ, cM, cX, cC⟩ := n5_ H
              apply bhs H 16 (rL 0 nil_ 0 0 0) 61
              clear H cU cQ cM cX cC
              intro gP W64 hg hb H
              have GP := Lib.hid (Nat.le_trans b0.out.size hg)
              replace b0 := Lib.hid (below_step b0.out hb)
              clear hb hg
              refine hK.out _ _ ⟨H.out.cell 3 rfl, (HAT.out _ H.out.below).2⟩ (fun hHeld => ?_)
              clear hK K
              apply nm 0
              have hn_UP := (H.out.dist 0 1 rfl rfl (by decide)).symm
              exact norm_ (by simp only [putAll, Act.put, List.setIfInBounds_toArray, List.set_cons_zero, List.set_cons_succ]) (hCont (B51, m51, j51, B52, m52, j52, B53, m53, j53, B54, m54, j54, gU, gP) _ ⟨hHeld, b0.out, H.out.at_ 1 rfl, H.out.at_ 0 rfl, GU.out, GP.out, hn_UP, H.out.fact 0 rfl, H.out.fact 1 rfl⟩)
            · obtain ⟨-, cU, cQ, cM, cX, cC⟩ := n5_ H
              apply bhs H 16 (rL 0 nil_ 0 0 0) 61
              clear H cU cQ cM cX cC
              intro gP W63 hg hb H
              have GP := Lib.hid (Nat.le_trans b0.out.size hg)
              replace b0 := Lib.hid (below_step b0.out hb)
              clear hb hg
              refine hK.out _ _ ⟨H.out.cell 3 rfl, (HAT.out _ H.out.below).2⟩ (fun hHeld => ?_)
              clear hK K
              apply nm 0
              apply on 5 (some 60) (bq 13 1599) HT_; intro K hK
              refine gs Try.func26 #[modV id m u b c z s me o a l (.slice B1 m1 j1) (.slice B2 m2 j2) (.slice B3 m3 j3), cmdV (rd_T65 xs j).f0 (rd_T65 xs j).f1 (rd_T65 xs j).f2 (rd_T65 xs j).f3 (.slice A4 lx c4) (rd_T65 xs j).f5] ?_
              refine (HD.out _ (MC_R (H.out.fact 1 rfl)) (HAT.out _ H.out.below).1).mono ?_
              rintro e W64 hP
              obtain ⟨B51, m51, j51, B52, m52, j52, B53, m53, j53, B54, m54, j54, rfl, hM, hB, hb⟩ := RepP_open hP
              clear hP
              refine ⟨_, rfl, ?_⟩
              have hb0_ := H.out.below.size; replace H := Lib.hid ((H.out.called hb).row (MrF w.heap.size (.slice B51 m51 j51) (.slice B52 m52 j52) (.slice B53 m53 j53) (N)) (MD_R hM ((H.out.called hb).fact 1 rfl) H.out.below.size))
              replace H := Lib.hid ((H.out).row (BytF (.slice B54 m54 j54) (bytesOf dt)) (hB))
              clear hb0_
              replace b0 := Lib.hid (below_step b0.out hb)
              clear hM hB
              clear hb
              refine hK.out _ _ ⟨H.out.cell 3 rfl, (HAT.out _ H.out.below).2⟩ (fun hHeld => ?_)
              clear hK K
              apply nm 0
              apply pu 6 54 (bq 13 1663) HT_
              apply pu 7 61 (bq 13 1791) HT_
              apply pu 8 62 (bq 13 2047) HT_
              have hn_UP := (H.out.dist 0 1 rfl rfl (by decide)).symm
              exact norm_ (by simp only [putAll, Act.put, List.setIfInBounds_toArray, List.set_cons_zero, List.set_cons_succ]) (hCont (B51, m51, j51, B52, m52, j52, B53, m53, j53, B54, m54, j54, gU, gP) _ ⟨hHeld, b0.out, H.out.at_ 1 rfl, H.out.at_ 0 rfl, GU.out, GP.out, hn_UP, H.out.fact 0 rfl, H.out.fact 1 rfl⟩)
          · obtain ⟨-, cQ, cM, cX, cC⟩ := n4_ H
            apply bhs H 16 (rL 0 nil_ 0 0 0) 61
            clear H cQ cM cX cC
            intro gP W62 hg hb H
            have GP := Lib.hid (Nat.le_trans b0.out.size hg)
            replace b0 := Lib.hid (below_step b0.out hb)
            clear hb hg
            refine hK.out _ _ ⟨H.out.cell 2 rfl, (HAT.out _ H.out.below).2⟩ (fun hHeld => ?_)
            clear hK K
            apply nm 0
            refine two_ (i := 5) (j := 9) (Ni := some 60) (Nj := some 15) (bq 13 1087) (bq 13 1567) rfl rfl rfl rfl (two_of HT_.out (by kernel_rfl)) (by decide) (by decide) (fun K hK => ?_) (fun K hK => ?_)
            · refine gs Try.func26 #[modV id m u b c z s me o a l (.slice B1 m1 j1) (.slice B2 m2 j2) (.slice B3 m3 j3), cmdV (rd_T65 xs j).f0 (rd_T65 xs j).f1 (rd_T65 xs j).f2 (rd_T65 xs j).f3 (.slice A4 lx c4) (rd_T65 xs j).f5] ?_
              refine (HD.out _ (MC_R (H.out.fact 1 rfl)) (HAT.out _ H.out.below).1).mono ?_
              rintro e W63 hP
              obtain ⟨B51, m51, j51, B52, m52, j52, B53, m53, j53, B54, m54, j54, rfl, hM, hB, hb⟩ := RepP_open hP
              clear hP
              refine ⟨_, rfl, ?_⟩
              have hb0_ := H.out.below.size; replace H := Lib.hid ((H.out.called hb).row (MrF w.heap.size (.slice B51 m51 j51) (.slice B52 m52 j52) (.slice B53 m53 j53) (N)) (MD_R hM ((H.out.called hb).fact 1 rfl) H.out.below.size))
              replace H := Lib.hid ((H.out).row (BytF (.slice B54 m54 j54) (bytesOf dt)) (hB))
              clear hb0_
              replace b0 := Lib.hid (below_step b0.out hb)
              clear hM hB
              clear hb
              refine hK.out _ _ ⟨H.out.cell 2 rfl, (HAT.out _ H.out.below).2⟩ (fun hHeld => ?_)
              clear hK K
              apply nm 0
              apply pu 6 54 (bq 13 1151) HT_
              apply pu 7 61 (bq 13 1279) HT_
              apply pu 8 62 (bq 13 1535) HT_
              apply on 9 (some 15) (bq 13 2047) HT_; intro K hK
              obtain ⟨-, cP, cQ, cM, cX, cC⟩ := n5_ H
              apply bhs H 15 (mL 0 0 0 0 0 0 0 0 0 0 0 nil_ nil_ nil_) 53
              clear H cP cQ cM cX cC
              intro gU W64 hg hb H
              have GU := Lib.hid (Nat.le_trans b0.out.size hg)
              replace b0 := Lib.hid (below_step b0.out hb)
              clear hb hg
              refine hK.out _ _ ⟨H.out.cell 3 rfl, (HAT.out _ H.out.below).2⟩ (fun hHeld => ?_)
              clear hK K
              apply nm 0
              have hn_UP := H.out.dist 0 1 rfl rfl (by decide)
              exact norm_ (by simp only [putAll, Act.put, List.setIfInBounds_toArray, List.set_cons_zero, List.set_cons_succ]) (hCont (B51, m51, j51, B52, m52, j52, B53, m53, j53, B54, m54, j54, gU, gP) _ ⟨hHeld, b0.out, H.out.at_ 0 rfl, H.out.at_ 1 rfl, GU.out, GP.out, hn_UP, H.out.fact 0 rfl, H.out.fact 1 rfl⟩)
            · obtain ⟨-, cP, cQ, cM, cX, cC⟩ := n5_ H
              apply bhs H 15 (mL 0 0 0 0 0 0 0 0 0 0 0 nil_ nil_ nil_) 53
              clear H cP cQ cM cX cC
              intro gU W63 hg hb H
              have GU := Lib.hid (Nat.le_trans b0.out.size hg)
              replace b0 := Lib.hid (below_step b0.out hb)
              clear hb hg
              refine hK.out _ _ ⟨H.out.cell 3 rfl, (HAT.out _ H.out.below).2⟩ (fun hHeld => ?_)
              clear hK K
              apply nm 0
              apply on 5 (some 60) (bq 13 1599) HT_; intro K hK
              refine gs Try.func26 #[modV id m u b c z s me o a l (.slice B1 m1 j1) (.slice B2 m2 j2) (.slice B3 m3 j3), cmdV (rd_T65 xs j).f0 (rd_T65 xs j).f1 (rd_T65 xs j).f2 (rd_T65 xs j).f3 (.slice A4 lx c4) (rd_T65 xs j).f5] ?_
              refine (HD.out _ (MC_R (H.out.fact 1 rfl)) (HAT.out _ H.out.below).1).mono ?_
              rintro e W64 hP
              obtain ⟨B51, m51, j51, B52, m52, j52, B53, m53, j53, B54, m54, j54, rfl, hM, hB, hb⟩ := RepP_open hP
              clear hP
              refine ⟨_, rfl, ?_⟩
              have hb0_ := H.out.below.size; replace H := Lib.hid ((H.out.called hb).row (MrF w.heap.size (.slice B51 m51 j51) (.slice B52 m52 j52) (.slice B53 m53 j53) (N)) (MD_R hM ((H.out.called hb).fact 1 rfl) H.out.below.size))
              replace H := Lib.hid ((H.out).row (BytF (.slice B54 m54 j54) (bytesOf dt)) (hB))
              clear hb0_
              replace b0 := Lib.hid (below_step b0.out hb)
              clear hM hB
              clear hb
              refine hK.out _ _ ⟨H.out.cell 3 rfl, (HAT.out _ H.out.below).2⟩ (fun hHeld => ?_)
              clear hK K
              apply nm 0
              apply pu 6 54 (bq 13 1663) HT_
              apply pu 7 61 (bq 13 1791) HT_
              apply pu 8 62 (bq 13 2047) HT_
              have hn_UP := H.out.dist 0 1 rfl rfl (by decide)
              exact norm_ (by simp only [putAll, Act.put, List.setIfInBounds_toArray, List.set_cons_zero, List.set_cons_succ]) (hCont (B51, m51, j51, B52, m52, j52, B53, m53, j53, B54, m54, j54, gU, gP) _ ⟨hHeld, b0.out, H.out.at_ 0 rfl, H.out.at_ 1 rfl, GU.out, GP.out, hn_UP, H.out.fact 0 rfl, H.out.fact 1 rfl⟩)
        rintro ⟨B51, m51, j51, B52, m52, j52, B53, m53, j53, B54, m54, j54, gU, gP⟩ W115 ⟨hHeld, hb, hU, hP, hGU, hGP, hnUP, hrV5, hrG5⟩
        (try dsimp only at hHeld hU hP hGU hGP hnUP hrV5 hrG5 ⊢)
        replace H := Lib.hid (H.out.join2 hb hU hGU hP hGP hnUP)
        replace H := Lib.hid (H.out.row (MrF w.heap.size (.slice B51 m51 j51) (.slice B52 m52 j52) (.slice B53 m53 j53) (N)) hrG5)
        replace H := Lib.hid (H.out.row (BytF (.slice B54 m54 j54) (bytesOf dt)) hrV5)
        clear b0 hb hU hP hGU hGP hnUP hrV5 hrG5
        refine norm_ (a' := ?_) ?_ ?_
        rotate_left
        · simp only [putAll, Act.put, List.setIfInBounds_toArray, List.set_cons_zero, List.set_cons_succ]
          rfl
        apply on 11 none (bq 13 4095) HT_; intro K hK
        obtain ⟨-, cU, cP, cQ, cM, cX, cC⟩ := n6_ H
        apply shs H 0 53 15 gU (mL id m u b c z s me o a l (.slice B51 m51 j51) (.slice B52 m52 j52) (.slice B53 m53 j53))
        clear H cU cP cQ cM cX cC
        intro W116 K_
        have H := (n6_ K_).1; clear K_
        refine hK.out _ _ ⟨H.out.cell 3 rfl, (HAT.out _ H.out.below).2⟩ (fun hHeld => ?_)
        clear hK K
        apply on 12 none (bq 13 8191) HT_; intro K hK
        obtain ⟨-, cU, cP, cQ, cM, cX, cC⟩ := n6_ H
        apply shs H 1 61 16 gP (rL E (.slice B54 m54 j54) zz.f0 zz.f1 zz.f2)
        clear H cU cP cQ cM cX cC
        intro W117 K_
        have H := (n6_ K_).1; clear K_
        refine hK.out _ _ ⟨H.out.cell 3 rfl, (HAT.out _ H.out.below).2⟩ (fun hHeld => ?_)
        clear hK K
        refine done_ (done_of HT_.out (by kernel_rfl)) ?_
        obtain ⟨-, cU, cP, cQ, cM, cX, cC⟩ := n6_ H
        go_wp2
        clear cU cP cQ cM cX cC
        refine start_ (n := 17) (S := fun W => (∀ j_, W.cell? ⟨gQ, j_, none⟩ = ((mL id m u b c z s me o a l (.slice Bd1 md1 jd1) (.slice Bd2 md2 jd2) (.slice Bd3 md3 jd3)).toArray : Array Value)[j_]?) ∧ (W.cell? (ad.add (j * 6)) = some (.int .i64 (rd_T65 xs j).f0) ∧ W.cell? ⟨(ad.add (j * 6)).block, (ad.add (j * 6)).off + 1, none⟩ = some (.int .i64 (rd_T65 xs j).f1) ∧ W.cell? ⟨(ad.add (j * 6)).block, (ad.add (j * 6)).off + 2, none⟩ = some (.int .i64 (rd_T65 xs j).f2) ∧ W.cell? ⟨(ad.add (j * 6)).block, (ad.add (j * 6)).off + 3, none⟩ = some (.int .i64 (rd_T65 xs j).f3) ∧ W.cell? ⟨(ad.add (j * 6)).block, (ad.add (j * 6)).off + 4, none⟩ = some (.slice A4 lx c4) ∧ W.cell? ⟨(ad.add (j * 6)).block, (ad.add (j * 6)).off + 5, none⟩ = some (.bool (rd_T65 xs j).f5))) (ds := []) (bq 17 0) (by kernel_rfl) rfl (by kernel_rfl) ⟨H.out.drew.cell 2 rfl, (HAT.out _ (H.out.drew).below).2⟩ (fun hHeld => ?_)
        refine with_tabW tab_revetmentlaw18_ModelAdopts_9 bits_revetmentlaw18_ModelAdopts_9 (fun HT_ HW_ => ?_)
        have zH := H.out.drew
        generalize W117.drew = W118 at zH hHeld ⊢
        replace H := Lib.hid zH; clear zH
        apply tw 0 64 (bq 17 1) HT_ HW_ hHeld
        apply pu 1 65 (bq 17 3) HT_
        apply pu 2 66 (bq 17 7) HT_
        apply pu 3 67 (bq 17 15) HT_
        apply tw 4 68 (bq 17 31) HT_ HW_ hHeld
        have b0 := Lib.hid (Below.refl W118.heap.size W118)
        refine join_ (σ := Option Addr × Nat × Nat × Option Addr × Nat × Nat × Option Addr × Nat × Nat × Nat × Nat) 4 (bq 17 8191) (fun y => [(69, .tuple #[modV id m u b c z s me o a l (.slice y.1 y.2.1 y.2.2.1) (.slice y.2.2.2.1 y.2.2.2.2.1 y.2.2.2.2.2.1) (.slice y.2.2.2.2.2.2.1 y.2.2.2.2.2.2.2.1 y.2.2.2.2.2.2.2.2.1), .int .i64 E, .string dt, zoV zz]), (63, .tuple #[modV id m u b c z s me o a l (.slice y.1 y.2.1 y.2.2.1) (.slice y.2.2.2.1 y.2.2.2.2.1 y.2.2.2.2.2.1) (.slice y.2.2.2.2.2.2.1 y.2.2.2.2.2.2.2.1 y.2.2.2.2.2.2.2.2.1), .int .i64 E, .string dt, zoV zz]), (70, modV id m u b c z s me o a l (.slice y.1 y.2.1 y.2.2.1) (.slice y.2.2.2.1 y.2.2.2.2.1 y.2.2.2.2.2.1) (.slice y.2.2.2.2.2.2.1 y.2.2.2.2.2.2.2.1 y.2.2.2.2.2.2.2.2.1)), (71, .int .i64 E), (72, .string dt), (73, zoV zz), (17, .pointer (some ⟨y.2.2.2.2.2.2.2.2.2.1, 0, none⟩)), (20, .pointer (some ⟨y.2.2.2.2.2.2.2.2.2.2, 0, none⟩))]) (fun y W => ((∀ j_, W.cell? ⟨gQ, j_, none⟩ = ((mL id m u b c z s me o a l (.slice Bd1 md1 jd1) (.slice Bd2 md2 jd2) (.slice Bd3 md3 jd3)).toArray : Array Value)[j_]?) ∧ (W.cell? (ad.add (j * 6)) = some (.int .i64 (rd_T65 xs j).f0) ∧ W.cell? ⟨(ad.add (j * 6)).block, (ad.add (j * 6)).off + 1, none⟩ = some (.int .i64 (rd_T65 xs j).f1) ∧ W.cell? ⟨(ad.add (j * 6)).block, (ad.add (j * 6)).off + 2, none⟩ = some (.int .i64 (rd_T65 xs j).f2) ∧ W.cell? ⟨(ad.add (j * 6)).block, (ad.add (j * 6)).off + 3, none⟩ = some (.int .i64 (rd_T65 xs j).f3) ∧ W.cell? ⟨(ad.add (j * 6)).block, (ad.add (j * 6)).off + 4, none⟩ = some (.slice A4 lx c4) ∧ W.cell? ⟨(ad.add (j * 6)).block, (ad.add (j * 6)).off + 5, none⟩ = some (.bool (rd_T65 xs j).f5))) ∧ Below W118.heap.size W118 W ∧ W.heap[y.2.2.2.2.2.2.2.2.2.1]? = some (.cells (mL 0 0 0 0 0 0 0 0 0 0 0 nil_ nil_ nil_).toArray 68 (0, 0)) ∧ W.heap[y.2.2.2.2.2.2.2.2.2.2]? = some (.cells (oL 0 0 0).toArray 59 (0, 0)) ∧ W118.heap.size ≤ y.2.2.2.2.2.2.2.2.2.1 ∧ W118.heap.size ≤ y.2.2.2.2.2.2.2.2.2.2 ∧ y.2.2.2.2.2.2.2.2.2.1 ≠ y.2.2.2.2.2.2.2.2.2.2 ∧ (MrF w.heap.size (.slice y.1 y.2.1 y.2.2.1) (.slice y.2.2.2.1 y.2.2.2.2.1 y.2.2.2.2.2.1) (.slice y.2.2.2.2.2.2.1 y.2.2.2.2.2.2.2.1 y.2.2.2.2.2.2.2.2.1) (N)).P W ∧ Value.ownBlock (.slice y.1 y.2.1 y.2.2.1) ≠ some y.2.2.2.2.2.2.2.2.2.2 ∧ Value.ownBlock (.slice B51 m51 j51) ≠ some y.2.2.2.2.2.2.2.2.2.2 ∧ Value.ownBlock (.slice Bd1 md1 jd1) ≠ some y.2.2.2.2.2.2.2.2.2.2 ∧ Value.ownBlock (.slice B1 m1 j1) ≠ some y.2.2.2.2.2.2.2.2.2.2) ?_ ?_
        rotate_left
        · intro hCont
          refine three_ (i := 5) (j := 11) (k := 12) (Ni := some 69) (Nj := some 17) (Nk := some 20) (bq 17 63) (bq 17 2079) (bq 17 4127) rfl rfl rfl rfl rfl rfl (three_of HT_.out (by kernel_rfl)) (by decide) (by decide) (by decide) (fun K hK => ?_) (fun K hK => ?_) (fun K hK => ?_)
          · refine gs Try.func28 #[modV id m u b c z s me o a l (.slice Bd1 md1 jd1) (.slice Bd2 md2 jd2) (.slice Bd3 md3 jd3), cmdV (rd_T65 xs j).f0 (rd_T65 xs j).f1 (rd_T65 xs j).f2 (rd_T65 xs j).f3 (.slice A4 lx c4) (rd_T65 xs j).f5] ?_
            refine (HRD.out _ (MC_R (H.out.fact 2 rfl)) (HAT.out _ H.out.below).1).mono ?_
            rintro e W119 hP
            obtain ⟨B61, m61, j61, B62, m62, j62, B63, m63, j63, rfl, hM, hb⟩ := RsP_open hP
            clear hP
            refine ⟨_, rfl, ?_⟩
            replace H := Lib.hid ((H.out.called hb).row (MrF w.heap.size (.slice B61 m61 j61) (.slice B62 m62 j62) (.slice B63 m63 j63) (N)) (MD_R hM ((H.out.called hb).fact 2 rfl) H.out.below.size))
            replace b0 := Lib.hid (below_step b0.out hb)
            clear hM
            clear hb
            refine hK.out _ _ ⟨H.out.cell 2 rfl, (HAT.out _ H.out.below).2⟩ (fun hHeld => ?_)
            clear hK K
            apply nm 0
            apply pu 6 63 (bq 17 127) HT_
            apply pu 7 70 (bq 17 255) HT_
            apply pu 8 71 (bq 17 511) HT_
            apply pu 9 72 (bq 17 1023) HT_
            apply pu 10 73 (bq 17 2047) HT_
            refine two_ (i := 11) (j := 12) (Ni := some 17) (Nj := some 20) (bq 17 4095) (bq 17 6143) rfl rfl rfl rfl (two_of HT_.out (by kernel_rfl)) (by decide) (by decide) (fun K hK => ?_) (fun K hK => ?_)
            · obtain ⟨-, cU, cP, cQ, cM, cX, cC⟩ := n6_ H
              apply bhs H 17 (mL 0 0 0 0 0 0 0 0 0 0 0 nil_ nil_ nil_) 68
              clear H cU cP cQ cM cX cC
              intro gV W120 hg hb H
              have GV := Lib.hid (Nat.le_trans b0.out.size hg)
              replace b0 := Lib.hid (below_step b0.out hb)
              clear hb hg
              refine hK.out _ _ ⟨H.out.cell 3 rfl, (HAT.out _ H.out.below).2⟩ (fun hHeld => ?_)
              clear hK K
              apply nm 0
              apply on 12 (some 20) (bq 17 8191) HT_; intro K hK
              obtain ⟨-, cV, cU, cP, cQ, cM, cX, cC⟩ := n7_ H
              apply bhs H 20 (oL 0 0 0) 59
              have HO_ := H
              clear H cV cU cP cQ cM cX cC
              intro gZ W121 hg hb H
              have n_Z_K6 := Lib.hid (mrf_lt (HO_.out.fact 0 rfl) hg)
              have n_Z_G5 := Lib.hid (mrf_lt (HO_.out.fact 2 rfl) hg)
              have n_Z_Kd := Lib.hid (mrf_lt (HO_.out.fact 3 rfl) hg)
              have n_Z_G0 := Lib.hid (mrf_lt (HO_.out.fact 4 rfl) hg)
              clear HO_
              have GZ := Lib.hid (Nat.le_trans b0.out.size hg)
              replace b0 := Lib.hid (below_step b0.out hb)
              clear hb hg
              refine hK.out _ _ ⟨H.out.cell 4 rfl, (HAT.out _ H.out.below).2⟩ (fun hHeld => ?_)
              clear hK K
              apply nm 0
              have hn_VZ := (H.out.dist 0 1 rfl rfl (by decide)).symm
              exact norm_ (by simp only [putAll, Act.put, List.setIfInBounds_toArray, List.set_cons_zero, List.set_cons_succ]) (hCont (B61, m61, j61, B62, m62, j62, B63, m63, j63, gV, gZ) _ ⟨hHeld, b0.out, H.out.at_ 1 rfl, H.out.at_ 0 rfl, GV.out, GZ.out, hn_VZ, H.out.fact 0 rfl, n_Z_K6.out, n_Z_G5.out, n_Z_Kd.out, n_Z_G0.out⟩)
            · obtain ⟨-, cU, cP, cQ, cM, cX, cC⟩ := n6_ H
              apply bhs H 20 (oL 0 0 0) 59
              have HO_ := H
              clear H cU cP cQ cM cX cC
              intro gZ W120 hg hb H
              have n_Z_K6 := Lib.hid (mrf_lt (HO_.out.fact 0 rfl) hg)
              have n_Z_G5 := Lib.hid (mrf_lt (HO_.out.fact 2 rfl) hg)
              have n_Z_Kd := Lib.hid (mrf_lt (HO_.out.fact 3 rfl) hg)
              have n_Z_G0 := Lib.hid (mrf_lt (HO_.out.fact 4 rfl) hg)
              clear HO_
              have GZ := Lib.hid (Nat.le_trans b0.out.size hg)
              replace b0 := Lib.hid (below_step b0.out hb)
              clear hb hg
              refine hK.out _ _ ⟨H.out.cell 3 rfl, (HAT.out _ H.out.below).2⟩ (fun hHeld => ?_)
              clear hK K
              apply nm 0
              apply on 11 (some 17) (bq 17 8191) HT_; intro K hK
              obtain ⟨-, cZ, cU, cP, cQ, cM, cX, cC⟩ := n7_ H
              apply bhs H 17 (mL 0 0 0 0 0 0 0 0 0 0 0 nil_ nil_ nil_) 68
              clear H cZ cU cP cQ cM cX cC
              intro gV W121 hg hb H
              have GV := Lib.hid (Nat.le_trans b0.out.size hg)
              replace b0 := Lib.hid (below_step b0.out hb)
              clear hb hg
              refine hK.out _ _ ⟨H.out.cell 4 rfl, (HAT.out _ H.out.below).2⟩ (fun hHeld => ?_)
              clear hK K
              apply nm 0
              have hn_VZ := H.out.dist 0 1 rfl rfl (by decide)
              exact norm_ (by simp only [putAll, Act.put, List.setIfInBounds_toArray, List.set_cons_zero, List.set_cons_succ]) (hCont (B61, m61, j61, B62, m62, j62, B63, m63, j63, gV, gZ) _ ⟨hHeld, b0.out, H.out.at_ 0 rfl, H.out.at_ 1 rfl, GV.out, GZ.out, hn_VZ, H.out.fact 0 rfl, n_Z_K6.out, n_Z_G5.out, n_Z_Kd.out, n_Z_G0.out⟩)
          · obtain ⟨-, cU, cP, cQ, cM, cX, cC⟩ := n6_ H
            apply bhs H 17 (mL 0 0 0 0 0 0 0 0 0 0 0 nil_ nil_ nil_) 68
            clear H cU cP cQ cM cX cC
            intro gV W119 hg hb H
            have GV := Lib.hid (Nat.le_trans b0.out.size hg)
            replace b0 := Lib.hid (below_step b0.out hb)
            clear hb hg
            refine hK.out _ _ ⟨H.out.cell 3 rfl, (HAT.out _ H.out.below).2⟩ (fun hHeld => ?_)
            clear hK K
            apply nm 0
            refine two_ (i := 5) (j := 12) (Ni := some 69) (Nj := some 20) (bq 17 2111) (bq 17 6175) rfl rfl rfl rfl (two_of HT_.out (by kernel_rfl)) (by decide) (by decide) (fun K hK => ?_) (fun K hK => ?_)
            · refine gs Try.func28 #[modV id m u b c z s me o a l (.slice Bd1 md1 jd1) (.slice Bd2 md2 jd2) (.slice Bd3 md3 jd3), cmdV (rd_T65 xs j).f0 (rd_T65 xs j).f1 (rd_T65 xs j).f2 (rd_T65 xs j).f3 (.slice A4 lx c4) (rd_T65 xs j).f5] ?_
              refine (HRD.out _ (MC_R (H.out.fact 2 rfl)) (HAT.out _ H.out.below).1).mono ?_
              rintro e W120 hP
              obtain ⟨B61, m61, j61, B62, m62, j62, B63, m63, j63, rfl, hM, hb⟩ := RsP_open hP
              clear hP
              refine ⟨_, rfl, ?_⟩
              replace H := Lib.hid ((H.out.called hb).row (MrF w.heap.size (.slice B61 m61 j61) (.slice B62 m62 j62) (.slice B63 m63 j63) (N)) (MD_R hM ((H.out.called hb).fact 2 rfl) H.out.below.size))
              replace b0 := Lib.hid (below_step b0.out hb)
              clear hM
              clear hb
              refine hK.out _ _ ⟨H.out.cell 3 rfl, (HAT.out _ H.out.below).2⟩ (fun hHeld => ?_)
              clear hK K
              apply nm 0
              apply pu 6 63 (bq 17 2175) HT_
              apply pu 7 70 (bq 17 2303) HT_
              apply pu 8 71 (bq 17 2559) HT_
              apply pu 9 72 (bq 17 3071) HT_
              apply pu 10 73 (bq 17 4095) HT_
              apply on 12 (some 20) (bq 17 8191) HT_; intro K hK
              obtain ⟨-, cV, cU, cP, cQ, cM, cX, cC⟩ := n7_ H
              apply bhs H 20 (oL 0 0 0) 59
              have HO_ := H
              clear H cV cU cP cQ cM cX cC
              intro gZ W121 hg hb H
              have n_Z_K6 := Lib.hid (mrf_lt (HO_.out.fact 0 rfl) hg)
              have n_Z_G5 := Lib.hid (mrf_lt (HO_.out.fact 2 rfl) hg)
              have n_Z_Kd := Lib.hid (mrf_lt (HO_.out.fact 3 rfl) hg)
              have n_Z_G0 := Lib.hid (mrf_lt (HO_.out.fact 4 rfl) hg)
              clear HO_
              have GZ := Lib.hid (Nat.le_trans b0.out.size hg)
              replace b0 := Lib.hid (below_step b0.out hb)
              clear hb hg
              refine hK.out _ _ ⟨H.out.cell 4 rfl, (HAT.out _ H.out.below).2⟩ (fun hHeld => ?_)
              clear hK K
              apply nm 0
              have hn_VZ := (H.out.dist 0 1 rfl rfl (by decide)).symm
              exact norm_ (by simp only [putAll, Act.put, List.setIfInBounds_toArray, List.set_cons_zero, List.set_cons_succ]) (hCont (B61, m61, j61, B62, m62, j62, B63, m63, j63, gV, gZ) _ ⟨hHeld, b0.out, H.out.at_ 1 rfl, H.out.at_ 0 rfl, GV.out, GZ.out, hn_VZ, H.out.fact 0 rfl, n_Z_K6.out, n_Z_G5.out, n_Z_Kd.out, n_Z_G0.out⟩)
            · obtain ⟨-, cV, cU, cP, cQ, cM, cX, cC⟩ := n7_ H
              apply bhs H 20 (oL 0 0 0) 59
              have HO_ := H
              clear H cV cU cP cQ cM cX cC
              intro gZ W120 hg hb H
              have n_Z_G5 := Lib.hid (mrf_lt (HO_.out.fact 1 rfl) hg)
              have n_Z_Kd := Lib.hid (mrf_lt (HO_.out.fact 2 rfl) hg)
              have n_Z_G0 := Lib.hid (mrf_lt (HO_.out.fact 3 rfl) hg)
              clear HO_
              have GZ := Lib.hid (Nat.le_trans b0.out.size hg)
              replace b0 := Lib.hid (below_step b0.out hb)
              clear hb hg
              refine hK.out _ _ ⟨H.out.cell 4 rfl, (HAT.out _ H.out.below).2⟩ (fun hHeld => ?_)
              clear hK K
              apply nm 0
              apply on 5 (some 69) (bq 17 6207) HT_; intro K hK
              refine gs Try.func28 #[modV id m u b c z s me o a l (.slice Bd1 md1 jd1) (.slice Bd2 md2 jd2) (.slice Bd3 md3 jd3), cmdV (rd_T65 xs j).f0 (rd_T65 xs j).f1 (rd_T65 xs j).f2 (rd_T65 xs j).f3 (.slice A4 lx c4) (rd_T65 xs j).f5] ?_
              refine (HRD.out _ (MC_R (H.out.fact 2 rfl)) (HAT.out _ H.out.below).1).mono ?_
              rintro e W121 hP
              obtain ⟨B61, m61, j61, B62, m62, j62, B63, m63, j63, rfl, hM, hb⟩ := RsP_open hP
              clear hP
              have n_Z_K6 := Lib.hid (mrd_far hM n_Z_Kd.out (blk_lt (H.out.at_ 0 rfl)))
              refine ⟨_, rfl, ?_⟩
              replace H := Lib.hid ((H.out.called hb).row (MrF w.heap.size (.slice B61 m61 j61) (.slice B62 m62 j62) (.slice B63 m63 j63) (N)) (MD_R hM ((H.out.called hb).fact 2 rfl) H.out.below.size))
              replace b0 := Lib.hid (below_step b0.out hb)
              clear hM
              clear hb
              refine hK.out _ _ ⟨H.out.cell 4 rfl, (HAT.out _ H.out.below).2⟩ (fun hHeld => ?_)
              clear hK K
              apply nm 0
              apply pu 6 63 (bq 17 6271) HT_
              apply pu 7 70 (bq 17 6399) HT_
              apply pu 8 71 (bq 17 6655) HT_
              apply pu 9 72 (bq 17 7167) HT_
              apply pu 10 73 (bq 17 8191) HT_
              have hn_VZ := (H.out.dist 0 1 rfl rfl (by decide)).symm
              exact norm_ (by simp only [putAll, Act.put, List.setIfInBounds_toArray, List.set_cons_zero, List.set_cons_succ]) (hCont (B61, m61, j61, B62, m62, j62, B63, m63, j63, gV, gZ) _ ⟨hHeld, b0.out, H.out.at_ 1 rfl, H.out.at_ 0 rfl, GV.out, GZ.out, hn_VZ, H.out.fact 0 rfl, n_Z_K6.out, n_Z_G5.out, n_Z_Kd.out, n_Z_G0.out⟩)
          · obtain ⟨-, cU, cP, cQ, cM, cX, cC⟩ := n6_ H
            apply bhs H 20 (oL 0 0 0) 59
            have HO_ := H
            clear H cU cP cQ cM cX cC
            intro gZ W119 hg hb H
            have n_Z_G5 := Lib.hid (mrf_lt (HO_.out.fact 1 rfl) hg)
            have n_Z_Kd := Lib.hid (mrf_lt (HO_.out.fact 2 rfl) hg)
            have n_Z_G0 := Lib.hid (mrf_lt (HO_.out.fact 3 rfl) hg)
            clear HO_
            have GZ := Lib.hid (Nat.le_trans b0.out.size hg)
            replace b0 := Lib.hid (below_step b0.out hb)
            clear hb hg
            refine hK.out _ _ ⟨H.out.cell 3 rfl, (HAT.out _ H.out.below).2⟩ (fun hHeld => ?_)
            clear hK K
            apply nm 0
            refine two_ (i := 5) (j := 11) (Ni := some 69) (Nj := some 17) (bq 17 4159) (bq 17 6175) rfl rfl rfl rfl (two_of HT_.out (by kernel_rfl)) (by decide) (by decide) (fun K hK => ?_) (fun K hK => ?_)
            · refine gs Try.func28 #[modV id m u b c z s me o a l (.slice Bd1 md1 jd1) (.slice Bd2 md2 jd2) (.slice Bd3 md3 jd3), cmdV (rd_T65 xs j).f0 (rd_T65 xs j).f1 (rd_T65 xs j).f2 (rd_T65 xs j).f3 (.slice A4 lx c4) (rd_T65 xs j).f5] ?_
              refine (HRD.out _ (MC_R (H.out.fact 2 rfl)) (HAT.out _ H.out.below).1).mono ?_
              rintro e W120 hP
              obtain ⟨B61, m61, j61, B62, m62, j62, B63, m63, j63, rfl, hM, hb⟩ := RsP_open hP
              clear hP
              have n_Z_K6 := Lib.hid (mrd_far hM n_Z_Kd.out (blk_lt (H.out.at_ 0 rfl)))
              refine ⟨_, rfl, ?_⟩
              replace H := Lib.hid ((H.out.called hb).row (MrF w.heap.size (.slice B61 m61 j61) (.slice B62 m62 j62) (.slice B63 m63 j63) (N)) (MD_R hM ((H.out.called hb).fact 2 rfl) H.out.below.size))
              replace b0 := Lib.hid (below_step b0.out hb)
              clear hM
              clear hb
              refine hK.out _ _ ⟨H.out.cell 3 rfl, (HAT.out _ H.out.below).2⟩ (fun hHeld => ?_)
              clear hK K
              apply nm 0
              apply pu 6 63 (bq 17 4223) HT_
              apply pu 7 70 (bq 17 4351) HT_
              apply pu 8 71 (bq 17 4607) HT_
              apply pu 9 72 (bq 17 5119) HT_
              apply pu 10 73 (bq 17 6143) HT_
              apply on 11 (some 17) (bq 17 8191) HT_; intro K hK
              obtain ⟨-, cZ, cU, cP, cQ, cM, cX, cC⟩ := n7_ H
              apply bhs H 17 (mL 0 0 0 0 0 0 0 0 0 0 0 nil_ nil_ nil_) 68
              clear H cZ cU cP cQ cM cX cC
              intro gV W121 hg hb H
              have GV := Lib.hid (Nat.le_trans b0.out.size hg)
              replace b0 := Lib.hid (below_step b0.out hb)
              clear hb hg
              refine hK.out _ _ ⟨H.out.cell 4 rfl, (HAT.out _ H.out.below).2⟩ (fun hHeld => ?_)
              clear hK K
              apply nm 0
              have hn_VZ := H.out.dist 0 1 rfl rfl (by decide)
              exact norm_ (by simp only [putAll, Act.put, List.setIfInBounds_toArray, List.set_cons_zero, List.set_cons_succ]) (hCont (B61, m61, j61, B62, m62, j62, B63, m63, j63, gV, gZ) _ ⟨hHeld, b0.out, H.out.at_ 0 rfl, H.out.at_ 1 rfl, GV.out, GZ.out, hn_VZ, H.out.fact 0 rfl, n_Z_K6.out, n_Z_G5.out, n_Z_Kd.out, n_Z_G0.out⟩)
            · obtain ⟨-, cZ, cU, cP, cQ, cM, cX, cC⟩ := n7_ H
              apply bhs H 17 (mL 0 0 0 0 0 0 0 0 0 0 0 nil_ nil_ nil_) 68
              clear H cZ cU cP cQ cM cX cC
              intro gV W120 hg hb H
              have GV := Lib.hid (Nat.le_trans b0.out.size hg)
              replace b0 := Lib.hid (below_step b0.out hb)
              clear hb hg
              refine hK.out _ _ ⟨H.out.cell 4 rfl, (HAT.out _ H.out.below).2⟩ (fun hHeld => ?_)
              clear hK K
              apply nm 0
              apply on 5 (some 69) (bq 17 6207) HT_; intro K hK
              refine gs Try.func28 #[modV id m u b c z s me o a l (.slice Bd1 md1 jd1) (.slice Bd2 md2 jd2) (.slice Bd3 md3 jd3), cmdV (rd_T65 xs j).f0 (rd_T65 xs j).f1 (rd_T65 xs j).f2 (rd_T65 xs j).f3 (.slice A4 lx c4) (rd_T65 xs j).f5] ?_
              refine (HRD.out _ (MC_R (H.out.fact 2 rfl)) (HAT.out _ H.out.below).1).mono ?_
              rintro e W121 hP
              obtain ⟨B61, m61, j61, B62, m62, j62, B63, m63, j63, rfl, hM, hb⟩ := RsP_open hP
              clear hP
              have n_Z_K6 := Lib.hid (mrd_far hM n_Z_Kd.out (blk_lt (H.out.at_ 1 rfl)))
              refine ⟨_, rfl, ?_⟩
              replace H := Lib.hid ((H.out.called hb).row (MrF w.heap.size (.slice B61 m61 j61) (.slice B62 m62 j62) (.slice B63 m63 j63) (N)) (MD_R hM ((H.out.called hb).fact 2 rfl) H.out.below.size))
              replace b0 := Lib.hid (below_step b0.out hb)
              clear hM
              clear hb
              refine hK.out _ _ ⟨H.out.cell 4 rfl, (HAT.out _ H.out.below).2⟩ (fun hHeld => ?_)
              clear hK K
              apply nm 0
              apply pu 6 63 (bq 17 6271) HT_
              apply pu 7 70 (bq 17 6399) HT_
              apply pu 8 71 (bq 17 6655) HT_
              apply pu 9 72 (bq 17 7167) HT_
              apply pu 10 73 (bq 17 8191) HT_
              have hn_VZ := H.out.dist 0 1 rfl rfl (by decide)
              exact norm_ (by simp only [putAll, Act.put, List.setIfInBounds_toArray, List.set_cons_zero, List.set_cons_succ]) (hCont (B61, m61, j61, B62, m62, j62, B63, m63, j63, gV, gZ) _ ⟨hHeld, b0.out, H.out.at_ 0 rfl, H.out.at_ 1 rfl, GV.out, GZ.out, hn_VZ, H.out.fact 0 rfl, n_Z_K6.out, n_Z_G5.out, n_Z_Kd.out, n_Z_G0.out⟩)
        rintro ⟨B61, m61, j61, B62, m62, j62, B63, m63, j63, gV, gZ⟩ W172 ⟨hHeld, hb, hV, hZ, hGV, hGZ, hnVZ, hrK6, hf_Z_K6, hf_Z_G5, hf_Z_Kd, hf_Z_G0⟩
        (try dsimp only at hHeld hV hZ hGV hGZ hnVZ hrK6 hf_Z_K6 hf_Z_G5 hf_Z_Kd hf_Z_G0 ⊢)
        replace H := Lib.hid (H.out.join2 hb hV hGV hZ hGZ hnVZ)
        replace H := Lib.hid (H.out.row (MrF w.heap.size (.slice B61 m61 j61) (.slice B62 m62 j62) (.slice B63 m63 j63) (N)) hrK6)
        have n_Z_K6 := Lib.hid hf_Z_K6
        have n_Z_G5 := Lib.hid hf_Z_G5
        have n_Z_Kd := Lib.hid hf_Z_Kd
        have n_Z_G0 := Lib.hid hf_Z_G0
        clear b0 hb hV hZ hGV hGZ hnVZ hrK6 hf_Z_K6 hf_Z_G5 hf_Z_Kd hf_Z_G0
        refine norm_ (a' := ?_) ?_ ?_
        rotate_left
        · simp only [putAll, Act.put, List.setIfInBounds_toArray, List.set_cons_zero, List.set_cons_succ]
          rfl
        apply on 13 none (bq 17 16383) HT_; intro K hK
        obtain ⟨-, cV, cZ, cU, cP, cQ, cM, cX, cC⟩ := n8_ H
        apply shs H 0 68 17 gV (mL id m u b c z s me o a l (.slice B61 m61 j61) (.slice B62 m62 j62) (.slice B63 m63 j63))
        clear H cV cZ cU cP cQ cM cX cC
        intro W173 K_
        have H := (n8_ K_).1; clear K_
        refine hK.out _ _ ⟨H.out.cell 4 rfl, (HAT.out _ H.out.below).2⟩ (fun hHeld => ?_)
        clear hK K
        apply pu 14 18 (bq 17 32767) HT_
        apply pu 15 19 (bq 17 65535) HT_
        apply on 16 none (bq 17 131071) HT_; intro K hK
        obtain ⟨-, cV, cZ, cU, cP, cQ, cM, cX, cC⟩ := n8_ H
        apply shzs H 1 59 20 gZ (oL zz.f0 zz.f1 zz.f2) (fun w_ hw_ => fcons (mrf_set hw_ (H.out.fact 0 rfl) n_Z_K6.out (H.out.at_ 1 rfl)) (fcons (Fct.set _ hw_ (H.out.at_ 1 rfl) rfl (H.out.fact 1 rfl)) (fcons (mrf_set hw_ (H.out.fact 2 rfl) n_Z_G5.out (H.out.at_ 1 rfl)) (fcons (mrf_set hw_ (H.out.fact 3 rfl) n_Z_Kd.out (H.out.at_ 1 rfl)) (fcons (mrf_set hw_ (H.out.fact 4 rfl) n_Z_G0.out (H.out.at_ 1 rfl)) (fnil))))))
        clear H cV cZ cU cP cQ cM cX cC
        intro W174 K_
        have H := (n8_ K_).1; clear K_
        refine hK.out _ _ ⟨H.out.cell 4 rfl, (HAT.out _ H.out.below).2⟩ (fun hHeld => ?_)
        clear hK K
        refine done_ (done_of HT_.out (by kernel_rfl)) ?_
        obtain ⟨-, cV, cZ, cU, cP, cQ, cM, cX, cC⟩ := n8_ H
        go_wp2
        clear cV cZ cU cP cQ cM cX cC
        refine start_ (n := 4) (S := fun W => (∀ j_, W.cell? ⟨gU, j_, none⟩ = ((mL id m u b c z s me o a l (.slice B51 m51 j51) (.slice B52 m52 j52) (.slice B53 m53 j53)).toArray : Array Value)[j_]?) ∧ (∀ j_, W.cell? ⟨gV, j_, none⟩ = ((mL id m u b c z s me o a l (.slice B61 m61 j61) (.slice B62 m62 j62) (.slice B63 m63 j63)).toArray : Array Value)[j_]?)) (ds := []) (bq 4 0) (by kernel_rfl) rfl (by kernel_rfl) ⟨H.out.drew.cell 2 rfl, H.out.drew.cell 0 rfl⟩ (fun hHeld => ?_)
        refine with_tabW tab_revetmentlaw18_ModelAdopts_10 bits_revetmentlaw18_ModelAdopts_10 (fun HT_ HW_ => ?_)
        have zH := H.out.drew
        generalize W174.drew = W175 at zH hHeld ⊢
        replace H := Lib.hid zH; clear zH
        apply tw 0 74 (bq 4 1) HT_ HW_ hHeld
        apply tw 1 75 (bq 4 3) HT_ HW_ hHeld
        apply on 2 none (bq 4 7) HT_; intro K hK
        obtain ⟨-, cV, cZ, cU, cP, cQ, cM, cX, cC⟩ := n8_ H
        apply shs H 5 53 11 gM (mL id m u b c z s me o a l (.slice B51 m51 j51) (.slice B52 m52 j52) (.slice B53 m53 j53))
        clear H cV cZ cU cP cQ cM cX cC
        intro W176 K_
        have H := (n8_ K_).1; clear K_
        refine hK.out _ _ ⟨H.out.cell 2 rfl, H.out.cell 0 rfl⟩ (fun hHeld => ?_)
        clear hK K
        apply on 3 none (bq 4 15) HT_; intro K hK
        obtain ⟨-, cV, cZ, cU, cP, cQ, cM, cX, cC⟩ := n8_ H
        apply shs H 4 68 13 gQ (mL id m u b c z s me o a l (.slice B61 m61 j61) (.slice B62 m62 j62) (.slice B63 m63 j63))
        clear H cV cZ cU cP cQ cM cX cC
        intro W177 K_
        have H := (n8_ K_).1; clear K_
        refine hK.out _ _ ⟨H.out.cell 2 rfl, H.out.cell 0 rfl⟩ (fun hHeld => ?_)
        clear hK K
        refine done_ (done_of HT_.out (by kernel_rfl)) ?_
        obtain ⟨-, cV, cZ, cU, cP, cQ, cM, cX, cC⟩ := n8_ H
        go_wp2
        have H2 := (H.out.refs (fs' := [MrF w.heap.size (.slice B61 m61 j61) (.slice B62 m62 j62) (.slice B63 m63 j63) (N), MrF w.heap.size (.slice B51 m51 j51) (.slice B52 m52 j52) (.slice B53 m53 j53) (N)]) (by intro f hf; rcases List.mem_cons.1 hf with rfl | hf; exact H.out.fact 0 rfl; rcases List.mem_cons.1 hf with rfl | hf; exact H.out.fact 2 rfl; cases hf)).tail.tail.tail.tail
        exact ⟨⟨j + 1, N, B51, m51, j51, B52, m52, j52, B53, m53, j53, B61, m61, j61, B62, m62, j62, B63, m63, j63, rfl, by omega, HIN, HDN, Lib.hid H2⟩, by simp only [intOf]; push_cast; omega⟩
      · have c1 : ¬ (j : Int) < (n : Int) := by omega
        have HRX := Lib.hid (show D = runM id m u b c z s me o a l ⟨List.replicate z.toNat z59, List.replicate z.toNat ByteArray.empty, List.replicate z.toNat 0⟩ xs from HD0.out.trans (by rw [List.take_of_length_le (by rw [← HNX.out]; omega)]))
        obtain ⟨-, cQ, cM, cX, cC⟩ := n4_ H
        go_wp2
        go_meet
        exact ⟨D, B1, m1, j1, B2, m2, j2, B3, m3, j3, Bd1, md1, jd1, Bd2, md2, jd2, Bd3, md3, jd3, HI, HRX, H⟩
  case rest =>
    clear H cQ cM cX cC
    obtain ⟨D, B1, m1, j1, B2, m2, j2, B3, m3, j3, Bd1, md1, jd1, Bd2, md2, jd2, Bd3, md3, jd3, HI, HD0, H⟩ := hcut
    have hD := HD0.out; subst hD
    have e := HNB.out; subst e
    go_step
    exact HE.out (fun k => (#[.agg #[.int .i64 id, .int .i64 m, .int .i64 u, .int .i64 b, .int .i64 c, .int .i64 z, .int .i64 s, .int .i64 me, .int .i64 o, .int .i64 a, .int .i64 l], .slice Aa n ca, undef, .agg #[.int .i64 st, .int .i64 wp, .int .i64 gen], undef, .pointer (some ⟨gC, 0, none⟩), undef, undef, undef, undef, .bool false, undef, .int .i64 0, undef, u14, u15, u16, u17, u18, u19, u20, undef, undef, undef, undef, undef, undef, u27, u28, u29, u30, u31, u32, u33, u34, u35, u36, u37, u38, u39, u40, u41, u42, u43, u44, u45, u46, u47, u48, u49, u50, u51, u52, u53, u54, u55, u56, u57, u58, u59, u60, u61, u62, u63, u64, u65, u66, u67, u68, u69, u70, u71, u72, u73, u74, u75, u76, u77, u78, u79, u80, u81, u82, u83, u84, u85, u86, u87, u88, u89, u90, u91, u92, u93, u94, u95, u96, u97, u98, u99, u100, u101, u102, u103, u104, u105, u106, u107, u108, u109, u110, u111, u112, u113, u114, u115, u116, u117, u118] : Array Value).getD k undef) gC gX gM gQ wc B1 m1 j1 B2 m2 j2 B3 m3 j3 Bd1 md1 jd1 Bd2 md2 jd2 Bd3 md3 jd3 H
theorem adopts18_any (id m u b c z s me o a l : Int) (Aa : Option Addr) (ca : Nat) (xs : List S65) (w : World) (hr : Kd.C k65 w Aa xs.length xs) (hc : xs.length ≤ ca) (zi : Int) (zn : S59) (Ab : Option Addr) (cb : Nat) (db : List Int) (hbr : Kd.C (Kd.int .u8) w Ab db.length db) (hbc : db.length ≤ cb) :
    Calls Try.prog 6 #[.agg #[.int .i64 id, .int .i64 m, .int .i64 u, .int .i64 b, .int .i64 c, .int .i64 z, .int .i64 s, .int .i64 me, .int .i64 o, .int .i64 a, .int .i64 l], .slice Aa xs.length ca, .int .i64 zi, zoV zn, .slice Ab db.length cb] w fun e w' => e = .returned (.bool true) ∧ Below w.heap.size w w' := by
  by_cases hk : checkC id m u b c z s me o a l = 0
  · obtain ⟨B, hB, hm⟩ := much_any id m u b c z s me o a l Aa ca xs w hr hc
    cases B
    · by_cases h8 : 8000 < db.length
      · exact adopts18_big id m u b c z s me o a l Aa ca xs w hr hc zi zn Ab cb db hbr hbc hk hm h8
      · refine adopts18_go id m u b c z s me o a l Aa ca xs w hr hc zi zn Ab cb db hbr hbc hk hm (hB rfl) h8 ?_
        by_cases he : (adoptM id m u b c z s me o a l (runM id m u b c z s me o a l ⟨List.replicate z.toNat z59, List.replicate z.toNat ByteArray.empty, List.replicate z.toNat 0⟩ xs) zi zn db).2 = 0
        · exact ad_ok id m u b c z s me o a l w zi zn.f0 zn.f1 zn.f2 Ab cb db _ (run_inv id m u b c z s me o a l hk xs).1 hbr hbc he
        · exact ad_er id m u b c z s me o a l w zi zn.f0 zn.f1 zn.f2 Ab cb db _ (run_inv id m u b c z s me o a l hk xs).1 hbr hbc he
    · exact adopts18_much id m u b c z s me o a l Aa ca xs w hr hc zi zn Ab cb db hbr hbc hk hm
  · exact adopts18_no id m u b c z s me o a l Aa ca xs w hr hc zi zn Ab cb db hbr hbc hk
end Go.Proofs.Ytgckcaoncjhgbaa
