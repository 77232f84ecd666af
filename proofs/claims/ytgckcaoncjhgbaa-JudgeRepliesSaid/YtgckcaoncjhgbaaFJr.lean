/- judge.Reply, revetmentref24.Is. -/
/- The walk of revetmentlaw29.JudgeReplies. -/
/- revetmentlaw29.JudgeReplies answers true: for all settings, commands, replies. -/
import Derived.WalkKit
import Derived.WalkSpells
import Derived.WalkLawsBesides
import Derived.Lib.Hide
import Derived.Test.YtgckcaoncjhgbaaFGw
import Derived.Test.YtgckcaoncjhgbaaFMe
import Derived.Test.YtgckcaoncjhgbaaFJa
import Derived.Test.YtgckcaoncjhgbaaFJl
import Derived.Test.YtgckcaoncjhgbaaFJf
namespace Go.Proofs.Ytgckcaoncjhgbaa
open Go.RowKit Go.Proofs.Ytgckcaoncjhgbaa.PL Go.Proofs.YtgckcaoncjhgbaaW.PrintWords Go.Proofs.YtgckcaoncjhgbaaW.PrintLast
set_option linter.unusedVariables false
set_option linter.unusedSimpArgs false
attribute [local go_sem] List.getElem?_toArray List.getElem?_cons_succ List.getElem?_cons_zero mL tL cL xL rL oL
attribute [local go_sem high] eqZ_any
set_option maxHeartbeats 4000000 in
set_option maxRecDepth 100000 in
theorem jreply_any (id m u b c z s me o a l : Int) (x y q : Value) (D : Mdl) (kd i p n : Int) (Ad : Option Addr) (kdd : Nat) (d : List Int) (f : Bool) (er : Int) (yv : Value) (sy : ByteArray) (y0 y1 y2 : Int) (w : World) (h : MC w x y q D) (hi : MInv id m u b c z s me o a l D) (hd : Kd.C (Kd.int .u8) w Ad d.length d) (hdk : d.length ≤ kdd) (hcv : ∀ W', Below w.heap.size w W' → (convert 57 9 yv).run Try.prog W' = .ok (.string sy) W') : Calls Try.prog 44 #[modV id m u b c z s me o a l x y q, cmdV kd i p n (.slice Ad d.length kdd) f, .agg #[.int .i64 er, yv, .int .i64 y0, .int .i64 y1, .int .i64 y2]] w fun e w' => e = .returned (.bool (er == (doM id m u b c z s me o a l D (⟨kd, i, p, n, d, f⟩ : S65)).2.1 && ((sy.toList == (doM id m u b c z s me o a l D (⟨kd, i, p, n, d, f⟩ : S65)).2.2.1.toList) && (y0 == (doM id m u b c z s me o a l D (⟨kd, i, p, n, d, f⟩ : S65)).2.2.2.f0 && (y1 == (doM id m u b c z s me o a l D (⟨kd, i, p, n, d, f⟩ : S65)).2.2.2.f1 && (y2 == (doM id m u b c z s me o a l D (⟨kd, i, p, n, d, f⟩ : S65)).2.2.2.f2)))))) ∧ Below w.heap.size w w' := by
  have hdo := fun x y q W h hd => mdo_any id m u b c z s me o a l x y q D kd i p n Ad kdd d f W h hi hd hdk
  generalize doM id m u b c z s me o a l D (⟨kd, i, p, n, d, f⟩ : S65) = r at hdo ⊢
  obtain ⟨N, E, dt, zz⟩ := r
  dsimp only at hdo ⊢
  obtain ⟨V, hV⟩ : ∃ V, V = (er == E && ((sy.toList == dt.toList) && (y0 == zz.f0 && (y1 == zz.f1 && (y2 == zz.f2))))) := ⟨_, rfl⟩
  rw [← hV]
  obtain ⟨bt, hbt⟩ : ∃ t, t = (sy.toList == dt.toList) := ⟨_, rfl⟩
  rw [← hbt] at hV
  have hcs : (¬ er = E ∧ V = false) ∨ (er = E ∧ bt = false ∧ V = false) ∨ (er = E ∧ bt = true ∧ V = (y0 == zz.f0 && (y1 == zz.f1 && (y2 == zz.f2)))) := by
    rw [hV]
    by_cases h : er = E
    · cases bt <;> simp [h]
    · simp [h]
  have HBT := Lib.hid hbt; clear hV hbt
  obtain ⟨A1, A2, A3, n1, n2, n3, k1, k2, k3, rfl, rfl, rfl, hn1, hn2, hn3, hC1, hC2, hC3, hk1, hk2, hk3, hrt, hL1, hLp, hlT, hlS, hcb⟩ := mc_open h hi
  have heq := fun v1 v2 W h1 h2 => equal_any v1 v2 sy dt W h1 h2
  rw [← HBT.out] at heq
  have HMC := Lib.hid h; have HD := Lib.hid hd; have HDO := Lib.hid hdo; have HCV := Lib.hid hcv; have HEQ := Lib.hid heq; clear hdo hd hcv heq
  clear h hi hcb hrt hL1 hLp hlT hlS hn1 hn2 hn3 hk1 hk2 hk3 hC1 hC2 hC3
  rcases hcs with ⟨h1, hv⟩ | ⟨h1, rfl, hv⟩ | ⟨h1, rfl, hv⟩ <;> (
    have HV := Lib.hid hv; clear hv
    (try have bh1 : (er == E) = true := beq_iff_eq.mpr h1)
    (try have bh1 : (er == E) = false := beq_eq_false_iff_ne.mpr h1)
    (try have dh1 : (er != E) = false := bne_eq_false_iff_eq.mpr h1)
    (try have dh1 : (er != E) = true := bne_iff_ne.mpr h1)
    (try have Hh1 := Lib.hid h1)
    (try clear h1)
    have H := Lib.hid (Pk.start w)
    go_enter Try.func44, Try.ntmps44
    go_wp2_with first
      | (apply bh H 3 (mL id m u b c z s me o a l (.slice A1 n1 k1) (.slice A2 n2 k2) (.slice A3 n3 k3)) 53; clear H; intro gM W1 H; obtain ⟨-, cM⟩ := n1_ H)
      | (apply bh H 4 (xL kd i p n (.slice Ad d.length kdd) f) 65; clear H cM; intro gX W2 H; obtain ⟨-, cX, cM⟩ := n2_ H)
      | (apply bh H 5 (rL er yv y0 y1 y2) 61; clear H cX cM; intro gY W3 H; obtain ⟨-, cY, cX, cM⟩ := n3_ H)
      | (go_at_call 26; refine (HDO.out _ _ _ _ (MC_below HMC.out H.out.below) (Kd.C_below HD.out H.out.below)).mono ?_; rintro e W4 hP; obtain ⟨B51, m51, j51, B52, m52, j52, B53, m53, j53, B54, m54, j54, rfl, hM, hB, hb⟩ := RepP_open hP; clear hP; clear cY cX cM; replace H := Lib.hid ((H.out.called hb).row (BytF (.slice B54 m54 j54) (bytesOf dt)) hB); clear hb hM hB; obtain ⟨-, cY, cX, cM⟩ := n3_ H)
      | (apply bh H 7 (mL 0 0 0 0 0 0 0 0 0 0 0 nil_ nil_ nil_) 53; clear H cY cX cM; intro gN W5 H; obtain ⟨-, cN, cY, cX, cM⟩ := n4_ H)
      | (apply bh H 8 (rL 0 nil_ 0 0 0) 61; clear H cN cY cX cM; intro gP W6 H; obtain ⟨-, cP, cN, cY, cX, cM⟩ := n5_ H)
      | (apply sh H 1 53 7 gN (mL id m u b c z s me o a l (.slice B51 m51 j51) (.slice B52 m52 j52) (.slice B53 m53 j53)); clear H cP cN cY cX cM; intro W7 K_; obtain ⟨H, cP, cN, cY, cX, cM⟩ := n5_ K_; clear K_)
      | (apply sh H 0 61 8 gP (rL E (.slice B54 m54 j54) zz.f0 zz.f1 zz.f2); clear H cP cN cY cX cM; intro W8 K_; obtain ⟨H, cP, cN, cY, cX, cM⟩ := n5_ K_; clear K_)
      | (go_at_call 90; refine (HEQ.out _ _ _ (HCV.out _ H.out.below) (by have h := BR_string (H.out.fact 0 rfl); rw [strOf_bytesOf] at h; exact h)).mono ?_; rintro e W9 ⟨rfl, hb⟩; clear cP cN cY cX cM; replace H := pc H hb; clear hb; obtain ⟨-, cP, cN, cY, cX, cM⟩ := n5_ H)
    go_ret
    refine ⟨?_, H.out.below⟩
    rw [HV.out]; try rfl)
set_option maxHeartbeats 4000000 in
set_option maxRecDepth 100000 in
theorem is_any (er : Int) (yv : Value) (sy : ByteArray) (y0 y1 y2 : Int) (E z0 z1 z2 : Int) (dt : ByteArray) (w : World) (hcv : ∀ W', Below w.heap.size w W' → (convert 57 9 yv).run Try.prog W' = .ok (.string sy) W') : Calls Try.prog 45 #[.agg #[.int .i64 er, yv, .int .i64 y0, .int .i64 y1, .int .i64 y2], .agg #[.int .i64 E, .string dt, .int .i64 z0, .int .i64 z1, .int .i64 z2]] w fun e w' => e = .returned (.bool (er == E && ((sy.toList == dt.toList) && (y0 == z0 && (y1 == z1 && (y2 == z2)))))) ∧ Below w.heap.size w w' := by
  obtain ⟨V, hV⟩ : ∃ V, V = (er == E && ((sy.toList == dt.toList) && (y0 == z0 && (y1 == z1 && (y2 == z2))))) := ⟨_, rfl⟩
  rw [← hV]
  obtain ⟨bt, hbt⟩ : ∃ t, t = (sy.toList == dt.toList) := ⟨_, rfl⟩
  rw [← hbt] at hV
  have hcs : (¬ er = E ∧ V = false) ∨ (er = E ∧ bt = false ∧ V = false) ∨ (er = E ∧ bt = true ∧ V = (y0 == z0 && (y1 == z1 && (y2 == z2)))) := by
    rw [hV]
    by_cases h : er = E
    · cases bt <;> simp [h]
    · simp [h]
  have HBT := Lib.hid hbt; clear hV hbt
  have HCV := Lib.hid hcv; clear hcv
  rcases hcs with ⟨h1, hv⟩ | ⟨h1, rfl, hv⟩ | ⟨h1, rfl, hv⟩ <;> (
    have HV := Lib.hid hv; clear hv
    (try have bh1 : (er == E) = true := beq_iff_eq.mpr h1)
    (try have bh1 : (er == E) = false := beq_eq_false_iff_ne.mpr h1)
    (try have dh1 : (er != E) = false := bne_eq_false_iff_eq.mpr h1)
    (try have dh1 : (er != E) = true := bne_iff_ne.mpr h1)
    (try have Hh1 := Lib.hid h1)
    (try clear h1)
    have hbt := HBT.out.symm
    have H := Lib.hid (Pk.start w)
    go_enter Try.func45, Try.ntmps45
    go_wp2_with first
      | (apply bh H 2 (rL er yv y0 y1 y2) 61; clear H; intro gY W1 H; obtain ⟨-, cY⟩ := n1_ H; have cv := HCV.out W1 H.out.below)
      | (apply bh H 3 (rL E (.string dt) z0 z1 z2) 94; clear H cY cv; intro gQ W2 H; obtain ⟨-, cQ, cY⟩ := n2_ H; have cv := HCV.out W2 H.out.below)
    go_ret
    refine ⟨?_, H.out.below⟩
    rw [HV.out]; try rfl)
end Go.Proofs.Ytgckcaoncjhgbaa
namespace Go.Proofs.Ytgckcaoncjhgbaa
open Go.RowKit Go.Proofs.Ytgckcaoncjhgbaa.PL Go.Proofs.YtgckcaoncjhgbaaW.PrintWords Go.Proofs.YtgckcaoncjhgbaaW.PrintLast
set_option linter.unusedVariables false
set_option linter.unusedSimpArgs false
attribute [local go_sem] List.getElem?_toArray List.getElem?_cons_succ List.getElem?_cons_zero mL tL cL xL rL oL
def T_revetmentlaw29_JudgeReplies_7 : Bool × List (List Nat × List Nat) := (true, [([], []), ([], []), ([], []), ([0, 1, 2], [0, 1, 2]), ([], []), ([], []), ([], []), ([], []), ([5, 6, 7], [5, 6, 7]), ([4, 8, 3], [4, 8]), ([3, 9], [3, 9]), ([10, 9], [10]), ([11, 11], [11]), ([11, 12], [11, 12]), ([13, 12, 0, 1, 2, 3, 4, 5, 6, 7, 8, 9, 10, 11, 12, 13], [13])])
theorem tab_revetmentlaw29_JudgeReplies_7 : rtab .any (opsOf Try.f9 7) = T_revetmentlaw29_JudgeReplies_7 := by kernel_rfl
theorem bits_revetmentlaw29_JudgeReplies_7 : waitsOk T_revetmentlaw29_JudgeReplies_7.2 [0, 0, 0, 7, 0, 0, 0, 0, 224, 511, 1023, 2047, 4095, 8191, 16383] = true := by kernel_rfl
theorem do_small {id m u b c z s me o a l : Int} {D : Mdl} (hi : MInv id m u b c z s me o a l D) (x : S65) : (doM id m u b c z s me o a l D x).2.2.1.size ≤ 9223372036854775807 := by
  have h0 : ByteArray.empty.size ≤ 9223372036854775807 := by decide
  unfold doM
  split; exact h0
  split
  · unfold readM
    by_cases hr : readZ id m u b c z s me o a l D.L x.f1 x.f2 x.f3 = 0
    · rw [if_neg (by simp [hr])]
      obtain ⟨i0, i1, _⟩ := readZ_ok hi.1 hr
      have := text_small hi i0 (by rw [hi.2.1]; exact i1)
      show (ByteArray.extract _ _ _).size ≤ _
      rw [ByteArray.size_extract]; omega
    · rw [if_pos hr]; exact h0
  split; exact h0
  split; exact h0
  split; exact h0
  split; exact h0
  split; exact h0
  split
  · split <;> exact h0
  · exact h0
set_option maxHeartbeats 16000000 in
set_option maxRecDepth 100000 in
theorem replies_no (id m u b c z s me o a l : Int) (Aa : Option Addr) (ca nx : Nat) (kd i p n : Int) (Ad : Option Addr) (kdd : Nat) (d : List Int) (f : Bool) (er : Int) (Ay : Option Addr) (ky : Nat) (yd : List Int) (y0 y1 y2 : Int) (right : Bool) (D : Mdl) (w : World) (hd : Kd.C (Kd.int .u8) w Ad d.length d) (hdk : d.length ≤ kdd) (hy : Kd.C (Kd.int .u8) w Ay yd.length yd) (hyk : yd.length ≤ ky) (hbo : BothN id m u b c z s me o a l Aa ca nx w) : Calls Try.prog 9 #[.agg #[.int .i64 id, .int .i64 m, .int .i64 u, .int .i64 b, .int .i64 c, .int .i64 z, .int .i64 s, .int .i64 me, .int .i64 o, .int .i64 a, .int .i64 l], .slice Aa nx ca, cmdV kd i p n (.slice Ad d.length kdd) f, .agg #[.int .i64 er, .slice Ay yd.length ky, .int .i64 y0, .int .i64 y1, .int .i64 y2], .bool right] w fun e w' => e = .returned (.bool true) ∧ Below w.heap.size w w' := by
  have H := Lib.hid (Pk.start w)
  obtain ⟨ly, hly⟩ : ∃ n, n = yd.length := ⟨_, rfl⟩
  rw [← hly] at hy hyk ⊢
  have HBO := Lib.hid hbo; clear hbo hd hdk hy hyk hly
  go_enter Try.func9, Try.ntmps9
  go_wp2_with first
    | (apply bh H 5 (cL id m u b c z s me o a l) 23; clear H; intro gC W1 H; obtain ⟨-, cC⟩ := n1_ H)
    | (apply bh H 7 (xL kd i p n (.slice Ad d.length kdd) f) 65; clear H cC; intro gX W2 H; obtain ⟨-, cX, cC⟩ := n2_ H)
    | (apply bh H 8 (rL er (.slice Ay ly ky) y0 y1 y2) 61; clear H cX cC; intro gY W3 H; obtain ⟨-, cY, cX, cC⟩ := n3_ H)
    | (go_at_call 33; refine (HBO.out _ H.out.below).mono ?_; rintro e W4 ⟨rfl, hb⟩; clear cY cX cC; replace H := pc H hb; clear hb; obtain ⟨-, cY, cX, cC⟩ := n3_ H)
    | (apply bh H 11 (mL 0 0 0 0 0 0 0 0 0 0 0 nil_ nil_ nil_) 53; clear H cY cX cC; intro gM W5 H; obtain ⟨-, cM, cY, cX, cC⟩ := n4_ H)
    | (apply bh H 12 (mL 0 0 0 0 0 0 0 0 0 0 0 nil_ nil_ nil_) 68; clear H cM cY cX cC; intro gQ W6 H; obtain ⟨-, cQ, cM, cY, cX, cC⟩ := n5_ H)
    | (apply sn H 1 53 11 gM (mL 0 0 0 0 0 0 0 0 0 0 0 nil_ nil_ nil_))
    | (apply sn H 0 68 12 gQ (mL 0 0 0 0 0 0 0 0 0 0 0 nil_ nil_ nil_))
    | (go_at_call 34; refine (live29_any _).mono ?_; rintro e W7 ⟨rfl, hb⟩; clear cQ cM cY cX cC; replace H := pc H hb; clear hb; obtain ⟨-, cQ, cM, cY, cX, cC⟩ := n5_ H)
  go_ret
  exact ⟨rfl, H.out.below⟩
set_option maxHeartbeats 16000000 in
set_option maxRecDepth 100000 in
theorem replies_much (id m u b c z s me o a l : Int) (Aa : Option Addr) (ca nx : Nat) (kd i p n : Int) (Ad : Option Addr) (kdd : Nat) (d : List Int) (f : Bool) (er : Int) (Ay : Option Addr) (ky : Nat) (yd : List Int) (y0 y1 y2 : Int) (right : Bool) (D : Mdl) (w : World) (hd : Kd.C (Kd.int .u8) w Ad d.length d) (hdk : d.length ≤ kdd) (hy : Kd.C (Kd.int .u8) w Ay yd.length yd) (hyk : yd.length ≤ ky) (hi : MInv2 id m u b c z s me o a l D) (hbo : BothP id m u b c z s me o a l Aa ca nx w D) (hmx : muchB id m u b c z s me o a l [(⟨kd, i, p, n, d, f⟩ : S65)] = true) : Calls Try.prog 9 #[.agg #[.int .i64 id, .int .i64 m, .int .i64 u, .int .i64 b, .int .i64 c, .int .i64 z, .int .i64 s, .int .i64 me, .int .i64 o, .int .i64 a, .int .i64 l], .slice Aa nx ca, cmdV kd i p n (.slice Ad d.length kdd) f, .agg #[.int .i64 er, .slice Ay yd.length ky, .int .i64 y0, .int .i64 y1, .int .i64 y2], .bool right] w fun e w' => e = .returned (.bool true) ∧ Below w.heap.size w w' := by
  have H := Lib.hid (Pk.start w)
  obtain ⟨ly, hly⟩ : ∃ n, n = yd.length := ⟨_, rfl⟩
  rw [← hly] at hy hyk ⊢
  have HBO := Lib.hid hbo; have HD := Lib.hid hd; have HDK := Lib.hid hdk; have HMX := Lib.hid hmx; have HY := Lib.hid hy; have HLY := Lib.hid hly; have HI := Lib.hid hi; clear hbo hd hdk hmx hyk hi
  clear hly
  go_enter Try.func9, Try.ntmps9
  go_wp2_with first
    | (apply bh H 5 (cL id m u b c z s me o a l) 23; clear H; intro gC W1 H; obtain ⟨-, cC⟩ := n1_ H)
    | (apply bh H 7 (xL kd i p n (.slice Ad d.length kdd) f) 65; clear H cC; intro gX W2 H; obtain ⟨-, cX, cC⟩ := n2_ H)
    | (apply bh H 8 (rL er (.slice Ay ly ky) y0 y1 y2) 61; clear H cX cC; intro gY W3 H; obtain ⟨-, cY, cX, cC⟩ := n3_ H)
    | (go_at_call 33; refine (HBO.out _ H.out.below).mono ?_; rintro e W4 ⟨⟨B1, m1, j1, B2, m2, j2, B3, m3, j3, Bd1, md1, jd1, Bd2, md2, jd2, Bd3, md3, jd3, rfl, hM, hM2⟩, hb⟩; clear cY cX cC; have hb0_ := H.out.below.size; replace H := Lib.hid ((H.out.called hb).row (MrF w.heap.size (.slice B1 m1 j1) (.slice B2 m2 j2) (.slice B3 m3 j3) (D)) (MR_lower hM H.out.below.size)); replace H := Lib.hid ((H.out).row (MrF w.heap.size (.slice Bd1 md1 jd1) (.slice Bd2 md2 jd2) (.slice Bd3 md3 jd3) (D)) (MR_lower hM2 hb0_)); clear hb0_; clear hM hM2; clear hb; obtain ⟨-, cY, cX, cC⟩ := n3_ H)
    | (apply bh H 11 (mL 0 0 0 0 0 0 0 0 0 0 0 nil_ nil_ nil_) 53; clear H cY cX cC; intro gM W5 H; obtain ⟨-, cM, cY, cX, cC⟩ := n4_ H)
    | (apply bh H 12 (mL 0 0 0 0 0 0 0 0 0 0 0 nil_ nil_ nil_) 68; clear H cM cY cX cC; intro gQ W6 H; obtain ⟨-, cQ, cM, cY, cX, cC⟩ := n5_ H)
    | (apply sh H 1 53 11 gM (mL id m u b c z s me o a l (.slice B1 m1 j1) (.slice B2 m2 j2) (.slice B3 m3 j3)); clear H cQ cM cY cX cC; intro W7 K_; obtain ⟨H, cQ, cM, cY, cX, cC⟩ := n5_ K_; clear K_)
    | (apply sh H 0 68 12 gQ (mL id m u b c z s me o a l (.slice Bd1 md1 jd1) (.slice Bd2 md2 jd2) (.slice Bd3 md3 jd3)); clear H cQ cM cY cX cC; intro W8 K_; obtain ⟨H, cQ, cM, cY, cX, cC⟩ := n5_ K_; clear K_)
    | (go_at_call 24; refine (one_much id m u b c z s me o a l H (Kd.C_below HD.out H.out.below) HDK.out HMX.out).mono ?_; rintro e W9 ⟨rfl, H2⟩; clear H cQ cM cY cX cC; have H := H2; clear H2; obtain ⟨-, cQ, cM, cY, cX, cC⟩ := n5_ H)
    | (go_at_call 34; refine (live29_any _).mono ?_; rintro e W10 ⟨rfl, hb⟩; clear cQ cM cY cX cC; replace H := pc H hb; clear hb; obtain ⟨-, cQ, cM, cY, cX, cC⟩ := n5_ H)
  go_ret
  exact ⟨rfl, H.out.below⟩
set_option maxHeartbeats 16000000 in
set_option maxRecDepth 100000 in
theorem replies_big (id m u b c z s me o a l : Int) (Aa : Option Addr) (ca nx : Nat) (kd i p n : Int) (Ad : Option Addr) (kdd : Nat) (d : List Int) (f : Bool) (er : Int) (Ay : Option Addr) (ky : Nat) (yd : List Int) (y0 y1 y2 : Int) (right : Bool) (D : Mdl) (w : World) (hd : Kd.C (Kd.int .u8) w Ad d.length d) (hdk : d.length ≤ kdd) (hy : Kd.C (Kd.int .u8) w Ay yd.length yd) (hyk : yd.length ≤ ky) (hi : MInv2 id m u b c z s me o a l D) (hbo : BothP id m u b c z s me o a l Aa ca nx w D) (hmx : muchB id m u b c z s me o a l [(⟨kd, i, p, n, d, f⟩ : S65)] = false) (h8 : 8000 < yd.length) : Calls Try.prog 9 #[.agg #[.int .i64 id, .int .i64 m, .int .i64 u, .int .i64 b, .int .i64 c, .int .i64 z, .int .i64 s, .int .i64 me, .int .i64 o, .int .i64 a, .int .i64 l], .slice Aa nx ca, cmdV kd i p n (.slice Ad d.length kdd) f, .agg #[.int .i64 er, .slice Ay yd.length ky, .int .i64 y0, .int .i64 y1, .int .i64 y2], .bool right] w fun e w' => e = .returned (.bool true) ∧ Below w.heap.size w w' := by
  have H := Lib.hid (Pk.start w)
  obtain ⟨ly, hly⟩ : ∃ n, n = yd.length := ⟨_, rfl⟩
  rw [← hly] at hy hyk ⊢
  have HBO := Lib.hid hbo; have HD := Lib.hid hd; have HDK := Lib.hid hdk; have HMX := Lib.hid hmx; have HY := Lib.hid hy; have HLY := Lib.hid hly; have HI := Lib.hid hi; clear hbo hd hdk hmx hyk hi
  have h8b : (ly : Int) > 8000 := (by omega); have b8 : decide ((ly : Int) > 8000) = true := decide_eq_true h8b; clear hly h8
  go_enter Try.func9, Try.ntmps9
  go_wp2_with first
    | (apply bh H 5 (cL id m u b c z s me o a l) 23; clear H; intro gC W1 H; obtain ⟨-, cC⟩ := n1_ H)
    | (apply bh H 7 (xL kd i p n (.slice Ad d.length kdd) f) 65; clear H cC; intro gX W2 H; obtain ⟨-, cX, cC⟩ := n2_ H)
    | (apply bh H 8 (rL er (.slice Ay ly ky) y0 y1 y2) 61; clear H cX cC; intro gY W3 H; obtain ⟨-, cY, cX, cC⟩ := n3_ H)
    | (go_at_call 33; refine (HBO.out _ H.out.below).mono ?_; rintro e W4 ⟨⟨B1, m1, j1, B2, m2, j2, B3, m3, j3, Bd1, md1, jd1, Bd2, md2, jd2, Bd3, md3, jd3, rfl, hM, hM2⟩, hb⟩; clear cY cX cC; have hb0_ := H.out.below.size; replace H := Lib.hid ((H.out.called hb).row (MrF w.heap.size (.slice B1 m1 j1) (.slice B2 m2 j2) (.slice B3 m3 j3) (D)) (MR_lower hM H.out.below.size)); replace H := Lib.hid ((H.out).row (MrF w.heap.size (.slice Bd1 md1 jd1) (.slice Bd2 md2 jd2) (.slice Bd3 md3 jd3) (D)) (MR_lower hM2 hb0_)); clear hb0_; clear hM hM2; clear hb; obtain ⟨-, cY, cX, cC⟩ := n3_ H)
    | (apply bh H 11 (mL 0 0 0 0 0 0 0 0 0 0 0 nil_ nil_ nil_) 53; clear H cY cX cC; intro gM W5 H; obtain ⟨-, cM, cY, cX, cC⟩ := n4_ H)
    | (apply bh H 12 (mL 0 0 0 0 0 0 0 0 0 0 0 nil_ nil_ nil_) 68; clear H cM cY cX cC; intro gQ W6 H; obtain ⟨-, cQ, cM, cY, cX, cC⟩ := n5_ H)
    | (apply sh H 1 53 11 gM (mL id m u b c z s me o a l (.slice B1 m1 j1) (.slice B2 m2 j2) (.slice B3 m3 j3)); clear H cQ cM cY cX cC; intro W7 K_; obtain ⟨H, cQ, cM, cY, cX, cC⟩ := n5_ K_; clear K_)
    | (apply sh H 0 68 12 gQ (mL id m u b c z s me o a l (.slice Bd1 md1 jd1) (.slice Bd2 md2 jd2) (.slice Bd3 md3 jd3)); clear H cQ cM cY cX cC; intro W8 K_; obtain ⟨H, cQ, cM, cY, cX, cC⟩ := n5_ K_; clear K_)
    | (go_at_call 24; refine (one_much id m u b c z s me o a l H (Kd.C_below HD.out H.out.below) HDK.out HMX.out).mono ?_; rintro e W9 ⟨rfl, H2⟩; clear H cQ cM cY cX cC; have H := H2; clear H2; obtain ⟨-, cQ, cM, cY, cX, cC⟩ := n5_ H)
    | (go_at_call 34; refine (live29_any _).mono ?_; rintro e W10 ⟨rfl, hb⟩; clear cQ cM cY cX cC; replace H := pc H hb; clear hb; obtain ⟨-, cQ, cM, cY, cX, cC⟩ := n5_ H)
  go_ret
  exact ⟨rfl, H.out.below⟩
set_option maxHeartbeats 16000000 in
set_option maxRecDepth 100000 in
theorem replies_f (id m u b c z s me o a l : Int) (Aa : Option Addr) (ca nx : Nat) (kd i p n : Int) (Ad : Option Addr) (kdd : Nat) (d : List Int) (f : Bool) (er : Int) (Ay : Option Addr) (ky : Nat) (yd : List Int) (y0 y1 y2 : Int) (D : Mdl) (w : World) (hd : Kd.C (Kd.int .u8) w Ad d.length d) (hdk : d.length ≤ kdd) (hy : Kd.C (Kd.int .u8) w Ay yd.length yd) (hyk : yd.length ≤ ky) (hi : MInv2 id m u b c z s me o a l D) (hbo : BothP id m u b c z s me o a l Aa ca nx w D) (hmx : muchB id m u b c z s me o a l [(⟨kd, i, p, n, d, f⟩ : S65)] = false) (h8 : ¬ 8000 < yd.length) : Calls Try.prog 9 #[.agg #[.int .i64 id, .int .i64 m, .int .i64 u, .int .i64 b, .int .i64 c, .int .i64 z, .int .i64 s, .int .i64 me, .int .i64 o, .int .i64 a, .int .i64 l], .slice Aa nx ca, cmdV kd i p n (.slice Ad d.length kdd) f, .agg #[.int .i64 er, .slice Ay yd.length ky, .int .i64 y0, .int .i64 y1, .int .i64 y2], .bool false] w fun e w' => e = .returned (.bool true) ∧ Below w.heap.size w w' := by
  obtain ⟨ly, hly⟩ : ∃ n, n = yd.length := ⟨_, rfl⟩
  rw [← hly] at hy hyk ⊢
  have hdo := fun (er : Int) (yv : Value) (sy : ByteArray) (y0 y1 y2 : Int) x y q (W : World) h hd hcv => jreply_any id m u b c z s me o a l x y q D kd i p n Ad kdd d f er yv sy y0 y1 y2 W h hi.1 hd hdk hcv
  have hrd := fun x y q W h hd => rdo_any id m u b c z s me o a l x y q D kd i p n Ad kdd d f W h hi.1 hd hdk
  have hsm := do_small hi.1 (⟨kd, i, p, n, d, f⟩ : S65)
  generalize doM id m u b c z s me o a l D (⟨kd, i, p, n, d, f⟩ : S65) = r at hdo hrd hsm
  obtain ⟨N, E, dt, zz⟩ := r
  dsimp only at hdo hrd hsm
  have HBO := Lib.hid hbo; have HD := Lib.hid hd; have HDK := Lib.hid hdk; have HMX := Lib.hid hmx; have HY := Lib.hid hy; have HLY := Lib.hid hly; have HI := Lib.hid hi; clear hbo hd hdk hmx hyk hi
  have HRE := Lib.hid hdo; have HRD := Lib.hid hrd; have HSM := Lib.hid hsm; clear hdo hrd hsm
  have h8b : ¬ (ly : Int) > 8000 := (by omega); have b8 : decide ((ly : Int) > 8000) = false := decide_eq_false h8b; clear hly h8
  have H := Lib.hid (Pk.start w)
  go_enter Try.func9, Try.ntmps9
  go_wp2_with first
    | (apply bh H 5 (cL id m u b c z s me o a l) 23; clear H; intro gC W1 H; obtain ⟨-, cC⟩ := n1_ H)
    | (apply bh H 7 (xL kd i p n (.slice Ad d.length kdd) f) 65; clear H cC; intro gX W2 H; obtain ⟨-, cX, cC⟩ := n2_ H)
    | (apply bh H 8 (rL er (.slice Ay ly ky) y0 y1 y2) 61; clear H cX cC; intro gY W3 H; obtain ⟨-, cY, cX, cC⟩ := n3_ H)
    | (go_at_call 33; refine (HBO.out _ H.out.below).mono ?_; rintro e W4 ⟨⟨B1, m1, j1, B2, m2, j2, B3, m3, j3, Bd1, md1, jd1, Bd2, md2, jd2, Bd3, md3, jd3, rfl, hM, hM2⟩, hb⟩; clear cY cX cC; have hb0_ := H.out.below.size; replace H := Lib.hid ((H.out.called hb).row (MrF w.heap.size (.slice B1 m1 j1) (.slice B2 m2 j2) (.slice B3 m3 j3) (D)) (MR_lower hM H.out.below.size)); replace H := Lib.hid ((H.out).row (MrF w.heap.size (.slice Bd1 md1 jd1) (.slice Bd2 md2 jd2) (.slice Bd3 md3 jd3) (D)) (MR_lower hM2 hb0_)); clear hb0_; clear hM hM2; clear hb; obtain ⟨-, cY, cX, cC⟩ := n3_ H)
    | (apply bh H 11 (mL 0 0 0 0 0 0 0 0 0 0 0 nil_ nil_ nil_) 53; clear H cY cX cC; intro gM W5 H; obtain ⟨-, cM, cY, cX, cC⟩ := n4_ H)
    | (apply bh H 12 (mL 0 0 0 0 0 0 0 0 0 0 0 nil_ nil_ nil_) 68; clear H cM cY cX cC; intro gQ W6 H; obtain ⟨-, cQ, cM, cY, cX, cC⟩ := n5_ H)
    | (apply sh H 1 53 11 gM (mL id m u b c z s me o a l (.slice B1 m1 j1) (.slice B2 m2 j2) (.slice B3 m3 j3)); clear H cQ cM cY cX cC; intro W7 K_; obtain ⟨H, cQ, cM, cY, cX, cC⟩ := n5_ K_; clear K_)
    | (apply sh H 0 68 12 gQ (mL id m u b c z s me o a l (.slice Bd1 md1 jd1) (.slice Bd2 md2 jd2) (.slice Bd3 md3 jd3)); clear H cQ cM cY cX cC; intro W8 K_; obtain ⟨H, cQ, cM, cY, cX, cC⟩ := n5_ K_; clear K_)
    | (go_at_call 24; refine (one_much id m u b c z s me o a l H (Kd.C_below HD.out H.out.below) HDK.out HMX.out).mono ?_; rintro e W9 ⟨rfl, H2⟩; clear H cQ cM cY cX cC; have H := H2; clear H2; obtain ⟨-, cQ, cM, cY, cX, cC⟩ := n5_ H)
    | (go_at_call 28; refine (HRD.out _ _ _ _ (MC_R (H.out.fact 0 rfl)) (Kd.C_below HD.out H.out.below)).mono ?_; rintro e W10 hP; obtain ⟨B61, m61, j61, B62, m62, j62, B63, m63, j63, rfl, hM, hb⟩ := RsP_open hP; clear hP; clear cQ cM cY cX cC; replace H := Lib.hid ((H.out.called hb).row (MrF w.heap.size (.slice B61 m61 j61) (.slice B62 m62 j62) (.slice B63 m63 j63) (N)) (MD_R hM ((H.out.called hb).fact 0 rfl) H.out.below.size)); clear hM; clear hb; obtain ⟨-, cQ, cM, cY, cX, cC⟩ := n5_ H)
    | (apply bh H 14 (mL 0 0 0 0 0 0 0 0 0 0 0 nil_ nil_ nil_) 68; clear H cQ cM cY cX cC; intro gN W11 H; obtain ⟨-, cN, cQ, cM, cY, cX, cC⟩ := n6_ H)
    | (apply bhz H 17 (oL 0 0 0) 59; have HO_ := H; clear H cN cQ cM cY cX cC; intro gZ W12 hg H; have n_Z_K6 := Lib.hid (mrf_lt (HO_.out.fact 0 rfl) hg); have n_Z_Kd := Lib.hid (mrf_lt (HO_.out.fact 1 rfl) hg); have n_Z_G0 := Lib.hid (mrf_lt (HO_.out.fact 2 rfl) hg); clear HO_ hg; obtain ⟨-, cZ, cN, cQ, cM, cY, cX, cC⟩ := n7_ H)
    | (apply sh H 1 68 14 gN (mL id m u b c z s me o a l (.slice B61 m61 j61) (.slice B62 m62 j62) (.slice B63 m63 j63)); clear H cZ cN cQ cM cY cX cC; intro W13 K_; obtain ⟨H, cZ, cN, cQ, cM, cY, cX, cC⟩ := n7_ K_; clear K_)
    | (apply shz H 0 59 17 gZ (oL zz.f0 zz.f1 zz.f2) (fun w_ hw_ => fcons (mrf_set hw_ (H.out.fact 0 rfl) n_Z_K6.out (H.out.at_ 0 rfl)) (fcons (mrf_set hw_ (H.out.fact 1 rfl) n_Z_Kd.out (H.out.at_ 0 rfl)) (fcons (mrf_set hw_ (H.out.fact 2 rfl) n_Z_G0.out (H.out.at_ 0 rfl)) (fnil)))); clear H cZ cN cQ cM cY cX cC; intro W14 K_; obtain ⟨H, cZ, cN, cQ, cM, cY, cX, cC⟩ := n7_ K_; clear K_)
  have hre := fun yv x y q W h hd hcv => HRE.out er yv (strOfNums yd) y0 y1 y2 x y q W h hd hcv
  have his := fun yv W hcv => is_any er yv (strOfNums yd) y0 y1 y2 E zz.f0 zz.f1 zz.f2 dt W hcv
  generalize (er == E && (((strOfNums yd).toList == dt.toList) && (y0 == zz.f0 && (y1 == zz.f1 && (y2 == zz.f2))))) = V at hre his
  have HRV := Lib.hid hre; have HIS := Lib.hid his; clear hre his
  go_wp2
  clear cZ cN cQ cM cY cX cC
  refine start_ (n := 15) (S := fun W => (∀ j_, W.cell? ⟨gM, j_, none⟩ = ((mL id m u b c z s me o a l (.slice B1 m1 j1) (.slice B2 m2 j2) (.slice B3 m3 j3)).toArray : Array Value)[j_]?) ∧ (∀ j_, W.cell? ⟨gX, j_, none⟩ = ((xL kd i p n (.slice Ad d.length kdd) f).toArray : Array Value)[j_]?) ∧ (∀ j_, W.cell? ⟨gY, j_, none⟩ = ((rL er (.slice Ay ly ky) y0 y1 y2).toArray : Array Value)[j_]?) ∧ (∀ j_, W.cell? ⟨gZ, j_, none⟩ = ((oL zz.f0 zz.f1 zz.f2).toArray : Array Value)[j_]?)) (ds := []) (bq 15 0) (by kernel_rfl) rfl (by kernel_rfl) ⟨H.out.drew.cell 3 rfl, H.out.drew.cell 5 rfl, H.out.drew.cell 4 rfl, H.out.drew.cell 0 rfl⟩ (fun hHeld => ?_)
  refine with_tabW tab_revetmentlaw29_JudgeReplies_7 bits_revetmentlaw29_JudgeReplies_7 (fun HT_ HW_ => ?_)
  have zH := H.out.drew
  generalize W14.drew = W15 at zH hHeld ⊢
  replace H := Lib.hid zH; clear zH
  apply tw 0 54 (bq 15 1) HT_ HW_ hHeld
  apply tw 1 55 (bq 15 3) HT_ HW_ hHeld
  apply tw 2 56 (bq 15 7) HT_ HW_ hHeld
  apply tw 4 58 (bq 15 23) HT_ HW_ hHeld
  apply pu 5 59 (bq 15 55) HT_
  apply pu 6 60 (bq 15 119) HT_
  apply tw 7 61 (bq 15 247) HT_ HW_ hHeld
  apply pu 8 62 (bq 15 503) HT_
  apply on 3 (some 57) (bq 15 511) HT_; intro K hK
  refine gs Try.func44 #[modV id m u b c z s me o a l (.slice B1 m1 j1) (.slice B2 m2 j2) (.slice B3 m3 j3), cmdV kd i p n (.slice Ad d.length kdd) f, .agg #[.int .i64 er, .slice Ay ly ky, .int .i64 y0, .int .i64 y1, .int .i64 y2]] ?_
  refine (HRV.out _ _ _ _ _ (MC_R (H.out.fact 2 rfl)) (Kd.C_below HD.out H.out.below) (fun W' hb => Kd.C_string Try.underlying57 Try.underlying5 Try.underlying9 (Kd.C_below HY.out (below_step H.out.below hb)))).mono ?_
  rintro e W16 ⟨rfl, hb⟩
  refine ⟨_, rfl, ?_⟩
  replace H := pc H hb
  clear hb
  refine hK.out _ _ ⟨H.out.cell 3 rfl, H.out.cell 5 rfl, H.out.cell 4 rfl, H.out.cell 0 rfl⟩ (fun hHeld => ?_)
  clear hK K
  apply nm 0
  apply on 9 (some 63) (bq 15 1023) HT_; intro K hK
  refine gs Try.func45 #[.agg #[.int .i64 er, .slice Ay ly ky, .int .i64 y0, .int .i64 y1, .int .i64 y2], .agg #[.int .i64 E, .string dt, .int .i64 zz.f0, .int .i64 zz.f1, .int .i64 zz.f2]] ?_
  refine (HIS.out _ _ (fun W' hb => Kd.C_string Try.underlying57 Try.underlying5 Try.underlying9 (Kd.C_below HY.out (below_step H.out.below hb)))).mono ?_
  rintro e W17 ⟨rfl, hb⟩
  refine ⟨_, rfl, ?_⟩
  replace H := pc H hb
  clear hb
  refine hK.out _ _ ⟨H.out.cell 3 rfl, H.out.cell 5 rfl, H.out.cell 4 rfl, H.out.cell 0 rfl⟩ (fun hHeld => ?_)
  clear hK K
  apply nm 0
  apply pu 10 64 (bq 15 2047) HT_
  apply pu 11 65 (bq 15 4095) HT_
  apply on 12 (some 66) (bq 15 8191) HT_; intro K hK
  refine gs Try.func34 #[] ?_
  refine (live29_any _).mono ?_
  rintro e W18 ⟨rfl, hb⟩
  refine ⟨_, rfl, ?_⟩
  replace H := pc H hb
  clear hb
  refine hK.out _ _ ⟨H.out.cell 3 rfl, H.out.cell 5 rfl, H.out.cell 4 rfl, H.out.cell 0 rfl⟩ (fun hHeld => ?_)
  clear hK K
  apply nm 0
  apply pu 13 67 (bq 15 16383) HT_
  apply pu 14 10 (bq 15 32767) HT_
  refine done_ (done_of HT_.out (by kernel_rfl)) ?_
  obtain ⟨-, cZ, cN, cQ, cM, cY, cX, cC⟩ := n7_ H
  go_wp2
  go_ret
  exact ⟨rfl, H.out.below⟩
set_option maxHeartbeats 16000000 in
set_option maxRecDepth 100000 in
theorem replies_t (id m u b c z s me o a l : Int) (Aa : Option Addr) (ca nx : Nat) (kd i p n : Int) (Ad : Option Addr) (kdd : Nat) (d : List Int) (f : Bool) (er : Int) (Ay : Option Addr) (ky : Nat) (yd : List Int) (y0 y1 y2 : Int) (D : Mdl) (w : World) (hd : Kd.C (Kd.int .u8) w Ad d.length d) (hdk : d.length ≤ kdd) (hy : Kd.C (Kd.int .u8) w Ay yd.length yd) (hyk : yd.length ≤ ky) (hi : MInv2 id m u b c z s me o a l D) (hbo : BothP id m u b c z s me o a l Aa ca nx w D) (hmx : muchB id m u b c z s me o a l [(⟨kd, i, p, n, d, f⟩ : S65)] = false) (h8 : ¬ 8000 < yd.length) : Calls Try.prog 9 #[.agg #[.int .i64 id, .int .i64 m, .int .i64 u, .int .i64 b, .int .i64 c, .int .i64 z, .int .i64 s, .int .i64 me, .int .i64 o, .int .i64 a, .int .i64 l], .slice Aa nx ca, cmdV kd i p n (.slice Ad d.length kdd) f, .agg #[.int .i64 er, .slice Ay yd.length ky, .int .i64 y0, .int .i64 y1, .int .i64 y2], .bool true] w fun e w' => e = .returned (.bool true) ∧ Below w.heap.size w w' := by
  obtain ⟨ly, hly⟩ : ∃ n, n = yd.length := ⟨_, rfl⟩
  rw [← hly] at hy hyk ⊢
  have hdo := fun (er : Int) (yv : Value) (sy : ByteArray) (y0 y1 y2 : Int) x y q (W : World) h hd hcv => jreply_any id m u b c z s me o a l x y q D kd i p n Ad kdd d f er yv sy y0 y1 y2 W h hi.1 hd hdk hcv
  have hrd := fun x y q W h hd => rdo_any id m u b c z s me o a l x y q D kd i p n Ad kdd d f W h hi.1 hd hdk
  have hsm := do_small hi.1 (⟨kd, i, p, n, d, f⟩ : S65)
  generalize doM id m u b c z s me o a l D (⟨kd, i, p, n, d, f⟩ : S65) = r at hdo hrd hsm
  obtain ⟨N, E, dt, zz⟩ := r
  dsimp only at hdo hrd hsm
  have HBO := Lib.hid hbo; have HD := Lib.hid hd; have HDK := Lib.hid hdk; have HMX := Lib.hid hmx; have HY := Lib.hid hy; have HLY := Lib.hid hly; have HI := Lib.hid hi; clear hbo hd hdk hmx hyk hi
  have HRE := Lib.hid hdo; have HRD := Lib.hid hrd; have HSM := Lib.hid hsm; clear hdo hrd hsm
  have h8b : ¬ (ly : Int) > 8000 := (by omega); have b8 : decide ((ly : Int) > 8000) = false := decide_eq_false h8b; clear hly h8
  have H := Lib.hid (Pk.start w)
  go_enter Try.func9, Try.ntmps9
  go_wp2_with first
    | (apply bh H 5 (cL id m u b c z s me o a l) 23; clear H; intro gC W1 H; obtain ⟨-, cC⟩ := n1_ H)
    | (apply bh H 7 (xL kd i p n (.slice Ad d.length kdd) f) 65; clear H cC; intro gX W2 H; obtain ⟨-, cX, cC⟩ := n2_ H)
    | (apply bh H 8 (rL er (.slice Ay ly ky) y0 y1 y2) 61; clear H cX cC; intro gY W3 H; obtain ⟨-, cY, cX, cC⟩ := n3_ H)
    | (go_at_call 33; refine (HBO.out _ H.out.below).mono ?_; rintro e W4 ⟨⟨B1, m1, j1, B2, m2, j2, B3, m3, j3, Bd1, md1, jd1, Bd2, md2, jd2, Bd3, md3, jd3, rfl, hM, hM2⟩, hb⟩; clear cY cX cC; have hb0_ := H.out.below.size; replace H := Lib.hid ((H.out.called hb).row (MrF w.heap.size (.slice B1 m1 j1) (.slice B2 m2 j2) (.slice B3 m3 j3) (D)) (MR_lower hM H.out.below.size)); replace H := Lib.hid ((H.out).row (MrF w.heap.size (.slice Bd1 md1 jd1) (.slice Bd2 md2 jd2) (.slice Bd3 md3 jd3) (D)) (MR_lower hM2 hb0_)); clear hb0_; clear hM hM2; clear hb; obtain ⟨-, cY, cX, cC⟩ := n3_ H)
    | (apply bh H 11 (mL 0 0 0 0 0 0 0 0 0 0 0 nil_ nil_ nil_) 53; clear H cY cX cC; intro gM W5 H; obtain ⟨-, cM, cY, cX, cC⟩ := n4_ H)
    | (apply bh H 12 (mL 0 0 0 0 0 0 0 0 0 0 0 nil_ nil_ nil_) 68; clear H cM cY cX cC; intro gQ W6 H; obtain ⟨-, cQ, cM, cY, cX, cC⟩ := n5_ H)
    | (apply sh H 1 53 11 gM (mL id m u b c z s me o a l (.slice B1 m1 j1) (.slice B2 m2 j2) (.slice B3 m3 j3)); clear H cQ cM cY cX cC; intro W7 K_; obtain ⟨H, cQ, cM, cY, cX, cC⟩ := n5_ K_; clear K_)
    | (apply sh H 0 68 12 gQ (mL id m u b c z s me o a l (.slice Bd1 md1 jd1) (.slice Bd2 md2 jd2) (.slice Bd3 md3 jd3)); clear H cQ cM cY cX cC; intro W8 K_; obtain ⟨H, cQ, cM, cY, cX, cC⟩ := n5_ K_; clear K_)
    | (go_at_call 24; refine (one_much id m u b c z s me o a l H (Kd.C_below HD.out H.out.below) HDK.out HMX.out).mono ?_; rintro e W9 ⟨rfl, H2⟩; clear H cQ cM cY cX cC; have H := H2; clear H2; obtain ⟨-, cQ, cM, cY, cX, cC⟩ := n5_ H)
    | (go_at_call 28; refine (HRD.out _ _ _ _ (MC_R (H.out.fact 0 rfl)) (Kd.C_below HD.out H.out.below)).mono ?_; rintro e W10 hP; obtain ⟨B61, m61, j61, B62, m62, j62, B63, m63, j63, rfl, hM, hb⟩ := RsP_open hP; clear hP; clear cQ cM cY cX cC; replace H := Lib.hid ((H.out.called hb).row (MrF w.heap.size (.slice B61 m61 j61) (.slice B62 m62 j62) (.slice B63 m63 j63) (N)) (MD_R hM ((H.out.called hb).fact 0 rfl) H.out.below.size)); clear hM; clear hb; obtain ⟨-, cQ, cM, cY, cX, cC⟩ := n5_ H)
    | (apply bh H 14 (mL 0 0 0 0 0 0 0 0 0 0 0 nil_ nil_ nil_) 68; clear H cQ cM cY cX cC; intro gN W11 H; obtain ⟨-, cN, cQ, cM, cY, cX, cC⟩ := n6_ H)
    | (apply bhz H 17 (oL 0 0 0) 59; have HO_ := H; clear H cN cQ cM cY cX cC; intro gZ W12 hg H; have n_Z_K6 := Lib.hid (mrf_lt (HO_.out.fact 0 rfl) hg); have n_Z_Kd := Lib.hid (mrf_lt (HO_.out.fact 1 rfl) hg); have n_Z_G0 := Lib.hid (mrf_lt (HO_.out.fact 2 rfl) hg); clear HO_ hg; obtain ⟨-, cZ, cN, cQ, cM, cY, cX, cC⟩ := n7_ H)
    | (apply sh H 1 68 14 gN (mL id m u b c z s me o a l (.slice B61 m61 j61) (.slice B62 m62 j62) (.slice B63 m63 j63)); clear H cZ cN cQ cM cY cX cC; intro W13 K_; obtain ⟨H, cZ, cN, cQ, cM, cY, cX, cC⟩ := n7_ K_; clear K_)
    | (apply shz H 0 59 17 gZ (oL zz.f0 zz.f1 zz.f2) (fun w_ hw_ => fcons (mrf_set hw_ (H.out.fact 0 rfl) n_Z_K6.out (H.out.at_ 0 rfl)) (fcons (mrf_set hw_ (H.out.fact 1 rfl) n_Z_Kd.out (H.out.at_ 0 rfl)) (fcons (mrf_set hw_ (H.out.fact 2 rfl) n_Z_G0.out (H.out.at_ 0 rfl)) (fnil)))); clear H cZ cN cQ cM cY cX cC; intro W14 K_; obtain ⟨H, cZ, cN, cQ, cM, cY, cX, cC⟩ := n7_ K_; clear K_)
    | ((with_reducible refine gate_dst (N := 51) rfl ?_); have hr_ := print_bytes (P := Try.prog) 9 57 5 Try.underlying9 Try.underlying57 Try.underlying5 dt W14; refine Kd.event_run rfl (v := .slice (some ⟨W14.heap.size, 0, none⟩) dt.size (grownCap W14 dt.size 0 5)) (w1 := Lib.bytesWorld W14 5 dt) ?hr ?_; (case hr => first | (go_simp; done) | (go_simp; rfl)); clear hr_; clear cZ cN cQ cM cY cX cC; have hb : Below W14.heap.size W14 (Lib.bytesWorld W14 5 dt) := bytes_below (Below.refl _ _) (Nat.le_refl _) _ _; have hR : BR (Lib.bytesWorld W14 5 dt) (.slice (some ⟨W14.heap.size, 0, none⟩) dt.size (grownCap W14 dt.size 0 5)) (bytesOf dt) := BR_bytes _ _ (HSM.out) _ (grownCap_ge _ _ _ _); generalize Lib.bytesWorld W14 5 dt = W15 at hb hR ⊢; generalize grownCap W14 dt.size 0 5 = cR_ at hR ⊢; generalize W14.heap.size = gR_ at hR ⊢; replace H := Lib.hid ((H.out.called hb).row (BytF (.slice (some ⟨gR_, 0, none⟩) dt.size cR_) (bytesOf dt)) (hR)); clear hb hR; obtain ⟨-, cZ, cN, cQ, cM, cY, cX, cC⟩ := n7_ H)
    | (apply sh H 4 61 8 gY (rL E (.slice (some ⟨gR_, 0, none⟩) dt.size cR_) zz.f0 zz.f1 zz.f2); clear H cZ cN cQ cM cY cX cC; intro W16 K_; obtain ⟨H, cZ, cN, cQ, cM, cY, cX, cC⟩ := n7_ K_; clear K_)
  have hre := fun yv x y q W h hd hcv => HRE.out E yv dt zz.f0 zz.f1 zz.f2 x y q W h hd hcv
  have his := fun yv W hcv => is_any E yv dt zz.f0 zz.f1 zz.f2 E zz.f0 zz.f1 zz.f2 dt W hcv
  generalize (E == E && ((dt.toList == dt.toList) && (zz.f0 == zz.f0 && (zz.f1 == zz.f1 && (zz.f2 == zz.f2))))) = V at hre his
  have HRV := Lib.hid hre; have HIS := Lib.hid his; clear hre his
  go_wp2
  clear cZ cN cQ cM cY cX cC
  refine start_ (n := 15) (S := fun W => (∀ j_, W.cell? ⟨gM, j_, none⟩ = ((mL id m u b c z s me o a l (.slice B1 m1 j1) (.slice B2 m2 j2) (.slice B3 m3 j3)).toArray : Array Value)[j_]?) ∧ (∀ j_, W.cell? ⟨gX, j_, none⟩ = ((xL kd i p n (.slice Ad d.length kdd) f).toArray : Array Value)[j_]?) ∧ (∀ j_, W.cell? ⟨gY, j_, none⟩ = ((rL E (.slice (some ⟨gR_, 0, none⟩) dt.size cR_) zz.f0 zz.f1 zz.f2).toArray : Array Value)[j_]?) ∧ (∀ j_, W.cell? ⟨gZ, j_, none⟩ = ((oL zz.f0 zz.f1 zz.f2).toArray : Array Value)[j_]?)) (ds := []) (bq 15 0) (by kernel_rfl) rfl (by kernel_rfl) ⟨H.out.drew.cell 3 rfl, H.out.drew.cell 5 rfl, H.out.drew.cell 4 rfl, H.out.drew.cell 0 rfl⟩ (fun hHeld => ?_)
  refine with_tabW tab_revetmentlaw29_JudgeReplies_7 bits_revetmentlaw29_JudgeReplies_7 (fun HT_ HW_ => ?_)
  have zH := H.out.drew
  generalize W16.drew = W17 at zH hHeld ⊢
  replace H := Lib.hid zH; clear zH
  apply tw 0 54 (bq 15 1) HT_ HW_ hHeld
  apply tw 1 55 (bq 15 3) HT_ HW_ hHeld
  apply tw 2 56 (bq 15 7) HT_ HW_ hHeld
  apply tw 4 58 (bq 15 23) HT_ HW_ hHeld
  apply pu 5 59 (bq 15 55) HT_
  apply pu 6 60 (bq 15 119) HT_
  apply tw 7 61 (bq 15 247) HT_ HW_ hHeld
  apply pu 8 62 (bq 15 503) HT_
  apply on 3 (some 57) (bq 15 511) HT_; intro K hK
  refine gs Try.func44 #[modV id m u b c z s me o a l (.slice B1 m1 j1) (.slice B2 m2 j2) (.slice B3 m3 j3), cmdV kd i p n (.slice Ad d.length kdd) f, .agg #[.int .i64 E, .slice (some ⟨gR_, 0, none⟩) dt.size cR_, .int .i64 zz.f0, .int .i64 zz.f1, .int .i64 zz.f2]] ?_
  refine (HRV.out _ _ _ _ _ (MC_R (H.out.fact 3 rfl)) (Kd.C_below HD.out H.out.below) (fun W' hb => by have h := BR_string (BR_below (H.out.fact 0 rfl) hb); rw [strOf_bytesOf] at h; exact h)).mono ?_
  rintro e W18 ⟨rfl, hb⟩
  refine ⟨_, rfl, ?_⟩
  replace H := pc H hb
  clear hb
  refine hK.out _ _ ⟨H.out.cell 3 rfl, H.out.cell 5 rfl, H.out.cell 4 rfl, H.out.cell 0 rfl⟩ (fun hHeld => ?_)
  clear hK K
  apply nm 0
  apply on 9 (some 63) (bq 15 1023) HT_; intro K hK
  refine gs Try.func45 #[.agg #[.int .i64 E, .slice (some ⟨gR_, 0, none⟩) dt.size cR_, .int .i64 zz.f0, .int .i64 zz.f1, .int .i64 zz.f2], .agg #[.int .i64 E, .string dt, .int .i64 zz.f0, .int .i64 zz.f1, .int .i64 zz.f2]] ?_
  refine (HIS.out _ _ (fun W' hb => by have h := BR_string (BR_below (H.out.fact 0 rfl) hb); rw [strOf_bytesOf] at h; exact h)).mono ?_
  rintro e W19 ⟨rfl, hb⟩
  refine ⟨_, rfl, ?_⟩
  replace H := pc H hb
  clear hb
  refine hK.out _ _ ⟨H.out.cell 3 rfl, H.out.cell 5 rfl, H.out.cell 4 rfl, H.out.cell 0 rfl⟩ (fun hHeld => ?_)
  clear hK K
  apply nm 0
  apply pu 10 64 (bq 15 2047) HT_
  apply pu 11 65 (bq 15 4095) HT_
  apply on 12 (some 66) (bq 15 8191) HT_; intro K hK
  refine gs Try.func34 #[] ?_
  refine (live29_any _).mono ?_
  rintro e W20 ⟨rfl, hb⟩
  refine ⟨_, rfl, ?_⟩
  replace H := pc H hb
  clear hb
  refine hK.out _ _ ⟨H.out.cell 3 rfl, H.out.cell 5 rfl, H.out.cell 4 rfl, H.out.cell 0 rfl⟩ (fun hHeld => ?_)
  clear hK K
  apply nm 0
  apply pu 13 67 (bq 15 16383) HT_
  apply pu 14 10 (bq 15 32767) HT_
  refine done_ (done_of HT_.out (by kernel_rfl)) ?_
  obtain ⟨-, cZ, cN, cQ, cM, cY, cX, cC⟩ := n7_ H
  go_wp2
  go_ret
  exact ⟨rfl, H.out.below⟩
theorem replies_any (id m u b c z s me o a l : Int) (Aa : Option Addr) (ca : Nat) (xs : List S65) (kd i p n : Int) (Ad : Option Addr) (kdd : Nat) (d : List Int) (f : Bool) (er : Int) (Ay : Option Addr) (ky : Nat) (yd : List Int) (y0 y1 y2 : Int) (right : Bool) (w : World) (hr : Kd.C k65 w Aa xs.length xs) (hc : xs.length ≤ ca) (hd : Kd.C (Kd.int .u8) w Ad d.length d) (hdk : d.length ≤ kdd) (hy : Kd.C (Kd.int .u8) w Ay yd.length yd) (hyk : yd.length ≤ ky) : Calls Try.prog 9 #[.agg #[.int .i64 id, .int .i64 m, .int .i64 u, .int .i64 b, .int .i64 c, .int .i64 z, .int .i64 s, .int .i64 me, .int .i64 o, .int .i64 a, .int .i64 l], .slice Aa xs.length ca, cmdV kd i p n (.slice Ad d.length kdd) f, .agg #[.int .i64 er, .slice Ay yd.length ky, .int .i64 y0, .int .i64 y1, .int .i64 y2], .bool right] w fun e w' => e = .returned (.bool true) ∧ Below w.heap.size w w' := by
  rcases both_cases id m u b c z s me o a l Aa ca xs w hr hc with hn | ⟨hk, D, hi, hp⟩
  · exact replies_no id m u b c z s me o a l Aa ca xs.length kd i p n Ad kdd d f er Ay ky yd y0 y1 y2 right ⟨[], [], []⟩ w hd hdk hy hyk hn
  cases hmx : muchB id m u b c z s me o a l [(⟨kd, i, p, n, d, f⟩ : S65)]
  · by_cases h8 : 8000 < yd.length
    · exact replies_big id m u b c z s me o a l Aa ca xs.length kd i p n Ad kdd d f er Ay ky yd y0 y1 y2 right D w hd hdk hy hyk hi hp hmx h8
    cases right
    · exact replies_f id m u b c z s me o a l Aa ca xs.length kd i p n Ad kdd d f er Ay ky yd y0 y1 y2 D w hd hdk hy hyk hi hp hmx h8
    · exact replies_t id m u b c z s me o a l Aa ca xs.length kd i p n Ad kdd d f er Ay ky yd y0 y1 y2 D w hd hdk hy hyk hi hp hmx h8
  · exact replies_much id m u b c z s me o a l Aa ca xs.length kd i p n Ad kdd d f er Ay ky yd y0 y1 y2 right D w hd hdk hy hyk hi hp hmx
end Go.Proofs.Ytgckcaoncjhgbaa
namespace Go.Proofs.Ytgckcaoncjhgbaa
open Go.RowKit Go.Proofs.Ytgckcaoncjhgbaa.PL Go.Proofs.YtgckcaoncjhgbaaW.PrintWords Go.Proofs.YtgckcaoncjhgbaaW.PrintLast
set_option linter.unusedVariables false
set_option linter.unusedSimpArgs false
attribute [local go_sem] List.getElem?_toArray List.getElem?_cons_succ List.getElem?_cons_zero mL tL cL xL rL oL
namespace PL
/-- The law as a function: true. -/
def revetmentlaw29_JudgeReplies.f (id m u b c z s me o a l : Int) (xs : List S65) (kd i p n : Int) (d : List Int) (f : Bool) (er : Int) (yd : List Int) (y0 y1 y2 : Int) (right : Bool) : Option Bool := some true
theorem revetmentlaw29_JudgeReplies.calls (id m u b c z s me o a l : Int) (A1 : Option Addr) (c1 : Nat) (xs : List S65) (kd i p n : Int) (A2_4 : Option Addr) (c2_4 : Nat) (d : List Int) (f : Bool) (er : Int) (A3_1 : Option Addr) (c3_1 : Nat) (yd : List Int) (y0 y1 y2 : Int) (right : Bool) (w : World) (hr1 : Kd.C k65 w A1 xs.length xs) (hc1 : xs.length ≤ c1) (hr2_4 : Kd.C (Kd.int .u8) w A2_4 d.length d) (hc2_4 : d.length ≤ c2_4) (hr3_1 : Kd.C (Kd.int .u8) w A3_1 yd.length yd) (hc3_1 : yd.length ≤ c3_1) (h : revetmentlaw29_JudgeReplies.f id m u b c z s me o a l xs kd i p n d f er yd y0 y1 y2 right = some true) :
    Calls Try.prog 9 #[.agg #[.int .i64 id, .int .i64 m, .int .i64 u, .int .i64 b, .int .i64 c, .int .i64 z, .int .i64 s, .int .i64 me, .int .i64 o, .int .i64 a, .int .i64 l], .slice A1 xs.length c1, .agg #[.int .i64 kd, .int .i64 i, .int .i64 p, .int .i64 n, .slice A2_4 d.length c2_4, .bool f], .agg #[.int .i64 er, .slice A3_1 yd.length c3_1, .int .i64 y0, .int .i64 y1, .int .i64 y2], .bool right] w fun e w' => e = .returned (.bool true) ∧ Below w.heap.size w w' :=
  replies_any id m u b c z s me o a l A1 c1 xs kd i p n A2_4 c2_4 d f er A3_1 c3_1 yd y0 y1 y2 right w hr1 hc1 hr2_4 hc2_4 hr3_1 hc3_1
end PL
theorem Geo.judgeReplies_true (id m u b c z s me o a l : Int) (xs : List S65) (kd i p n : Int) (d : List Int) (f : Bool) (er : Int) (yd : List Int) (y0 y1 y2 : Int) (right : Bool) : revetmentlaw29_JudgeReplies.f id m u b c z s me o a l xs kd i p n d f er yd y0 y1 y2 right = some true := rfl
end Go.Proofs.Ytgckcaoncjhgbaa
