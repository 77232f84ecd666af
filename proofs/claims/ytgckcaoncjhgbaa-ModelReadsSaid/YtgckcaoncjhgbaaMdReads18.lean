/- The walk of revetmentlaw18.ModelReads. -/
import Derived.WalkKit
import Derived.WalkSpells
import Derived.WalkLawsBesides
import Derived.Lib.Hide
import Derived.Test.YtgckcaoncjhgbaaMdLive

namespace Go.Proofs.Ytgckcaoncjhgbaa
open Go.RowKit Go.Proofs.Ytgckcaoncjhgbaa.PL Go.Proofs.YtgckcaoncjhgbaaW.PrintWords Go.Proofs.YtgckcaoncjhgbaaW.PrintLast
set_option linter.unusedVariables false
set_option linter.unusedSimpArgs false
attribute [local go_sem] List.getElem?_toArray List.getElem?_cons_succ List.getElem?_cons_zero
theorem wr_small {id m u b c z s me o a l : Int} {D : Mdl} {zn : Int} {s_ : ByteArray} (hi : MInv id m u b c z s me o a l D) (h : WrIs D zn s_) : s_.size ≤ 1099511627776 := by
  unfold WrIs at h
  by_cases hz : 0 ≤ zn ∧ zn < (D.L.length : Int)
  · rw [if_pos hz] at h
    have := text_small hi hz.1 (by have := hi.2.1; omega)
    rw [h]; omega
  · rw [if_neg hz] at h
    rw [h]; exact Nat.zero_le _
def T_revetmentlaw18_ModelReads_8 : Bool × List (List Nat × List Nat) := (true, [([], []), ([], []), ([], []), ([1, 2], [1, 2]), ([3], [3]), ([0, 4], [0, 4]), ([5], [5]), ([6], [6]), ([6], [6]), ([], []), ([], []), ([9, 7, 5, 0, 1, 2, 3, 4, 5, 6, 7, 9, 10], [7, 9]), ([10, 8, 11, 0, 1, 2, 3, 4, 5, 6, 7, 8, 9, 10, 11], [8, 10])])
theorem tab_revetmentlaw18_ModelReads_8 : rtab .any (opsOf Try.f4 8) = T_revetmentlaw18_ModelReads_8 := by kernel_rfl
theorem bits_revetmentlaw18_ModelReads_8 : waitsOk T_revetmentlaw18_ModelReads_8.2 [0, 0, 0, 6, 14, 31, 63, 127, 127, 0, 0, 1791, 4095] = true := by kernel_rfl
def T_revetmentlaw18_ModelReads_19 : Bool × List (List Nat × List Nat) := (true, [([], []), ([0], [0]), ([1], [1]), ([2], [2]), ([3, 2], [3]), ([4], [4]), ([5, 4], [4, 5]), ([6, 4], [4, 6]), ([4], [4]), ([4], [4]), ([4], [4]), ([10, 4], [4, 10]), ([9, 11, 4], [4, 9, 11]), ([4], [4]), ([13, 4], [4, 13]), ([4], [4]), ([15, 4], [4, 15]), ([14, 16, 4], [4, 14, 16]), ([8, 12, 17, 4], [4, 8, 12, 17]), ([7, 18, 4], [4, 7, 18]), ([4, 19], [4, 19]), ([20, 4], [20]), ([21, 21], [21]), ([21, 22], [21, 22]), ([23, 22, 0, 1, 2, 3, 4, 5, 6, 7, 8, 9, 10, 11, 12, 13, 14, 15, 16, 17, 18, 19, 20, 21, 22, 23], [23])])
theorem tab_revetmentlaw18_ModelReads_19 : rtab .any (opsOf Try.f4 19) = T_revetmentlaw18_ModelReads_19 := by kernel_rfl
theorem bits_revetmentlaw18_ModelReads_19 : waitsOk T_revetmentlaw18_ModelReads_19.2 [0, 1, 3, 7, 15, 31, 63, 127, 31, 31, 31, 1055, 3615, 31, 8223, 31, 32799, 122911, 261919, 524287, 1048575, 2097151, 4194303, 8388607, 16777215] = true := by kernel_rfl
set_option maxHeartbeats 16000000 in
set_option maxRecDepth 100000 in
theorem reads18_no (id m u b c z s me o a l : Int) (Aa : Option Addr) (ca : Nat) (xs : List S65) (zn p : Int) (w : World) (hr : Kd.C k65 w Aa xs.length xs) (hc : xs.length ≤ ca) (p0 : 0 ≤ p) (p1 : p < 256) (hk : ¬ checkC id m u b c z s me o a l = 0) :
    Calls Try.prog 4 #[.agg #[.int .i64 id, .int .i64 m, .int .i64 u, .int .i64 b, .int .i64 c, .int .i64 z, .int .i64 s, .int .i64 me, .int .i64 o, .int .i64 a, .int .i64 l], .slice Aa xs.length ca, .int .i64 zn, .int .u8 p] w fun e w' => e = .returned (.bool true) ∧ Below w.heap.size w w' := by
  have H := Lib.hid (Pk.start w)
  obtain ⟨n, hn⟩ : ∃ n, n = xs.length := ⟨_, rfl⟩
  rw [← hn] at hr hc ⊢
  have HX := Lib.hid hr
  have hnew := fun W => mnew_no id m u b c z s me o a l W hk
  generalize checkC id m u b c z s me o a l = E at hnew hk
  have kb : (E == 0) = false := beq_eq_false_iff_ne.mpr hk; have kb2 : (E != 0) = true := bne_iff_ne.mpr hk
  have HN := Lib.hid hnew; clear hnew hr hn
  go_enter Try.func4, Try.ntmps4
  go_wp2_with first
    | (apply bx 4 #[.int .i64 id, .int .i64 m, .int .i64 u, .int .i64 b, .int .i64 c, .int .i64 z, .int .i64 s, .int .i64 me, .int .i64 o, .int .i64 a, .int .i64 l] 23; intro gC hg W1 hx hb; replace H := Lib.hid (H.out.made hx hb hg); clear hb hx hg; have cC := H.out.cell 0 rfl)
  go_wp2_with first
    | (go_at_call 22; refine (HN.out _).mono ?_; rintro e W2 ⟨rfl, hb⟩; clear cC; replace H := Lib.hid (H.out.called hb); clear hb; have cC := H.out.cell 0 rfl)
    | (apply bx 9 #[.int .i64 0, .int .i64 0, .int .i64 0, .int .i64 0, .int .i64 0, .int .i64 0, .int .i64 0, .int .i64 0, .int .i64 0, .int .i64 0, .int .i64 0, .slice none 0 0, .slice none 0 0, .slice none 0 0] 53; intro gM hg W3 hx hb; clear cC; replace H := Lib.hid (H.out.made hx hb hg); clear hb hx hg; have cM := H.out.cell 0 rfl; have cC := H.out.cell 1 rfl)
    | (have fM := H.out.froz 0 rfl; apply sv 53 9 gM 0 [.int .i64 0, .int .i64 0, .int .i64 0, .int .i64 0, .int .i64 0, .int .i64 0, .int .i64 0, .int .i64 0, .int .i64 0, .int .i64 0, .int .i64 0, .slice none 0 0, .slice none 0 0, .slice none 0 0]; intro W4 hw; clear fM; clear cM cC; replace H := Lib.hid (H.out.putw 0 rfl hw rfl rfl); clear hw; have cM := H.out.cell 0 rfl; have cC := H.out.cell 1 rfl)
  have tok1 : True := trivial
  go_wp2_with first
    | (go_at_call 23; have _t := tok1; refine (code18_any _ _).mono ?_; rintro e W5 ⟨rfl, hb⟩; clear cM cC; replace H := Lib.hid (H.out.called hb); clear hb; clear tok1; have cM := H.out.cell 0 rfl; have cC := H.out.cell 1 rfl)
    | (go_at_call 25; refine (live18_any _).mono ?_; rintro e W6 ⟨rfl, hb⟩; clear cM cC; replace H := Lib.hid (H.out.called hb); clear hb; have cM := H.out.cell 0 rfl; have cC := H.out.cell 1 rfl)
  go_ret
  exact ⟨rfl, H.out.below⟩
set_option maxHeartbeats 16000000 in
set_option maxRecDepth 100000 in
theorem reads18_much (id m u b c z s me o a l : Int) (Aa : Option Addr) (ca : Nat) (xs : List S65) (zn p : Int) (w : World) (hr : Kd.C k65 w Aa xs.length xs) (hc : xs.length ≤ ca) (p0 : 0 ≤ p) (p1 : p < 256) (hk : checkC id m u b c z s me o a l = 0) (hm : ∀ (W' : World), Below w.heap.size w W' → Calls Try.prog 24 #[.agg #[.int .i64 id, .int .i64 m, .int .i64 u, .int .i64 b, .int .i64 c, .int .i64 z, .int .i64 s, .int .i64 me, .int .i64 o, .int .i64 a, .int .i64 l], .slice Aa xs.length ca] W' fun e w' => e = .returned (.bool true) ∧ Below W'.heap.size W' w') :
    Calls Try.prog 4 #[.agg #[.int .i64 id, .int .i64 m, .int .i64 u, .int .i64 b, .int .i64 c, .int .i64 z, .int .i64 s, .int .i64 me, .int .i64 o, .int .i64 a, .int .i64 l], .slice Aa xs.length ca, .int .i64 zn, .int .u8 p] w fun e w' => e = .returned (.bool true) ∧ Below w.heap.size w w' := by
  have H := Lib.hid (Pk.start w)
  obtain ⟨n, hn⟩ : ∃ n, n = xs.length := ⟨_, rfl⟩
  rw [← hn] at hr hc hm ⊢
  have HX := Lib.hid hr
  have hnew := fun W => mnew_ok id m u b c z s me o a l W hk
  have HN := Lib.hid hnew; have HI0 := Lib.hid (minv_new id m u b c z s me o a l hk); have HM := Lib.hid hm; have HCB := Lib.hid (okC_bd (checkC_ok hk).1)
  clear hnew hr hn hm
  go_enter Try.func4, Try.ntmps4
  go_wp2_with first
    | (apply bx 4 #[.int .i64 id, .int .i64 m, .int .i64 u, .int .i64 b, .int .i64 c, .int .i64 z, .int .i64 s, .int .i64 me, .int .i64 o, .int .i64 a, .int .i64 l] 23; intro gC hg W1 hx hb; replace H := Lib.hid (H.out.made hx hb hg); clear hb hx hg; have cC := H.out.cell 0 rfl)
  go_wp2_with first
    | (go_at_call 22; refine (HN.out _).mono ?_; rintro e W2 ⟨x_, y_, q_, rfl, hM, hb⟩; clear cC; obtain ⟨B01, m01, j01, B02, m02, j02, B03, m03, j03, rfl, rfl, rfl⟩ := MR_shape hM; replace H := Lib.hid ((H.out.called hb).row (MrF w.heap.size (.slice B01 m01 j01) (.slice B02 m02 j02) (.slice B03 m03 j03) (⟨List.replicate z.toNat z59, List.replicate z.toNat ByteArray.empty, List.replicate z.toNat 0⟩)) (MR_lower hM H.out.below.size)); clear hM; clear hb; have cC := H.out.cell 0 rfl)
    | (apply bx 9 #[.int .i64 0, .int .i64 0, .int .i64 0, .int .i64 0, .int .i64 0, .int .i64 0, .int .i64 0, .int .i64 0, .int .i64 0, .int .i64 0, .int .i64 0, .slice none 0 0, .slice none 0 0, .slice none 0 0] 53; intro gM hg W3 hx hb; clear cC; replace H := Lib.hid (H.out.made hx hb hg); clear hb hx hg; have cM := H.out.cell 0 rfl; have cC := H.out.cell 1 rfl)
    | (have fM := H.out.froz 0 rfl; apply sv 53 9 gM 0 [.int .i64 id, .int .i64 m, .int .i64 u, .int .i64 b, .int .i64 c, .int .i64 z, .int .i64 s, .int .i64 me, .int .i64 o, .int .i64 a, .int .i64 l, .slice B01 m01 j01, .slice B02 m02 j02, .slice B03 m03 j03]; intro W4 hw; clear fM; clear cM cC; replace H := Lib.hid (H.out.putw 0 rfl hw rfl rfl); clear hw; have cM := H.out.cell 0 rfl; have cC := H.out.cell 1 rfl)
  have tok1 : True := trivial
  go_wp2_with first
    | (go_at_call 23; have _t := tok1; refine (code18_any _ _).mono ?_; rintro e W5 ⟨rfl, hb⟩; clear cM cC; replace H := Lib.hid (H.out.called hb); clear hb; clear tok1; have cM := H.out.cell 0 rfl; have cC := H.out.cell 1 rfl)
    | (go_at_call 24; refine (HM.out _ H.out.below).mono ?_; rintro e W6 ⟨rfl, hb⟩; clear cM cC; replace H := Lib.hid (H.out.called hb); clear hb; have cM := H.out.cell 0 rfl; have cC := H.out.cell 1 rfl)
    | (go_at_call 25; refine (live18_any _).mono ?_; rintro e W7 ⟨rfl, hb⟩; clear cM cC; replace H := Lib.hid (H.out.called hb); clear hb; have cM := H.out.cell 0 rfl; have cC := H.out.cell 1 rfl)
  go_ret
  exact ⟨rfl, H.out.below⟩
set_option maxHeartbeats 16000000 in
set_option maxRecDepth 100000 in
theorem reads18_go (id m u b c z s me o a l : Int) (Aa : Option Addr) (ca : Nat) (xs : List S65) (zn p : Int) (w : World) (hr : Kd.C k65 w Aa xs.length xs) (hc : xs.length ≤ ca) (p0 : 0 ≤ p) (p1 : p < 256) (hk : checkC id m u b c z s me o a l = 0) (hm : ∀ (W' : World), Below w.heap.size w W' → Calls Try.prog 24 #[.agg #[.int .i64 id, .int .i64 m, .int .i64 u, .int .i64 b, .int .i64 c, .int .i64 z, .int .i64 s, .int .i64 me, .int .i64 o, .int .i64 a, .int .i64 l], .slice Aa xs.length ca] W' fun e w' => e = .returned (.bool false) ∧ Below W'.heap.size W' w') (h40 : xs.length ≤ 40) :
    Calls Try.prog 4 #[.agg #[.int .i64 id, .int .i64 m, .int .i64 u, .int .i64 b, .int .i64 c, .int .i64 z, .int .i64 s, .int .i64 me, .int .i64 o, .int .i64 a, .int .i64 l], .slice Aa xs.length ca, .int .i64 zn, .int .u8 p] w fun e w' => e = .returned (.bool true) ∧ Below w.heap.size w w' := by
  have H := Lib.hid (Pk.start w)
  obtain ⟨n, hn⟩ : ∃ n, n = xs.length := ⟨_, rfl⟩
  rw [← hn] at hr hc hm ⊢
  rw [← hn] at h40; have c40 : (n : Int) ≤ 40 := by omega
  have HX := Lib.hid hr
  have hnew := fun W => mnew_ok id m u b c z s me o a l W hk
  have HN := Lib.hid hnew; have HI0 := Lib.hid (minv_new id m u b c z s me o a l hk); have HM := Lib.hid hm; have HCB := Lib.hid (okC_bd (checkC_ok hk).1)
  clear hnew hr hn hm
  go_enter Try.func4, Try.ntmps4
  go_wp2_with first
    | (apply bx 4 #[.int .i64 id, .int .i64 m, .int .i64 u, .int .i64 b, .int .i64 c, .int .i64 z, .int .i64 s, .int .i64 me, .int .i64 o, .int .i64 a, .int .i64 l] 23; intro gC hg W1 hx hb; replace H := Lib.hid (H.out.made hx hb hg); clear hb hx hg; have cC := H.out.cell 0 rfl)
  go_wp2_with first
    | (go_at_call 22; refine (HN.out _).mono ?_; rintro e W2 ⟨x_, y_, q_, rfl, hM, hb⟩; clear cC; obtain ⟨B01, m01, j01, B02, m02, j02, B03, m03, j03, rfl, rfl, rfl⟩ := MR_shape hM; replace H := Lib.hid ((H.out.called hb).row (MrF w.heap.size (.slice B01 m01 j01) (.slice B02 m02 j02) (.slice B03 m03 j03) (⟨List.replicate z.toNat z59, List.replicate z.toNat ByteArray.empty, List.replicate z.toNat 0⟩)) (MR_lower hM H.out.below.size)); clear hM; clear hb; have cC := H.out.cell 0 rfl)
    | (apply bx 9 #[.int .i64 0, .int .i64 0, .int .i64 0, .int .i64 0, .int .i64 0, .int .i64 0, .int .i64 0, .int .i64 0, .int .i64 0, .int .i64 0, .int .i64 0, .slice none 0 0, .slice none 0 0, .slice none 0 0] 53; intro gM hg W3 hx hb; clear cC; replace H := Lib.hid (H.out.made hx hb hg); clear hb hx hg; have cM := H.out.cell 0 rfl; have cC := H.out.cell 1 rfl)
    | (have fM := H.out.froz 0 rfl; apply sv 53 9 gM 0 [.int .i64 id, .int .i64 m, .int .i64 u, .int .i64 b, .int .i64 c, .int .i64 z, .int .i64 s, .int .i64 me, .int .i64 o, .int .i64 a, .int .i64 l, .slice B01 m01 j01, .slice B02 m02 j02, .slice B03 m03 j03]; intro W4 hw; clear fM; clear cM cC; replace H := Lib.hid (H.out.putw 0 rfl hw rfl rfl); clear hw; have cM := H.out.cell 0 rfl; have cC := H.out.cell 1 rfl)
  have tok1 : True := trivial
  go_wp2_with first
    | (go_at_call 23; have _t := tok1; refine (code18_any _ _).mono ?_; rintro e W5 ⟨rfl, hb⟩; clear cM cC; replace H := Lib.hid (H.out.called hb); clear hb; clear tok1; have cM := H.out.cell 0 rfl; have cC := H.out.cell 1 rfl)
    | (go_at_call 24; refine (HM.out _ H.out.below).mono ?_; rintro e W6 ⟨rfl, hb⟩; clear cM cC; replace H := Lib.hid (H.out.called hb); clear hb; have cM := H.out.cell 0 rfl; have cC := H.out.cell 1 rfl)
  go_loopw [11, 12] (fun v11 v12 wr => ∃ (j : Nat) (D : Mdl) (sx : ByteArray) (B1 : Option Addr) (m1 j1 : Nat) (B2 : Option Addr) (m2 j2 : Nat) (B3 : Option Addr) (m3 j3 : Nat), v11 = .string sx ∧ v12 = .int .i64 j ∧ j ≤ n ∧ Hid (MInv2 id m u b c z s me o a l D) ∧ Hid (WrIs D zn sx) ∧ Hid (Pk w wr [⟨gM, 53, #[.int .i64 id, .int .i64 m, .int .i64 u, .int .i64 b, .int .i64 c, .int .i64 z, .int .i64 s, .int .i64 me, .int .i64 o, .int .i64 a, .int .i64 l, .slice B1 m1 j1, .slice B2 m2 j2, .slice B3 m3 j3]⟩, ⟨gC, 23, #[.int .i64 id, .int .i64 m, .int .i64 u, .int .i64 b, .int .i64 c, .int .i64 z, .int .i64 s, .int .i64 me, .int .i64 o, .int .i64 a, .int .i64 l]⟩] [MrF w.heap.size (.slice B1 m1 j1) (.slice B2 m2 j2) (.slice B3 m3 j3) D])) (fun v11 v12 _ => ((n : Int) - intOf v12).toNat)
  case atStart => exact ⟨0, _, ByteArray.empty, B01, m01, j01, B02, m02, j02, B03, m03, j03, rfl, rfl, by omega, HI0, Lib.hid (wr_new zn rfl), H⟩
  case round =>
    clear H cM cC
    obtain ⟨j, D, sx, B1, m1, j1, B2, m2, j2, B3, m3, j3, rfl, rfl, hj, HI, HW, H⟩ := hrel
    by_cases hlt : j < n
    · have c1 : (j : Int) < (n : Int) := by omega
      obtain ⟨ad, A4, c4, e, hl4, hat⟩ := cmd_at HX.out j hlt
      subst e
      have q1 : (0 : Int) ≤ (j : Int) := by omega
      have e2 : wrap64 ((j : Int) + 1) = ((j + 1 : Nat) : Int) := by unfold wrap64; push_cast; omega
      have hdo : ∀ (W : World) (h : MC W (.slice B1 m1 j1) (.slice B2 m2 j2) (.slice B3 m3 j3) D) (hd : Kd.C (Kd.int .u8) W A4 (rd_T65 xs j).f4.length (rd_T65 xs j).f4), Calls Try.prog 26 #[modV id m u b c z s me o a l (.slice B1 m1 j1) (.slice B2 m2 j2) (.slice B3 m3 j3), cmdV (rd_T65 xs j).f0 (rd_T65 xs j).f1 (rd_T65 xs j).f2 (rd_T65 xs j).f3 (.slice A4 (rd_T65 xs j).f4.length c4) (rd_T65 xs j).f5] W (RepP id m u b c z s me o a l (.slice B1 m1 j1) (.slice B2 m2 j2) (.slice B3 m3 j3) D (doM id m u b c z s me o a l D (rd_T65 xs j)).1 (doM id m u b c z s me o a l D (rd_T65 xs j)).2.1 (bytesOf (doM id m u b c z s me o a l D (rd_T65 xs j)).2.2.1) (doM id m u b c z s me o a l D (rd_T65 xs j)).2.2.2 W) := fun W h hd => mdo_any id m u b c z s me o a l (.slice B1 m1 j1) (.slice B2 m2 j2) (.slice B3 m3 j3) D (rd_T65 xs j).f0 (rd_T65 xs j).f1 (rd_T65 xs j).f2 (rd_T65 xs j).f3 A4 c4 (rd_T65 xs j).f4 (rd_T65 xs j).f5 W h HI.out.1 hd hl4
      have hok := doM_ok HI.out (rd_T65 xs j)
      have hlen := doM_len HI.out (rd_T65 xs j)
      generalize doM id m u b c z s me o a l D (rd_T65 xs j) = r at hdo hok hlen
      obtain ⟨N, E, dt, zz⟩ := r
      dsimp only at hdo hok hlen
      have HWN := Lib.hid (wr_step HI.out.1 hok.1.1 hlen HW.out hok.2.1 hok.2.2)
      obtain ⟨lx, hlx⟩ : ∃ q, q = (rd_T65 xs j).f4.length := ⟨_, rfl⟩
      obtain ⟨ds, hds⟩ : ∃ q, q = strOfNums (rd_T65 xs j).f4 := ⟨_, rfl⟩
      rw [← hlx] at hdo
      have hat2 := fun (W : World) (hb : Below w.heap.size w W) => hat hb
      rw [← hlx] at hat2
      have HIN := Lib.hid hok.1; have HD := Lib.hid hdo; have HAT := Lib.hid hat2; have HDS := Lib.hid hds; clear hdo hok hat hat2 hlx hl4 hlen hds
      have cM := H.out.cell 0 rfl
      have cC := H.out.cell 1 rfl
      go_wp2
      clear cM cC
      refine start_ (n := 13) (S := fun W => (∀ j_, W.cell? ⟨gM, j_, none⟩ = (#[.int .i64 id, .int .i64 m, .int .i64 u, .int .i64 b, .int .i64 c, .int .i64 z, .int .i64 s, .int .i64 me, .int .i64 o, .int .i64 a, .int .i64 l, .slice B1 m1 j1, .slice B2 m2 j2, .slice B3 m3 j3] : Array Value)[j_]?) ∧ (W.cell? (ad.add (j * 6)) = some (.int .i64 (rd_T65 xs j).f0) ∧ W.cell? ⟨(ad.add (j * 6)).block, (ad.add (j * 6)).off + 1, none⟩ = some (.int .i64 (rd_T65 xs j).f1) ∧ W.cell? ⟨(ad.add (j * 6)).block, (ad.add (j * 6)).off + 2, none⟩ = some (.int .i64 (rd_T65 xs j).f2) ∧ W.cell? ⟨(ad.add (j * 6)).block, (ad.add (j * 6)).off + 3, none⟩ = some (.int .i64 (rd_T65 xs j).f3) ∧ W.cell? ⟨(ad.add (j * 6)).block, (ad.add (j * 6)).off + 4, none⟩ = some (.slice A4 lx c4) ∧ W.cell? ⟨(ad.add (j * 6)).block, (ad.add (j * 6)).off + 5, none⟩ = some (.bool (rd_T65 xs j).f5))) (ds := []) (bq 13 0) (by kernel_rfl) rfl (by kernel_rfl) ⟨H.out.drew.cell 0 rfl, (HAT.out _ (H.out.drew).below).2⟩ (fun hHeld => ?_)
      refine with_tabW tab_revetmentlaw18_ModelReads_8 bits_revetmentlaw18_ModelReads_8 (fun HT_ HW_ => ?_)
      have zH := H.out.drew
      generalize wr.drew = W31 at zH hHeld ⊢
      replace H := Lib.hid zH; clear zH
      apply tw 0 39 (bq 13 1) HT_ HW_ hHeld
      apply pu 1 40 (bq 13 3) HT_
      apply pu 2 41 (bq 13 7) HT_
      apply pu 3 42 (bq 13 15) HT_
      apply tw 4 43 (bq 13 31) HT_ HW_ hHeld
      have b0 := Lib.hid (Below.refl W31.heap.size W31)
      refine join_ (σ := Option Addr × Nat × Nat × Option Addr × Nat × Nat × Option Addr × Nat × Nat × Option Addr × Nat × Nat × Nat × Nat) 2 (bq 13 2047) (fun y => [(44, .tuple #[modV id m u b c z s me o a l (.slice y.1 y.2.1 y.2.2.1) (.slice y.2.2.2.1 y.2.2.2.2.1 y.2.2.2.2.2.1) (.slice y.2.2.2.2.2.2.1 y.2.2.2.2.2.2.2.1 y.2.2.2.2.2.2.2.2.1), repV E (.slice y.2.2.2.2.2.2.2.2.2.1 y.2.2.2.2.2.2.2.2.2.2.1 y.2.2.2.2.2.2.2.2.2.2.2.1) zz.f0 zz.f1 zz.f2]), (38, .tuple #[modV id m u b c z s me o a l (.slice y.1 y.2.1 y.2.2.1) (.slice y.2.2.2.1 y.2.2.2.2.1 y.2.2.2.2.2.1) (.slice y.2.2.2.2.2.2.1 y.2.2.2.2.2.2.2.1 y.2.2.2.2.2.2.2.2.1), repV E (.slice y.2.2.2.2.2.2.2.2.2.1 y.2.2.2.2.2.2.2.2.2.2.1 y.2.2.2.2.2.2.2.2.2.2.2.1) zz.f0 zz.f1 zz.f2]), (45, modV id m u b c z s me o a l (.slice y.1 y.2.1 y.2.2.1) (.slice y.2.2.2.1 y.2.2.2.2.1 y.2.2.2.2.2.1) (.slice y.2.2.2.2.2.2.1 y.2.2.2.2.2.2.2.1 y.2.2.2.2.2.2.2.2.1)), (46, repV E (.slice y.2.2.2.2.2.2.2.2.2.1 y.2.2.2.2.2.2.2.2.2.2.1 y.2.2.2.2.2.2.2.2.2.2.2.1) zz.f0 zz.f1 zz.f2), (13, .pointer (some ⟨y.2.2.2.2.2.2.2.2.2.2.2.2.1, 0, none⟩)), (14, .pointer (some ⟨y.2.2.2.2.2.2.2.2.2.2.2.2.2, 0, none⟩))]) (fun y W => ((∀ j_, W.cell? ⟨gM, j_, none⟩ = (#[.int .i64 id, .int .i64 m, .int .i64 u, .int .i64 b, .int .i64 c, .int .i64 z, .int .i64 s, .int .i64 me, .int .i64 o, .int .i64 a, .int .i64 l, .slice B1 m1 j1, .slice B2 m2 j2, .slice B3 m3 j3] : Array Value)[j_]?) ∧ (W.cell? (ad.add (j * 6)) = some (.int .i64 (rd_T65 xs j).f0) ∧ W.cell? ⟨(ad.add (j * 6)).block, (ad.add (j * 6)).off + 1, none⟩ = some (.int .i64 (rd_T65 xs j).f1) ∧ W.cell? ⟨(ad.add (j * 6)).block, (ad.add (j * 6)).off + 2, none⟩ = some (.int .i64 (rd_T65 xs j).f2) ∧ W.cell? ⟨(ad.add (j * 6)).block, (ad.add (j * 6)).off + 3, none⟩ = some (.int .i64 (rd_T65 xs j).f3) ∧ W.cell? ⟨(ad.add (j * 6)).block, (ad.add (j * 6)).off + 4, none⟩ = some (.slice A4 lx c4) ∧ W.cell? ⟨(ad.add (j * 6)).block, (ad.add (j * 6)).off + 5, none⟩ = some (.bool (rd_T65 xs j).f5))) ∧ Below W31.heap.size W31 W ∧ W.heap[y.2.2.2.2.2.2.2.2.2.2.2.2.1]? = some (.cells #[.int .i64 0, .int .i64 0, .int .i64 0, .int .i64 0, .int .i64 0, .int .i64 0, .int .i64 0, .int .i64 0, .int .i64 0, .int .i64 0, .int .i64 0, .slice none 0 0, .slice none 0 0, .slice none 0 0] 53 (0, 0)) ∧ W.heap[y.2.2.2.2.2.2.2.2.2.2.2.2.2]? = some (.cells #[.int .i64 0, .slice none 0 0, .int .i64 0, .int .i64 0, .int .i64 0] 61 (0, 0)) ∧ W31.heap.size ≤ y.2.2.2.2.2.2.2.2.2.2.2.2.1 ∧ W31.heap.size ≤ y.2.2.2.2.2.2.2.2.2.2.2.2.2 ∧ y.2.2.2.2.2.2.2.2.2.2.2.2.1 ≠ y.2.2.2.2.2.2.2.2.2.2.2.2.2 ∧ BR W (.slice y.2.2.2.2.2.2.2.2.2.1 y.2.2.2.2.2.2.2.2.2.2.1 y.2.2.2.2.2.2.2.2.2.2.2.1) (bytesOf dt) ∧ (MrF w.heap.size (.slice y.1 y.2.1 y.2.2.1) (.slice y.2.2.2.1 y.2.2.2.2.1 y.2.2.2.2.2.1) (.slice y.2.2.2.2.2.2.1 y.2.2.2.2.2.2.2.1 y.2.2.2.2.2.2.2.2.1) (N)).P W) ?_ ?_
      rotate_left
      · intro hCont
        refine three_ (i := 5) (j := 9) (k := 10) (Ni := some 44) (Nj := some 13) (Nk := some 14) (bq 13 63) (bq 13 543) (bq 13 1055) rfl rfl rfl rfl rfl rfl (three_of HT_.out (by kernel_rfl)) (by decide) (by decide) (by decide) (fun K hK => ?_) (fun K hK => ?_) (fun K hK => ?_)
        · refine gs Try.func26 #[modV id m u b c z s me o a l (.slice B1 m1 j1) (.slice B2 m2 j2) (.slice B3 m3 j3), cmdV (rd_T65 xs j).f0 (rd_T65 xs j).f1 (rd_T65 xs j).f2 (rd_T65 xs j).f3 (.slice A4 lx c4) (rd_T65 xs j).f5] ?_
          refine (HD.out _ (MC_R (H.out.fact 0 rfl)) (HAT.out _ H.out.below).1).mono ?_
          rintro e W32 hP
          obtain ⟨B51, m51, j51, B52, m52, j52, B53, m53, j53, B54, m54, j54, rfl, hM, hB, hb⟩ := RepP_open hP
          clear hP
          refine ⟨_, rfl, ?_⟩
          have hb0_ := H.out.below.size; replace H := Lib.hid ((H.out.called hb).row (MrF w.heap.size (.slice B51 m51 j51) (.slice B52 m52 j52) (.slice B53 m53 j53) (N)) (MD_R hM ((H.out.called hb).fact 0 rfl) H.out.below.size))
          replace H := Lib.hid ((H.out).row (BytF (.slice B54 m54 j54) (bytesOf dt)) (hB))
          clear hb0_
          replace b0 := Lib.hid (below_step b0.out hb)
          clear hM hB
          clear hb
          refine hK.out _ _ ⟨H.out.cell 0 rfl, (HAT.out _ H.out.below).2⟩ (fun hHeld => ?_)
          clear hK K
          apply nm 0
          apply pu 6 38 (bq 13 127) HT_
          apply pu 7 45 (bq 13 255) HT_
          apply pu 8 46 (bq 13 511) HT_
          refine two_ (i := 9) (j := 10) (Ni := some 13) (Nj := some 14) (bq 13 1023) (bq 13 1535) rfl rfl rfl rfl (two_of HT_.out (by kernel_rfl)) (by decide) (by decide) (fun K hK => ?_) (fun K hK => ?_)
          · have cM := H.out.cell 0 rfl
            have cC := H.out.cell 1 rfl
            apply bxs 13 #[.int .i64 0, .int .i64 0, .int .i64 0, .int .i64 0, .int .i64 0, .int .i64 0, .int .i64 0, .int .i64 0, .int .i64 0, .int .i64 0, .int .i64 0, .slice none 0 0, .slice none 0 0, .slice none 0 0] 53
            intro gU hg W33 hx hb
            clear cM cC
            have GU := Lib.hid (Nat.le_trans b0.out.size hg)
            replace H := Lib.hid (H.out.made hx hb hg)
            replace b0 := Lib.hid (below_step b0.out hb)
            clear hb hx hg
            refine hK.out _ _ ⟨H.out.cell 1 rfl, (HAT.out _ H.out.below).2⟩ (fun hHeld => ?_)
            clear hK K
            apply nm 0
            apply on 10 (some 14) (bq 13 2047) HT_; intro K hK
            have cU := H.out.cell 0 rfl
            have cM := H.out.cell 1 rfl
            have cC := H.out.cell 2 rfl
            apply bxs 14 #[.int .i64 0, .slice none 0 0, .int .i64 0, .int .i64 0, .int .i64 0] 61
            intro gP hg W34 hx hb
            clear cU cM cC
            have GP := Lib.hid (Nat.le_trans b0.out.size hg)
            replace H := Lib.hid (H.out.made hx hb hg)
            replace b0 := Lib.hid (below_step b0.out hb)
            clear hb hx hg
            refine hK.out _ _ ⟨H.out.cell 2 rfl, (HAT.out _ H.out.below).2⟩ (fun hHeld => ?_)
            clear hK K
            apply nm 0
            have hn_UP := (H.out.dist 0 1 rfl rfl (by decide)).symm
            exact norm_ (by simp only [putAll, Act.put, List.setIfInBounds_toArray, List.set_cons_zero, List.set_cons_succ]) (hCont (B51, m51, j51, B52, m52, j52, B53, m53, j53, B54, m54, j54, gU, gP) _ ⟨hHeld, b0.out, H.out.at_ 1 rfl, H.out.at_ 0 rfl, GU.out, GP.out, hn_UP, H.out.fact 0 rfl, H.out.fact 1 rfl⟩)
          · have cM := H.out.cell 0 rfl
            have cC := H.out.cell 1 rfl
            apply bxs 14 #[.int .i64 0, .slice none 0 0, .int .i64 0, .int .i64 0, .int .i64 0] 61
            intro gP hg W33 hx hb
            clear cM cC
            have GP := Lib.hid (Nat.le_trans b0.out.size hg)
            replace H := Lib.hid (H.out.made hx hb hg)
            replace b0 := Lib.hid (below_step b0.out hb)
            clear hb hx hg
            refine hK.out _ _ ⟨H.out.cell 1 rfl, (HAT.out _ H.out.below).2⟩ (fun hHeld => ?_)
            clear hK K
            apply nm 0
            apply on 9 (some 13) (bq 13 2047) HT_; intro K hK
            have cP := H.out.cell 0 rfl
            have cM := H.out.cell 1 rfl
            have cC := H.out.cell 2 rfl
            apply bxs 13 #[.int .i64 0, .int .i64 0, .int .i64 0, .int .i64 0, .int .i64 0, .int .i64 0, .int .i64 0, .int .i64 0, .int .i64 0, .int .i64 0, .int .i64 0, .slice none 0 0, .slice none 0 0, .slice none 0 0] 53
            intro gU hg W34 hx hb
            clear cP cM cC
            have GU := Lib.hid (Nat.le_trans b0.out.size hg)
            replace H := Lib.hid (H.out.made hx hb hg)
            replace b0 := Lib.hid (below_step b0.out hb)
            clear hb hx hg
            refine hK.out _ _ ⟨H.out.cell 2 rfl, (HAT.out _ H.out.below).2⟩ (fun hHeld => ?_)
            clear hK K
            apply nm 0
            have hn_UP := H.out.dist 0 1 rfl rfl (by decide)
            exact norm_ (by simp only [putAll, Act.put, List.setIfInBounds_toArray, List.set_cons_zero, List.set_cons_succ]) (hCont (B51, m51, j51, B52, m52, j52, B53, m53, j53, B54, m54, j54, gU, gP) _ ⟨hHeld, b0.out, H.out.at_ 0 rfl, H.out.at_ 1 rfl, GU.out, GP.out, hn_UP, H.out.fact 0 rfl, H.out.fact 1 rfl⟩)
        · have cM := H.out.cell 0 rfl
          have cC := H.out.cell 1 rfl
          apply bxs 13 #[.int .i64 0, .int .i64 0, .int .i64 0, .int .i64 0, .int .i64 0, .int .i64 0, .int .i64 0, .int .i64 0, .int .i64 0, .int .i64 0, .int .i64 0, .slice none 0 0, .slice none 0 0, .slice none 0 0] 53
          intro gU hg W32 hx hb
          clear cM cC
          have GU := Lib.hid (Nat.le_trans b0.out.size hg)
          replace H := Lib.hid (H.out.made hx hb hg)
          replace b0 := Lib.hid (below_step b0.out hb)
          clear hb hx hg
          refine hK.out _ _ ⟨H.out.cell 1 rfl, (HAT.out _ H.out.below).2⟩ (fun hHeld => ?_)
          clear hK K
          apply nm 0
          refine two_ (i := 5) (j := 10) (Ni := some 44) (Nj := some 14) (bq 13 575) (bq 13 1567) rfl rfl rfl rfl (two_of HT_.out (by kernel_rfl)) (by decide) (by decide) (fun K hK => ?_) (fun K hK => ?_)
          · refine gs Try.func26 #[modV id m u b c z s me o a l (.slice B1 m1 j1) (.slice B2 m2 j2) (.slice B3 m3 j3), cmdV (rd_T65 xs j).f0 (rd_T65 xs j).f1 (rd_T65 xs j).f2 (rd_T65 xs j).f3 (.slice A4 lx c4) (rd_T65 xs j).f5] ?_
            refine (HD.out _ (MC_R (H.out.fact 0 rfl)) (HAT.out _ H.out.below).1).mono ?_
            rintro e W33 hP
            obtain ⟨B51, m51, j51, B52, m52, j52, B53, m53, j53, B54, m54, j54, rfl, hM, hB, hb⟩ := RepP_open hP
            clear hP
            refine ⟨_, rfl, ?_⟩
            have hb0_ := H.out.below.size; replace H := Lib.hid ((H.out.called hb).row (MrF w.heap.size (.slice B51 m51 j51) (.slice B52 m52 j52) (.slice B53 m53 j53) (N)) (MD_R hM ((H.out.called hb).fact 0 rfl) H.out.below.size))
            replace H := Lib.hid ((H.out).row (BytF (.slice B54 m54 j54) (bytesOf dt)) (hB))
            clear hb0_
            replace b0 := Lib.hid (below_step b0.out hb)
            clear hM hB
            clear hb
            refine hK.out _ _ ⟨H.out.cell 1 rfl, (HAT.out _ H.out.below).2⟩ (fun hHeld => ?_)
            clear hK K
            apply nm 0
            apply pu 6 38 (bq 13 639) HT_
            apply pu 7 45 (bq 13 767) HT_
            apply pu 8 46 (bq 13 1023) HT_
            apply on 10 (some 14) (bq 13 2047) HT_; intro K hK
            have cU := H.out.cell 0 rfl
            have cM := H.out.cell 1 rfl
            have cC := H.out.cell 2 rfl
            apply bxs 14 #[.int .i64 0, .slice none 0 0, .int .i64 0, .int .i64 0, .int .i64 0] 61
            intro gP hg W34 hx hb
            clear cU cM cC
            have GP := Lib.hid (Nat.le_trans b0.out.size hg)
            replace H := Lib.hid (H.out.made hx hb hg)
            replace b0 := Lib.hid (below_step b0.out hb)
            clear hb hx hg
            refine hK.out _ _ ⟨H.out.cell 2 rfl, (HAT.out _ H.out.below).2⟩ (fun hHeld => ?_)
            clear hK K
            apply nm 0
            have hn_UP := (H.out.dist 0 1 rfl rfl (by decide)).symm
            exact norm_ (by simp only [putAll, Act.put, List.setIfInBounds_toArray, List.set_cons_zero, List.set_cons_succ]) (hCont (B51, m51, j51, B52, m52, j52, B53, m53, j53, B54, m54, j54, gU, gP) _ ⟨hHeld, b0.out, H.out.at_ 1 rfl, H.out.at_ 0 rfl, GU.out, GP.out, hn_UP, H.out.fact 0 rfl, H.out.fact 1 rfl⟩)
          · have cU := H.out.cell 0 rfl
            have cM := H.out.cell 1 rfl
            have cC := H.out.cell 2 rfl
            apply bxs 14 #[.int .i64 0, .slice none 0 0, .int .i64 0, .int .i64 0, .int .i64 0] 61
            intro gP hg W33 hx hb
            clear cU cM cC
            have GP := Lib.hid (Nat.le_trans b0.out.size hg)
            replace H := Lib.hid (H.out.made hx hb hg)
            replace b0 := Lib.hid (below_step b0.out hb)
            clear hb hx hg
            refine hK.out _ _ ⟨H.out.cell 2 rfl, (HAT.out _ H.out.below).2⟩ (fun hHeld => ?_)
            clear hK K
            apply nm 0
            apply on 5 (some 44) (bq 13 1599) HT_; intro K hK
            refine gs Try.func26 #[modV id m u b c z s me o a l (.slice B1 m1 j1) (.slice B2 m2 j2) (.slice B3 m3 j3), cmdV (rd_T65 xs j).f0 (rd_T65 xs j).f1 (rd_T65 xs j).f2 (rd_T65 xs j).f3 (.slice A4 lx c4) (rd_T65 xs j).f5] ?_
            refine (HD.out _ (MC_R (H.out.fact 0 rfl)) (HAT.out _ H.out.below).1).mono ?_
            rintro e W34 hP
            obtain ⟨B51, m51, j51, B52, m52, j52, B53, m53, j53, B54, m54, j54, rfl, hM, hB, hb⟩ := RepP_open hP
            clear hP
            refine ⟨_, rfl, ?_⟩
            have hb0_ := H.out.below.size; replace H := Lib.hid ((H.out.called hb).row (MrF w.heap.size (.slice B51 m51 j51) (.slice B52 m52 j52) (.slice B53 m53 j53) (N)) (MD_R hM ((H.out.called hb).fact 0 rfl) H.out.below.size))
            replace H := Lib.hid ((H.out).row (BytF (.slice B54 m54 j54) (bytesOf dt)) (hB))
            clear hb0_
            replace b0 := Lib.hid (below_step b0.out hb)
            clear hM hB
            clear hb
            refine hK.out _ _ ⟨H.out.cell 2 rfl, (HAT.out _ H.out.below).2⟩ (fun hHeld => ?_)
            clear hK K
            apply nm 0
            apply pu 6 38 (bq 13 1663) HT_
            apply pu 7 45 (bq 13 1791) HT_
            apply pu 8 46 (bq 13 2047) HT_
            have hn_UP := (H.out.dist 0 1 rfl rfl (by decide)).symm
            exact norm_ (by simp only [putAll, Act.put, List.setIfInBounds_toArray, List.set_cons_zero, List.set_cons_succ]) (hCont (B51, m51, j51, B52, m52, j52, B53, m53, j53, B54, m54, j54, gU, gP) _ ⟨hHeld, b0.out, H.out.at_ 1 rfl, H.out.at_ 0 rfl, GU.out, GP.out, hn_UP, H.out.fact 0 rfl, H.out.fact 1 rfl⟩)
        · have cM := H.out.cell 0 rfl
          have cC := H.out.cell 1 rfl
          apply bxs 14 #[.int .i64 0, .slice none 0 0, .int .i64 0, .int .i64 0, .int .i64 0] 61
          intro gP hg W32 hx hb
          clear cM cC
          have GP := Lib.hid (Nat.le_trans b0.out.size hg)
          replace H := Lib.hid (H.out.made hx hb hg)
          replace b0 := Lib.hid (below_step b0.out hb)
          clear hb hx hg
          refine hK.out _ _ ⟨H.out.cell 1 rfl, (HAT.out _ H.out.below).2⟩ (fun hHeld => ?_)
          clear hK K
          apply nm 0
          refine two_ (i := 5) (j := 9) (Ni := some 44) (Nj := some 13) (bq 13 1087) (bq 13 1567) rfl rfl rfl rfl (two_of HT_.out (by kernel_rfl)) (by decide) (by decide) (fun K hK => ?_) (fun K hK => ?_)
          · refine gs Try.func26 #[modV id m u b c z s me o a l (.slice B1 m1 j1) (.slice B2 m2 j2) (.slice B3 m3 j3), cmdV (rd_T65 xs j).f0 (rd_T65 xs j).f1 (rd_T65 xs j).f2 (rd_T65 xs j).f3 (.slice A4 lx c4) (rd_T65 xs j).f5] ?_
            refine (HD.out _ (MC_R (H.out.fact 0 rfl)) (HAT.out _ H.out.below).1).mono ?_
            rintro e W33 hP
            obtain ⟨B51, m51, j51, B52, m52, j52, B53, m53, j53, B54, m54, j54, rfl, hM, hB, hb⟩ := RepP_open hP
            clear hP
            refine ⟨_, rfl, ?_⟩
            have hb0_ := H.out.below.size; replace H := Lib.hid ((H.out.called hb).row (MrF w.heap.size (.slice B51 m51 j51) (.slice B52 m52 j52) (.slice B53 m53 j53) (N)) (MD_R hM ((H.out.called hb).fact 0 rfl) H.out.below.size))
            replace H := Lib.hid ((H.out).row (BytF (.slice B54 m54 j54) (bytesOf dt)) (hB))
            clear hb0_
            replace b0 := Lib.hid (below_step b0.out hb)
            clear hM hB
            clear hb
            refine hK.out _ _ ⟨H.out.cell 1 rfl, (HAT.out _ H.out.below).2⟩ (fun hHeld => ?_)
            clear hK K
            apply nm 0
            apply pu 6 38 (bq 13 1151) HT_
            apply pu 7 45 (bq 13 1279) HT_
            apply pu 8 46 (bq 13 1535) HT_
            apply on 9 (some 13) (bq 13 2047) HT_; intro K hK
            have cP := H.out.cell 0 rfl
            have cM := H.out.cell 1 rfl
            have cC := H.out.cell 2 rfl
            apply bxs 13 #[.int .i64 0, .int .i64 0, .int .i64 0, .int .i64 0, .int .i64 0, .int .i64 0, .int .i64 0, .int .i64 0, .int .i64 0, .int .i64 0, .int .i64 0, .slice none 0 0, .slice none 0 0, .slice none 0 0] 53
            intro gU hg W34 hx hb
            clear cP cM cC
            have GU := Lib.hid (Nat.le_trans b0.out.size hg)
            replace H := Lib.hid (H.out.made hx hb hg)
            replace b0 := Lib.hid (below_step b0.out hb)
            clear hb hx hg
            refine hK.out _ _ ⟨H.out.cell 2 rfl, (HAT.out _ H.out.below).2⟩ (fun hHeld => ?_)
            clear hK K
            apply nm 0
            have hn_UP := H.out.dist 0 1 rfl rfl (by decide)
            exact norm_ (by simp only [putAll, Act.put, List.setIfInBounds_toArray, List.set_cons_zero, List.set_cons_succ]) (hCont (B51, m51, j51, B52, m52, j52, B53, m53, j53, B54, m54, j54, gU, gP) _ ⟨hHeld, b0.out, H.out.at_ 0 rfl, H.out.at_ 1 rfl, GU.out, GP.out, hn_UP, H.out.fact 0 rfl, H.out.fact 1 rfl⟩)
          · have cP := H.out.cell 0 rfl
            have cM := H.out.cell 1 rfl
            have cC := H.out.cell 2 rfl
            apply bxs 13 #[.int .i64 0, .int .i64 0, .int .i64 0, .int .i64 0, .int .i64 0, .int .i64 0, .int .i64 0, .int .i64 0, .int .i64 0, .int .i64 0, .int .i64 0, .slice none 0 0, .slice none 0 0, .slice none 0 0] 53
            intro gU hg W33 hx hb
            clear cP cM cC
            have GU := Lib.hid (Nat.le_trans b0.out.size hg)
            replace H := Lib.hid (H.out.made hx hb hg)
            replace b0 := Lib.hid (below_step b0.out hb)
            clear hb hx hg
            refine hK.out _ _ ⟨H.out.cell 2 rfl, (HAT.out _ H.out.below).2⟩ (fun hHeld => ?_)
            clear hK K
            apply nm 0
            apply on 5 (some 44) (bq 13 1599) HT_; intro K hK
            refine gs Try.func26 #[modV id m u b c z s me o a l (.slice B1 m1 j1) (.slice B2 m2 j2) (.slice B3 m3 j3), cmdV (rd_T65 xs j).f0 (rd_T65 xs j).f1 (rd_T65 xs j).f2 (rd_T65 xs j).f3 (.slice A4 lx c4) (rd_T65 xs j).f5] ?_
            refine (HD.out _ (MC_R (H.out.fact 0 rfl)) (HAT.out _ H.out.below).1).mono ?_
            rintro e W34 hP
            obtain ⟨B51, m51, j51, B52, m52, j52, B53, m53, j53, B54, m54, j54, rfl, hM, hB, hb⟩ := RepP_open hP
            clear hP
            refine ⟨_, rfl, ?_⟩
            have hb0_ := H.out.below.size; replace H := Lib.hid ((H.out.called hb).row (MrF w.heap.size (.slice B51 m51 j51) (.slice B52 m52 j52) (.slice B53 m53 j53) (N)) (MD_R hM ((H.out.called hb).fact 0 rfl) H.out.below.size))
            replace H := Lib.hid ((H.out).row (BytF (.slice B54 m54 j54) (bytesOf dt)) (hB))
            clear hb0_
            replace b0 := Lib.hid (below_step b0.out hb)
            clear hM hB
            clear hb
            refine hK.out _ _ ⟨H.out.cell 2 rfl, (HAT.out _ H.out.below).2⟩ (fun hHeld => ?_)
            clear hK K
            apply nm 0
            apply pu 6 38 (bq 13 1663) HT_
            apply pu 7 45 (bq 13 1791) HT_
            apply pu 8 46 (bq 13 2047) HT_
            have hn_UP := H.out.dist 0 1 rfl rfl (by decide)
            exact norm_ (by simp only [putAll, Act.put, List.setIfInBounds_toArray, List.set_cons_zero, List.set_cons_succ]) (hCont (B51, m51, j51, B52, m52, j52, B53, m53, j53, B54, m54, j54, gU, gP) _ ⟨hHeld, b0.out, H.out.at_ 0 rfl, H.out.at_ 1 rfl, GU.out, GP.out, hn_UP, H.out.fact 0 rfl, H.out.fact 1 rfl⟩)
      rintro ⟨B51, m51, j51, B52, m52, j52, B53, m53, j53, B54, m54, j54, gU, gP⟩ W85 ⟨hHeld, hb, hU, hP, hGU, hGP, hnUP, hrV5, hrG5⟩
      (try dsimp only at hHeld hU hP hGU hGP hnUP hrV5 hrG5 ⊢)
      replace H := Lib.hid (H.out.join2 hb hU hGU hP hGP hnUP)
      replace H := Lib.hid (H.out.row (MrF w.heap.size (.slice B51 m51 j51) (.slice B52 m52 j52) (.slice B53 m53 j53) (N)) hrG5)
      replace H := Lib.hid (H.out.row (BytF (.slice B54 m54 j54) (bytesOf dt)) hrV5)
      clear b0 hb hU hP hGU hGP hnUP hrV5 hrG5
      refine norm_ (a' := ?_) ?_ ?_
      rotate_left
      · simp only [putAll, Act.put, List.setIfInBounds_toArray, List.set_cons_zero, List.set_cons_succ]
        rfl
      apply on 11 none (bq 13 4095) HT_; intro K hK
      have cU := H.out.cell 0 rfl
      have cP := H.out.cell 1 rfl
      have cM := H.out.cell 2 rfl
      have cC := H.out.cell 3 rfl
      have fU := H.out.froz 0 rfl
      apply svs 53 13 gU 0 [.int .i64 id, .int .i64 m, .int .i64 u, .int .i64 b, .int .i64 c, .int .i64 z, .int .i64 s, .int .i64 me, .int .i64 o, .int .i64 a, .int .i64 l, .slice B51 m51 j51, .slice B52 m52 j52, .slice B53 m53 j53]
      intro W86 hw
      clear fU
      clear cU cP cM cC
      replace H := Lib.hid (H.out.putw 0 rfl hw rfl rfl)
      clear hw
      refine hK.out _ _ ⟨H.out.cell 2 rfl, (HAT.out _ H.out.below).2⟩ (fun hHeld => ?_)
      clear hK K
      apply on 12 none (bq 13 8191) HT_; intro K hK
      have cU := H.out.cell 0 rfl
      have cP := H.out.cell 1 rfl
      have cM := H.out.cell 2 rfl
      have cC := H.out.cell 3 rfl
      have fP := H.out.froz 1 rfl
      apply svs 61 14 gP 0 [.int .i64 E, .slice B54 m54 j54, .int .i64 zz.f0, .int .i64 zz.f1, .int .i64 zz.f2]
      intro W87 hw
      clear fP
      clear cU cP cM cC
      replace H := Lib.hid (H.out.putw 1 rfl hw rfl rfl)
      clear hw
      refine hK.out _ _ ⟨H.out.cell 2 rfl, (HAT.out _ H.out.below).2⟩ (fun hHeld => ?_)
      clear hK K
      refine done_ (done_of HT_.out (by kernel_rfl)) ?_
      have cU := H.out.cell 0 rfl
      have cP := H.out.cell 1 rfl
      have cM := H.out.cell 2 rfl
      have cC := H.out.cell 3 rfl
      clear cU cP cM cC
      have cU := H.out.cell 0 rfl
      have cP := H.out.cell 1 rfl
      have cM := H.out.cell 2 rfl
      have cC := H.out.cell 3 rfl
      have ac := (HAT.out _ H.out.below).2
      have cv := (show (convert 57 9 (.slice A4 lx c4)).run Try.prog W87 = .ok (.string ds) W87 from (by rw [HDS.out]; exact Kd.C_string Try.underlying57 Try.underlying5 Try.underlying9 (HAT.out _ H.out.below).1))
      have tok2 : True := trivial
      by_cases hE : E = 0
      · have b_hE : (E == 0) = true := beq_iff_eq.mpr hE
        have d_hE : (E != 0) = false := bne_eq_false_iff_eq.mpr hE
        have HE := Lib.hid hE; clear hE
        by_cases hz : (rd_T65 xs j).f1 = zn
        · have b_hz : ((rd_T65 xs j).f1 == zn) = true := beq_iff_eq.mpr hz
          have d_hz : ((rd_T65 xs j).f1 != zn) = false := bne_eq_false_iff_eq.mpr hz
          have HZ := Lib.hid hz; clear hz
          by_cases h0 : (rd_T65 xs j).f0 = 0
          · have b3_ : ((rd_T65 xs j).f0 == 3) = false := beq_eq_false_iff_ne.mpr (by omega)
            have b_h0 : ((rd_T65 xs j).f0 == 0) = true := beq_iff_eq.mpr h0
            have d_h0 : ((rd_T65 xs j).f0 != 0) = false := bne_eq_false_iff_eq.mpr h0
            have H0 := Lib.hid h0; clear h0
            have hcs : (9223372036854775807 < sx.size + ds.size) = False := eq_false (by have h := HWN.out; unfold wrN at h; rw [if_pos ⟨HE.out, HZ.out⟩, if_pos H0.out, ← HDS.out] at h; have h2 := wr_small HIN.out.1 h; rw [size_app] at h2; omega)
            go_wp2_with first
              | (have fM := H.out.froz 2 rfl; apply sv 53 9 gM 0 [.int .i64 id, .int .i64 m, .int .i64 u, .int .i64 b, .int .i64 c, .int .i64 z, .int .i64 s, .int .i64 me, .int .i64 o, .int .i64 a, .int .i64 l, .slice B51 m51 j51, .slice B52 m52 j52, .slice B53 m53 j53]; intro W88 hw; clear fM; clear cU cP cM cC ac cv; replace H := Lib.hid (H.out.putw 2 rfl hw rfl rfl); clear hw; have cU := H.out.cell 0 rfl; have cP := H.out.cell 1 rfl; have cM := H.out.cell 2 rfl; have cC := H.out.cell 3 rfl; have ac := (HAT.out _ H.out.below).2; have cv := (show (convert 57 9 (.slice A4 lx c4)).run Try.prog W88 = .ok (.string ds) W88 from (by rw [HDS.out]; exact Kd.C_string Try.underlying57 Try.underlying5 Try.underlying9 (HAT.out _ H.out.below).1)))
              | (go_at_call 23; have _t := tok2; refine (code18_any _ _).mono ?_; rintro e W89 ⟨rfl, hb⟩; clear cU cP cM cC ac cv; replace H := Lib.hid (H.out.called hb); clear hb; clear tok2; have cU := H.out.cell 0 rfl; have cP := H.out.cell 1 rfl; have cM := H.out.cell 2 rfl; have cC := H.out.cell 3 rfl; have ac := (HAT.out _ H.out.below).2; have cv := (show (convert 57 9 (.slice A4 lx c4)).run Try.prog W89 = .ok (.string ds) W89 from (by rw [HDS.out]; exact Kd.C_string Try.underlying57 Try.underlying5 Try.underlying9 (HAT.out _ H.out.below).1)))
            have HW2 : Hid (WrIs N zn (sx ++ ds)) := Lib.hid (by have h := HWN.out; unfold wrN at h; rw [if_pos ⟨HE.out, HZ.out⟩, if_pos H0.out, ← HDS.out] at h; exact h)
            have H2 : Pk w W89 [⟨gM, 53, #[.int .i64 id, .int .i64 m, .int .i64 u, .int .i64 b, .int .i64 c, .int .i64 z, .int .i64 s, .int .i64 me, .int .i64 o, .int .i64 a, .int .i64 l, .slice B51 m51 j51, .slice B52 m52 j52, .slice B53 m53 j53]⟩, ⟨gC, 23, #[.int .i64 id, .int .i64 m, .int .i64 u, .int .i64 b, .int .i64 c, .int .i64 z, .int .i64 s, .int .i64 me, .int .i64 o, .int .i64 a, .int .i64 l]⟩] [MrF w.heap.size (.slice B51 m51 j51) (.slice B52 m52 j52) (.slice B53 m53 j53) (N)] := (H.out.refs (fs' := [MrF w.heap.size (.slice B51 m51 j51) (.slice B52 m52 j52) (.slice B53 m53 j53) (N)]) (by intro f hf; rcases List.mem_cons.1 hf with rfl | hf; exact H.out.fact 1 rfl; cases hf)).tail.tail
            exact ⟨⟨j + 1, N, (sx ++ ds), B51, m51, j51, B52, m52, j52, B53, m53, j53, rfl, rfl, by omega, HIN, HW2, Lib.hid H2⟩, by simp only [intOf]; push_cast; omega⟩
          · by_cases h3 : (rd_T65 xs j).f0 = 3
            · have b_h3 : ((rd_T65 xs j).f0 == 3) = true := beq_iff_eq.mpr h3
              have d_h3 : ((rd_T65 xs j).f0 != 3) = false := bne_eq_false_iff_eq.mpr h3
              have H3 := Lib.hid h3; clear h3
              have b_h0 : ((rd_T65 xs j).f0 == 0) = false := beq_eq_false_iff_ne.mpr h0
              have d_h0 : ((rd_T65 xs j).f0 != 0) = true := bne_iff_ne.mpr h0
              have H0 := Lib.hid h0; clear h0
              go_wp2_with first
                | (have fM := H.out.froz 2 rfl; apply sv 53 9 gM 0 [.int .i64 id, .int .i64 m, .int .i64 u, .int .i64 b, .int .i64 c, .int .i64 z, .int .i64 s, .int .i64 me, .int .i64 o, .int .i64 a, .int .i64 l, .slice B51 m51 j51, .slice B52 m52 j52, .slice B53 m53 j53]; intro W88 hw; clear fM; clear cU cP cM cC ac cv; replace H := Lib.hid (H.out.putw 2 rfl hw rfl rfl); clear hw; have cU := H.out.cell 0 rfl; have cP := H.out.cell 1 rfl; have cM := H.out.cell 2 rfl; have cC := H.out.cell 3 rfl; have ac := (HAT.out _ H.out.below).2; have cv := (show (convert 57 9 (.slice A4 lx c4)).run Try.prog W88 = .ok (.string ds) W88 from (by rw [HDS.out]; exact Kd.C_string Try.underlying57 Try.underlying5 Try.underlying9 (HAT.out _ H.out.below).1)))
                | (go_at_call 23; have _t := tok2; refine (code18_any _ _).mono ?_; rintro e W89 ⟨rfl, hb⟩; clear cU cP cM cC ac cv; replace H := Lib.hid (H.out.called hb); clear hb; clear tok2; have cU := H.out.cell 0 rfl; have cP := H.out.cell 1 rfl; have cM := H.out.cell 2 rfl; have cC := H.out.cell 3 rfl; have ac := (HAT.out _ H.out.below).2; have cv := (show (convert 57 9 (.slice A4 lx c4)).run Try.prog W89 = .ok (.string ds) W89 from (by rw [HDS.out]; exact Kd.C_string Try.underlying57 Try.underlying5 Try.underlying9 (HAT.out _ H.out.below).1)))
              have HW2 : Hid (WrIs N zn ByteArray.empty) := Lib.hid (by have h := HWN.out; unfold wrN at h; rw [if_pos ⟨HE.out, HZ.out⟩, if_neg H0.out, if_pos H3.out] at h; exact h)
              have H2 : Pk w W89 [⟨gM, 53, #[.int .i64 id, .int .i64 m, .int .i64 u, .int .i64 b, .int .i64 c, .int .i64 z, .int .i64 s, .int .i64 me, .int .i64 o, .int .i64 a, .int .i64 l, .slice B51 m51 j51, .slice B52 m52 j52, .slice B53 m53 j53]⟩, ⟨gC, 23, #[.int .i64 id, .int .i64 m, .int .i64 u, .int .i64 b, .int .i64 c, .int .i64 z, .int .i64 s, .int .i64 me, .int .i64 o, .int .i64 a, .int .i64 l]⟩] [MrF w.heap.size (.slice B51 m51 j51) (.slice B52 m52 j52) (.slice B53 m53 j53) (N)] := (H.out.refs (fs' := [MrF w.heap.size (.slice B51 m51 j51) (.slice B52 m52 j52) (.slice B53 m53 j53) (N)]) (by intro f hf; rcases List.mem_cons.1 hf with rfl | hf; exact H.out.fact 1 rfl; cases hf)).tail.tail
              exact ⟨⟨j + 1, N, ByteArray.empty, B51, m51, j51, B52, m52, j52, B53, m53, j53, rfl, rfl, by omega, HIN, HW2, Lib.hid H2⟩, by simp only [intOf]; push_cast; omega⟩
            · have b_h3 : ((rd_T65 xs j).f0 == 3) = false := beq_eq_false_iff_ne.mpr h3
              have d_h3 : ((rd_T65 xs j).f0 != 3) = true := bne_iff_ne.mpr h3
              have H3 := Lib.hid h3; clear h3
              have b_h0 : ((rd_T65 xs j).f0 == 0) = false := beq_eq_false_iff_ne.mpr h0
              have d_h0 : ((rd_T65 xs j).f0 != 0) = true := bne_iff_ne.mpr h0
              have H0 := Lib.hid h0; clear h0
              go_wp2_with first
                | (have fM := H.out.froz 2 rfl; apply sv 53 9 gM 0 [.int .i64 id, .int .i64 m, .int .i64 u, .int .i64 b, .int .i64 c, .int .i64 z, .int .i64 s, .int .i64 me, .int .i64 o, .int .i64 a, .int .i64 l, .slice B51 m51 j51, .slice B52 m52 j52, .slice B53 m53 j53]; intro W88 hw; clear fM; clear cU cP cM cC ac cv; replace H := Lib.hid (H.out.putw 2 rfl hw rfl rfl); clear hw; have cU := H.out.cell 0 rfl; have cP := H.out.cell 1 rfl; have cM := H.out.cell 2 rfl; have cC := H.out.cell 3 rfl; have ac := (HAT.out _ H.out.below).2; have cv := (show (convert 57 9 (.slice A4 lx c4)).run Try.prog W88 = .ok (.string ds) W88 from (by rw [HDS.out]; exact Kd.C_string Try.underlying57 Try.underlying5 Try.underlying9 (HAT.out _ H.out.below).1)))
                | (go_at_call 23; have _t := tok2; refine (code18_any _ _).mono ?_; rintro e W89 ⟨rfl, hb⟩; clear cU cP cM cC ac cv; replace H := Lib.hid (H.out.called hb); clear hb; clear tok2; have cU := H.out.cell 0 rfl; have cP := H.out.cell 1 rfl; have cM := H.out.cell 2 rfl; have cC := H.out.cell 3 rfl; have ac := (HAT.out _ H.out.below).2; have cv := (show (convert 57 9 (.slice A4 lx c4)).run Try.prog W89 = .ok (.string ds) W89 from (by rw [HDS.out]; exact Kd.C_string Try.underlying57 Try.underlying5 Try.underlying9 (HAT.out _ H.out.below).1)))
              have HW2 : Hid (WrIs N zn sx) := Lib.hid (by have h := HWN.out; unfold wrN at h; rw [if_pos ⟨HE.out, HZ.out⟩, if_neg H0.out, if_neg H3.out] at h; exact h)
              have H2 : Pk w W89 [⟨gM, 53, #[.int .i64 id, .int .i64 m, .int .i64 u, .int .i64 b, .int .i64 c, .int .i64 z, .int .i64 s, .int .i64 me, .int .i64 o, .int .i64 a, .int .i64 l, .slice B51 m51 j51, .slice B52 m52 j52, .slice B53 m53 j53]⟩, ⟨gC, 23, #[.int .i64 id, .int .i64 m, .int .i64 u, .int .i64 b, .int .i64 c, .int .i64 z, .int .i64 s, .int .i64 me, .int .i64 o, .int .i64 a, .int .i64 l]⟩] [MrF w.heap.size (.slice B51 m51 j51) (.slice B52 m52 j52) (.slice B53 m53 j53) (N)] := (H.out.refs (fs' := [MrF w.heap.size (.slice B51 m51 j51) (.slice B52 m52 j52) (.slice B53 m53 j53) (N)]) (by intro f hf; rcases List.mem_cons.1 hf with rfl | hf; exact H.out.fact 1 rfl; cases hf)).tail.tail
              exact ⟨⟨j + 1, N, sx, B51, m51, j51, B52, m52, j52, B53, m53, j53, rfl, rfl, by omega, HIN, HW2, Lib.hid H2⟩, by simp only [intOf]; push_cast; omega⟩
        · have b_hz : ((rd_T65 xs j).f1 == zn) = false := beq_eq_false_iff_ne.mpr hz
          have d_hz : ((rd_T65 xs j).f1 != zn) = true := bne_iff_ne.mpr hz
          have HZ := Lib.hid hz; clear hz
          go_wp2_with first
            | (have fM := H.out.froz 2 rfl; apply sv 53 9 gM 0 [.int .i64 id, .int .i64 m, .int .i64 u, .int .i64 b, .int .i64 c, .int .i64 z, .int .i64 s, .int .i64 me, .int .i64 o, .int .i64 a, .int .i64 l, .slice B51 m51 j51, .slice B52 m52 j52, .slice B53 m53 j53]; intro W88 hw; clear fM; clear cU cP cM cC ac cv; replace H := Lib.hid (H.out.putw 2 rfl hw rfl rfl); clear hw; have cU := H.out.cell 0 rfl; have cP := H.out.cell 1 rfl; have cM := H.out.cell 2 rfl; have cC := H.out.cell 3 rfl; have ac := (HAT.out _ H.out.below).2; have cv := (show (convert 57 9 (.slice A4 lx c4)).run Try.prog W88 = .ok (.string ds) W88 from (by rw [HDS.out]; exact Kd.C_string Try.underlying57 Try.underlying5 Try.underlying9 (HAT.out _ H.out.below).1)))
            | (go_at_call 23; have _t := tok2; refine (code18_any _ _).mono ?_; rintro e W89 ⟨rfl, hb⟩; clear cU cP cM cC ac cv; replace H := Lib.hid (H.out.called hb); clear hb; clear tok2; have cU := H.out.cell 0 rfl; have cP := H.out.cell 1 rfl; have cM := H.out.cell 2 rfl; have cC := H.out.cell 3 rfl; have ac := (HAT.out _ H.out.below).2; have cv := (show (convert 57 9 (.slice A4 lx c4)).run Try.prog W89 = .ok (.string ds) W89 from (by rw [HDS.out]; exact Kd.C_string Try.underlying57 Try.underlying5 Try.underlying9 (HAT.out _ H.out.below).1)))
          have HW2 : Hid (WrIs N zn sx) := Lib.hid (by have h := HWN.out; unfold wrN at h; rw [if_neg (fun hh => HZ.out hh.2)] at h; exact h)
          have H2 : Pk w W89 [⟨gM, 53, #[.int .i64 id, .int .i64 m, .int .i64 u, .int .i64 b, .int .i64 c, .int .i64 z, .int .i64 s, .int .i64 me, .int .i64 o, .int .i64 a, .int .i64 l, .slice B51 m51 j51, .slice B52 m52 j52, .slice B53 m53 j53]⟩, ⟨gC, 23, #[.int .i64 id, .int .i64 m, .int .i64 u, .int .i64 b, .int .i64 c, .int .i64 z, .int .i64 s, .int .i64 me, .int .i64 o, .int .i64 a, .int .i64 l]⟩] [MrF w.heap.size (.slice B51 m51 j51) (.slice B52 m52 j52) (.slice B53 m53 j53) (N)] := (H.out.refs (fs' := [MrF w.heap.size (.slice B51 m51 j51) (.slice B52 m52 j52) (.slice B53 m53 j53) (N)]) (by intro f hf; rcases List.mem_cons.1 hf with rfl | hf; exact H.out.fact 1 rfl; cases hf)).tail.tail
          exact ⟨⟨j + 1, N, sx, B51, m51, j51, B52, m52, j52, B53, m53, j53, rfl, rfl, by omega, HIN, HW2, Lib.hid H2⟩, by simp only [intOf]; push_cast; omega⟩
      · have b_hE : (E == 0) = false := beq_eq_false_iff_ne.mpr hE
        have d_hE : (E != 0) = true := bne_iff_ne.mpr hE
        have HE := Lib.hid hE; clear hE
        go_wp2_with first
          | (have fM := H.out.froz 2 rfl; apply sv 53 9 gM 0 [.int .i64 id, .int .i64 m, .int .i64 u, .int .i64 b, .int .i64 c, .int .i64 z, .int .i64 s, .int .i64 me, .int .i64 o, .int .i64 a, .int .i64 l, .slice B51 m51 j51, .slice B52 m52 j52, .slice B53 m53 j53]; intro W88 hw; clear fM; clear cU cP cM cC ac cv; replace H := Lib.hid (H.out.putw 2 rfl hw rfl rfl); clear hw; have cU := H.out.cell 0 rfl; have cP := H.out.cell 1 rfl; have cM := H.out.cell 2 rfl; have cC := H.out.cell 3 rfl; have ac := (HAT.out _ H.out.below).2; have cv := (show (convert 57 9 (.slice A4 lx c4)).run Try.prog W88 = .ok (.string ds) W88 from (by rw [HDS.out]; exact Kd.C_string Try.underlying57 Try.underlying5 Try.underlying9 (HAT.out _ H.out.below).1)))
          | (go_at_call 23; have _t := tok2; refine (code18_any _ _).mono ?_; rintro e W89 ⟨rfl, hb⟩; clear cU cP cM cC ac cv; replace H := Lib.hid (H.out.called hb); clear hb; clear tok2; have cU := H.out.cell 0 rfl; have cP := H.out.cell 1 rfl; have cM := H.out.cell 2 rfl; have cC := H.out.cell 3 rfl; have ac := (HAT.out _ H.out.below).2; have cv := (show (convert 57 9 (.slice A4 lx c4)).run Try.prog W89 = .ok (.string ds) W89 from (by rw [HDS.out]; exact Kd.C_string Try.underlying57 Try.underlying5 Try.underlying9 (HAT.out _ H.out.below).1)))
        have HW2 : Hid (WrIs N zn sx) := Lib.hid (by have h := HWN.out; unfold wrN at h; rw [if_neg (fun hh => HE.out hh.1)] at h; exact h)
        have H2 : Pk w W89 [⟨gM, 53, #[.int .i64 id, .int .i64 m, .int .i64 u, .int .i64 b, .int .i64 c, .int .i64 z, .int .i64 s, .int .i64 me, .int .i64 o, .int .i64 a, .int .i64 l, .slice B51 m51 j51, .slice B52 m52 j52, .slice B53 m53 j53]⟩, ⟨gC, 23, #[.int .i64 id, .int .i64 m, .int .i64 u, .int .i64 b, .int .i64 c, .int .i64 z, .int .i64 s, .int .i64 me, .int .i64 o, .int .i64 a, .int .i64 l]⟩] [MrF w.heap.size (.slice B51 m51 j51) (.slice B52 m52 j52) (.slice B53 m53 j53) (N)] := (H.out.refs (fs' := [MrF w.heap.size (.slice B51 m51 j51) (.slice B52 m52 j52) (.slice B53 m53 j53) (N)]) (by intro f hf; rcases List.mem_cons.1 hf with rfl | hf; exact H.out.fact 1 rfl; cases hf)).tail.tail
        exact ⟨⟨j + 1, N, sx, B51, m51, j51, B52, m52, j52, B53, m53, j53, rfl, rfl, by omega, HIN, HW2, Lib.hid H2⟩, by simp only [intOf]; push_cast; omega⟩
    · have c1 : ¬ (j : Int) < (n : Int) := by omega
      have hdm : doM id m u b c z s me o a l D ⟨1, zn, p, 1, [], false⟩ = (D, (readM id m u b c z s me o a l D zn p 1).1, (readM id m u b c z s me o a l D zn p 1).2, z59) := rfl
      have hrd := fun W h => mdo_any id m u b c z s me o a l (.slice B1 m1 j1) (.slice B2 m2 j2) (.slice B3 m3 j3) D 1 zn p 1 none 0 [] false W h HI.out.1 (Kd.C_nil _ W) (Nat.le_refl 0)
      rw [hdm] at hrd
      dsimp only at hrd
      have hend := read_end HI.out.1 HW.out p0 p1
      generalize readM id m u b c z s me o a l D zn p 1 = rr at hrd hend
      obtain ⟨e1, t1⟩ := rr
      dsimp only at hrd hend
      have hcb := HCB.out
      have u1 : (p + 1) * b ≤ 256 * b := Int.mul_le_mul_of_nonneg_right (by omega) (by omega)
      have u2 : p * b ≤ (p + 1) * b := Int.mul_le_mul_of_nonneg_right (by omega) (by omega)
      have u3 : 0 ≤ p * b := Int.mul_nonneg p0 (by omega)
      obtain ⟨lo, hlo⟩ : ∃ k : Int, k = p * b := ⟨_, rfl⟩
      obtain ⟨hh, hhh⟩ : ∃ k : Int, k = (p + 1) * b := ⟨_, rfl⟩
      have x1 : IntKind.i64.wrap (p * b) = lo := by rw [hlo, i64_w]; unfold wrap64; omega
      have y1 : wrap64 (p * b) = lo := by rw [hlo]; unfold wrap64; omega
      have x3 : IntKind.i64.wrap ((p + 1) * b) = hh := by rw [hhh, i64_w]; unfold wrap64; omega
      have y3 : wrap64 ((p + 1) * b) = hh := by rw [hhh]; unfold wrap64; omega
      have x2 : IntKind.i64.wrap (p + 1) = p + 1 := by rw [i64_w]; unfold wrap64; omega
      have y2 : wrap64 (p + 1) = p + 1 := by unfold wrap64; omega
      have x4 : IntKind.i64.wrap p = p := by rw [i64_w]; unfold wrap64; omega
      have y4 : wrap64 p = p := by unfold wrap64; omega
      rw [← hlo, ← hhh] at hend
      rw [← hlo] at u2 u3
      rw [← hhh] at u2
      have HRD := Lib.hid hrd
      clear hrd hdm u1 hcb hlo hhh
      by_cases hE : e1 = 0
      · subst hE
        obtain ⟨c3, htx⟩ := hend.1 rfl
        have c2 : ¬ (sx.size : Int) < hh := by omega
        clear hend
        have htx2 := htx.symm
        have HTX := Lib.hid htx; clear htx
        have cM := H.out.cell 0 rfl
        have cC := H.out.cell 1 rfl
        go_wp2_with first
          | (go_at_call 26; refine (HRD.out _ (MC_R (H.out.fact 0 rfl))).mono ?_; rintro e W31 hP; obtain ⟨B61, m61, j61, B62, m62, j62, B63, m63, j63, B64, m64, j64, rfl, hM, hB, hb⟩ := RepP_open hP; clear hP; clear cM cC; have hb0_ := H.out.below.size; replace H := Lib.hid ((H.out.called hb).row (MrF w.heap.size (.slice B61 m61 j61) (.slice B62 m62 j62) (.slice B63 m63 j63) (D)) (MD_R hM ((H.out.called hb).fact 0 rfl) H.out.below.size)); replace H := Lib.hid ((H.out).row (BytF (.slice B64 m64 j64) (bytesOf t1)) (hB)); clear hb0_; clear hM hB; clear hb; have cM := H.out.cell 0 rfl; have cC := H.out.cell 1 rfl)
          | (apply bx 16 #[.int .i64 0, .int .i64 0, .int .i64 0, .int .i64 0, .int .i64 0, .int .i64 0, .int .i64 0, .int .i64 0, .int .i64 0, .int .i64 0, .int .i64 0, .slice none 0 0, .slice none 0 0, .slice none 0 0] 53; intro gU hg W32 hx hb; clear cM cC; replace H := Lib.hid (H.out.made hx hb hg); clear hb hx hg; have cU := H.out.cell 0 rfl; have cM := H.out.cell 1 rfl; have cC := H.out.cell 2 rfl)
          | (apply bx 17 #[.int .i64 0, .slice none 0 0, .int .i64 0, .int .i64 0, .int .i64 0] 61; intro gP hg W33 hx hb; clear cU cM cC; replace H := Lib.hid (H.out.made hx hb hg); clear hb hx hg; have cP := H.out.cell 0 rfl; have cU := H.out.cell 1 rfl; have cM := H.out.cell 2 rfl; have cC := H.out.cell 3 rfl)
          | (have fU := H.out.froz 1 rfl; apply sv 53 16 gU 0 [.int .i64 id, .int .i64 m, .int .i64 u, .int .i64 b, .int .i64 c, .int .i64 z, .int .i64 s, .int .i64 me, .int .i64 o, .int .i64 a, .int .i64 l, .slice B61 m61 j61, .slice B62 m62 j62, .slice B63 m63 j63]; intro W34 hw; clear fU; clear cP cU cM cC; replace H := Lib.hid (H.out.putw 1 rfl hw rfl rfl); clear hw; have cP := H.out.cell 0 rfl; have cU := H.out.cell 1 rfl; have cM := H.out.cell 2 rfl; have cC := H.out.cell 3 rfl)
          | (have fP := H.out.froz 0 rfl; apply sv 61 17 gP 0 [.int .i64 0, .slice B64 m64 j64, .int .i64 0, .int .i64 0, .int .i64 0]; intro W35 hw; clear fP; clear cP cU cM cC; replace H := Lib.hid (H.out.putw 0 rfl hw rfl rfl); clear hw; have cP := H.out.cell 0 rfl; have cU := H.out.cell 1 rfl; have cM := H.out.cell 2 rfl; have cC := H.out.cell 3 rfl)
        clear cP cU cM cC
        refine start_ (n := 25) (S := fun W => (∀ j_, W.cell? ⟨gP, j_, none⟩ = (#[.int .i64 0, .slice B64 m64 j64, .int .i64 0, .int .i64 0, .int .i64 0] : Array Value)[j_]?) ∧ (∀ j_, W.cell? ⟨gC, j_, none⟩ = (#[.int .i64 id, .int .i64 m, .int .i64 u, .int .i64 b, .int .i64 c, .int .i64 z, .int .i64 s, .int .i64 me, .int .i64 o, .int .i64 a, .int .i64 l] : Array Value)[j_]?) ∧ (convert 57 9 (.slice B64 m64 j64)).run Try.prog W = .ok (.string t1) W) (ds := []) (bq 25 0) (by kernel_rfl) rfl (by kernel_rfl) ⟨H.out.drew.cell 0 rfl, H.out.drew.cell 3 rfl, (by have h := BR_string ((H.out.drew).fact 0 rfl); rw [strOf_bytesOf] at h; exact h)⟩ (fun hHeld => ?_)
        refine with_tabW tab_revetmentlaw18_ModelReads_19 bits_revetmentlaw18_ModelReads_19 (fun HT_ HW_ => ?_)
        have zH := H.out.drew
        generalize W35.drew = W36 at zH hHeld ⊢
        replace H := Lib.hid zH; clear zH
        apply pu 0 106 (bq 25 1) HT_
        apply tw 1 107 (bq 25 3) HT_ HW_ hHeld
        apply on 2 (some 108) (bq 25 7) HT_; intro K hK
        refine gs Try.func23 #[.int .i64 0] ?_
        refine (code18_any _ _).mono ?_
        rintro e W37 ⟨rfl, hb⟩
        refine ⟨_, rfl, ?_⟩
        replace H := Lib.hid (H.out.called hb)
        clear hb
        refine hK.out _ _ ⟨H.out.cell 0 rfl, H.out.cell 3 rfl, (by have h := BR_string (H.out.fact 0 rfl); rw [strOf_bytesOf] at h; exact h)⟩ (fun hHeld => ?_)
        clear hK K
        apply nm 0
        apply pu 3 109 (bq 25 15) HT_
        apply pu 4 110 (bq 25 31) HT_
        apply pu 5 111 (bq 25 63) HT_
        apply tw 6 112 (bq 25 127) HT_ HW_ hHeld
        apply tw 7 113 (bq 25 255) HT_ HW_ hHeld
        apply pu 8 114 (bq 25 511) HT_
        apply pu 9 115 (bq 25 1023) HT_
        apply pu 10 116 (bq 25 2047) HT_
        apply tw 11 117 (bq 25 4095) HT_ HW_ hHeld
        apply pu 12 118 (bq 25 8191) HT_
        apply pu 13 119 (bq 25 16383) HT_
        apply pu 14 120 (bq 25 32767) HT_
        apply pu 15 121 (bq 25 65535) HT_
        apply tw 16 122 (bq 25 131071) HT_ HW_ hHeld
        apply pu 17 123 (bq 25 262143) HT_
        apply pu 18 124 (bq 25 524287) HT_
        apply pu 19 125 (bq 25 1048575) HT_
        apply pu 20 126 (bq 25 2097151) HT_
        apply pu 21 127 (bq 25 4194303) HT_
        apply on 22 (some 128) (bq 25 8388607) HT_; intro K hK
        refine gs Try.func25 #[] ?_
        refine (live18_any _).mono ?_
        rintro e W38 ⟨rfl, hb⟩
        refine ⟨_, rfl, ?_⟩
        replace H := Lib.hid (H.out.called hb)
        clear hb
        refine hK.out _ _ ⟨H.out.cell 0 rfl, H.out.cell 3 rfl, (by have h := BR_string (H.out.fact 0 rfl); rw [strOf_bytesOf] at h; exact h)⟩ (fun hHeld => ?_)
        clear hK K
        apply nm 0
        apply pu 23 129 (bq 25 16777215) HT_
        apply pu 24 8 (bq 25 33554431) HT_
        refine done_ (done_of HT_.out (by kernel_rfl)) ?_
        have cP := H.out.cell 0 rfl
        have cU := H.out.cell 1 rfl
        have cM := H.out.cell 2 rfl
        have cC := H.out.cell 3 rfl
        go_wp2
        go_ret
        exact ⟨rfl, H.out.below⟩
      · have c2 := hend.2 hE
        clear hend
        have b_hE : (e1 == 0) = false := beq_eq_false_iff_ne.mpr hE
        have d_hE : (e1 != 0) = true := bne_iff_ne.mpr hE
        have HE := Lib.hid hE; clear hE
        have cM := H.out.cell 0 rfl
        have cC := H.out.cell 1 rfl
        have tok2 : True := trivial
        go_wp2_with first
          | (go_at_call 26; refine (HRD.out _ (MC_R (H.out.fact 0 rfl))).mono ?_; rintro e W31 hP; obtain ⟨B61, m61, j61, B62, m62, j62, B63, m63, j63, B64, m64, j64, rfl, hM, hB, hb⟩ := RepP_open hP; clear hP; clear cM cC; have hb0_ := H.out.below.size; replace H := Lib.hid ((H.out.called hb).row (MrF w.heap.size (.slice B61 m61 j61) (.slice B62 m62 j62) (.slice B63 m63 j63) (D)) (MD_R hM ((H.out.called hb).fact 0 rfl) H.out.below.size)); replace H := Lib.hid ((H.out).row (BytF (.slice B64 m64 j64) (bytesOf t1)) (hB)); clear hb0_; clear hM hB; clear hb; have cM := H.out.cell 0 rfl; have cC := H.out.cell 1 rfl)
          | (apply bx 16 #[.int .i64 0, .int .i64 0, .int .i64 0, .int .i64 0, .int .i64 0, .int .i64 0, .int .i64 0, .int .i64 0, .int .i64 0, .int .i64 0, .int .i64 0, .slice none 0 0, .slice none 0 0, .slice none 0 0] 53; intro gU hg W32 hx hb; clear cM cC; replace H := Lib.hid (H.out.made hx hb hg); clear hb hx hg; have cU := H.out.cell 0 rfl; have cM := H.out.cell 1 rfl; have cC := H.out.cell 2 rfl)
          | (apply bx 17 #[.int .i64 0, .slice none 0 0, .int .i64 0, .int .i64 0, .int .i64 0] 61; intro gP hg W33 hx hb; clear cU cM cC; replace H := Lib.hid (H.out.made hx hb hg); clear hb hx hg; have cP := H.out.cell 0 rfl; have cU := H.out.cell 1 rfl; have cM := H.out.cell 2 rfl; have cC := H.out.cell 3 rfl)
          | (have fU := H.out.froz 1 rfl; apply sv 53 16 gU 0 [.int .i64 id, .int .i64 m, .int .i64 u, .int .i64 b, .int .i64 c, .int .i64 z, .int .i64 s, .int .i64 me, .int .i64 o, .int .i64 a, .int .i64 l, .slice B61 m61 j61, .slice B62 m62 j62, .slice B63 m63 j63]; intro W34 hw; clear fU; clear cP cU cM cC; replace H := Lib.hid (H.out.putw 1 rfl hw rfl rfl); clear hw; have cP := H.out.cell 0 rfl; have cU := H.out.cell 1 rfl; have cM := H.out.cell 2 rfl; have cC := H.out.cell 3 rfl)
          | (have fP := H.out.froz 0 rfl; apply sv 61 17 gP 0 [.int .i64 e1, .slice B64 m64 j64, .int .i64 0, .int .i64 0, .int .i64 0]; intro W35 hw; clear fP; clear cP cU cM cC; replace H := Lib.hid (H.out.putw 0 rfl hw rfl rfl); clear hw; have cP := H.out.cell 0 rfl; have cU := H.out.cell 1 rfl; have cM := H.out.cell 2 rfl; have cC := H.out.cell 3 rfl)
          | (go_at_call 23; have _t := tok2; refine (code18_any _ _).mono ?_; rintro e W36 ⟨rfl, hb⟩; clear cP cU cM cC; replace H := Lib.hid (H.out.called hb); clear hb; clear tok2; have cP := H.out.cell 0 rfl; have cU := H.out.cell 1 rfl; have cM := H.out.cell 2 rfl; have cC := H.out.cell 3 rfl)
          | (go_at_call 25; refine (live18_any _).mono ?_; rintro e W37 ⟨rfl, hb⟩; clear cP cU cM cC; replace H := Lib.hid (H.out.called hb); clear hb; have cP := H.out.cell 0 rfl; have cU := H.out.cell 1 rfl; have cM := H.out.cell 2 rfl; have cC := H.out.cell 3 rfl)
        go_ret
        exact ⟨rfl, H.out.below⟩
theorem reads18_gen (id m u b c z s me o a l : Int) (Aa : Option Addr) (ca : Nat) (xs : List S65) (zn p : Int) (w : World) (hr : Kd.C k65 w Aa xs.length xs) (hc : xs.length ≤ ca) (p0 : 0 ≤ p) (p1 : p < 256) :
    Calls Try.prog 4 #[.agg #[.int .i64 id, .int .i64 m, .int .i64 u, .int .i64 b, .int .i64 c, .int .i64 z, .int .i64 s, .int .i64 me, .int .i64 o, .int .i64 a, .int .i64 l], .slice Aa xs.length ca, .int .i64 zn, .int .u8 p] w fun e w' => e = .returned (.bool true) ∧ Below w.heap.size w w' := by
  by_cases hk : checkC id m u b c z s me o a l = 0
  · obtain ⟨B, h40, hm⟩ := much_any id m u b c z s me o a l Aa ca xs w hr hc
    cases B
    · exact reads18_go id m u b c z s me o a l Aa ca xs zn p w hr hc p0 p1 hk hm (h40 rfl)
    · exact reads18_much id m u b c z s me o a l Aa ca xs zn p w hr hc p0 p1 hk hm
  · exact reads18_no id m u b c z s me o a l Aa ca xs zn p w hr hc p0 p1 hk
end Go.Proofs.Ytgckcaoncjhgbaa
