/- revetmentlaw18.same: a model and the document's that hold the same. -/
import Derived.WalkKit
import Derived.WalkSpells
import Derived.WalkLawsBesides
import Derived.Lib.Hide
import Derived.Test.YtgckcaoncjhgbaaFGw
import Derived.Test.YtgckcaoncjhgbaaMdWalk
import Derived.Test.YtgckcaoncjhgbaaWEqStruct
namespace Go.Proofs.Ytgckcaoncjhgbaa
open Go.RowKit Go.Proofs.Ytgckcaoncjhgbaa.PL Go.Proofs.YtgckcaoncjhgbaaW.PrintWords Go.Proofs.YtgckcaoncjhgbaaW.PrintLast
set_option linter.unusedVariables false
set_option linter.unusedSimpArgs false
attribute [local go_sem] List.getElem?_toArray List.getElem?_cons_succ List.getElem?_cons_zero mL tL cL xL rL oL
theorem eqZ_any (d : Nat) (w : World) (x0 y0 x1 y1 x2 y2 : Int) : (Op.equalIn (d + 2) 59 (.agg #[.int .i64 x0, .int .i64 x1, .int .i64 x2]) (.agg #[.int .i64 y0, .int .i64 y1, .int .i64 y2])).run Try.prog w = .ok (x0 == y0 && (x1 == y1 && (x2 == y2))) w := by
  refine eqA_of Try.underlying59 (by kernel_rfl) ?_
  refine eqf_cons (by rfl) (by go_simp; rfl) (by go_simp; rfl) (by go_simp) ?_
  refine eqf_cons (by rfl) (by go_simp; rfl) (by go_simp; rfl) (by go_simp) ?_
  exact eqf_last (by rfl) (by go_simp; rfl) (by go_simp; rfl) (by go_simp)
attribute [local go_sem high] eqZ_any
def T_revetmentlaw18_same_8 : Bool × List (List Nat × List Nat) := (true, [([], []), ([0], [0]), ([1], [1]), ([2], [2]), ([2], [2]), ([4, 2], [2, 4]), ([5, 2], [2, 5]), ([2], [2]), ([6, 7, 2], [2, 6, 7]), ([8, 2], [2, 8]), ([3, 9, 2], [2, 3, 9]), ([2, 10], [2, 10]), ([11, 2], [11]), ([12], [12]), ([12], [12]), ([13, 14, 12, 12], [12, 13, 14]), ([15, 12], [12, 15]), ([12], [12]), ([17, 12], [12, 17]), ([12], [12]), ([18, 19, 12], [12, 18, 19]), ([20, 12], [12, 20]), ([16, 21, 12], [12, 16, 21]), ([12, 22], [12, 22]), ([23, 15], [23]), ([24], [24]), ([24], [24]), ([25, 26, 24, 24], [24, 25, 26]), ([24], [24]), ([28, 24], [24, 28]), ([24], [24]), ([29, 30, 24], [24, 29, 30]), ([31, 24], [24, 31]), ([27, 32, 24], [24, 27, 32]), ([24, 33], [24, 33])])
theorem tab_revetmentlaw18_same_8 : rtab .any (opsOf Try.f29 8) = T_revetmentlaw18_same_8 := by kernel_rfl
theorem bits_revetmentlaw18_same_8 : waitsOk T_revetmentlaw18_same_8.2 [0, 1, 3, 7, 7, 23, 55, 7, 247, 503, 1023, 2047, 4095, 8191, 8191, 32767, 65535, 8191, 139263, 8191, 925695, 1974271, 4194303, 8388607, 16777215, 33554431, 33554431, 134217727, 33554431, 301989887, 33554431, 1912602623, 4060086271, 8589934591, 17179869183] = true := by kernel_rfl
theorem BR_len {w : World} {v : Value} {l : List Int} (h : BR w v l) : ∃ (A : Option Addr) (c : Nat), v = .slice A l.length c := by
  rcases h with ⟨rfl, rfl⟩ | ⟨g, c, cs, mk, rfl, _⟩
  · exact ⟨none, 0, rfl⟩
  · exact ⟨_, c, rfl⟩
set_option maxHeartbeats 8000000 in
set_option maxRecDepth 100000 in
theorem same18_any (id m u b c z s me o a l : Int) (x y q x2 y2 q2 : Value) (D : Mdl) (w : World) (h : MC w x y q D) (h2 : MC w x2 y2 q2 D) (hi : MInv id m u b c z s me o a l D) :
    Calls Try.prog 29 #[modV id m u b c z s me o a l x y q, modV id m u b c z s me o a l x2 y2 q2] w fun e w' => e = .returned (.bool true) ∧ Below w.heap.size w w' := by
  have H := Lib.hid (Pk.start w)
  have hlT := hi.2.1; have hlS : D.S.length = D.T.length := hi.2.2.1.trans hi.2.1.symm
  have hL1 : D.T.length ≤ 64 := by have := (rightZ_len hi.1).2.2.1; omega
  have hs := fun zz a b => text_small (i := zz) hi a b
  have h0 := h
  obtain ⟨⟨A1, k1, rfl, hk1, hC1⟩, ⟨A2, k2, rfl, hk2, hC2⟩, ⟨A3, k3, rfl, hk3, hC3⟩⟩ := h
  obtain ⟨⟨E1, e1, rfl, he1, hE1⟩, ⟨E2, e2, rfl, he2, hE2⟩, ⟨E3, e3, rfl, he3, hE3⟩⟩ := h2
  obtain ⟨n1, hn1⟩ : ∃ n, n = D.L.length := ⟨_, rfl⟩
  obtain ⟨n2, hn2⟩ : ∃ n, n = D.T.length := ⟨_, rfl⟩
  obtain ⟨n3, hn3⟩ : ∃ n, n = D.S.length := ⟨_, rfl⟩
  have HLT := Lib.hid hlT; have HLS := Lib.hid hlS; have HS := Lib.hid hs; have HT2 := Lib.hid hn2
  rw [← hn1] at hlT h0 hE1
  rw [← hn2] at hlT hlS hL1 h0 hE2
  rw [← hn3] at hlS h0 hE3
  rw [← hn1, ← hn2, ← hn3]
  have HMC := Lib.hid h0; have HE1 := Lib.hid hE1; have HE2 := Lib.hid hE2; have HE3 := Lib.hid hE3; have LT := Lib.hid hlT; have LS := Lib.hid hlS; have L1 := Lib.hid hL1; clear h0 hE1 hE2 hE3 hC1 hC2 hC3 hk1 hk2 hk3 he1 he2 he3 hs hlT hlS hL1 hi hn1 hn2 hn3
  go_enter Try.func29, Try.ntmps29
  go_wp2_with first
    | (apply bh H 2 (mL id m u b c z s me o a l (.slice A1 n1 k1) (.slice A2 n2 k2) (.slice A3 n3 k3)) 53; clear H; intro gM W1 H; obtain ⟨-, cM⟩ := n1_ H)
    | (apply bh H 3 (mL id m u b c z s me o a l (.slice E1 n1 e1) (.slice E2 n2 e2) (.slice E3 n3 e3)) 68; clear H cM; intro gR W2 H; obtain ⟨-, cR, cM⟩ := n2_ H)
  go_loopw [5] (fun v5 wr => ∃ zz : Int, v5 = .int .i64 zz ∧ -1 ≤ zz ∧ zz ≤ (n2 : Int) + 1 ∧ Hid (Pk w wr [⟨gR, 68, (mL id m u b c z s me o a l (.slice E1 n1 e1) (.slice E2 n2 e2) (.slice E3 n3 e3)).toArray⟩, ⟨gM, 53, (mL id m u b c z s me o a l (.slice A1 n1 k1) (.slice A2 n2 k2) (.slice A3 n3 k3)).toArray⟩] [])) (fun v5 _ => ((n2 : Int) + 1 - intOf v5).toNat)
  case atStart => exact ⟨-1, rfl, by omega, by omega, H⟩
  case round =>
    clear H cR cM
    obtain ⟨zz, rfl, z0, z1, H⟩ := hrel
    have L1_ := L1.out
    by_cases c1 : zz ≤ (n2 : Int)
    · have hw2 : wrap64 (zz + 1) = zz + 1 := by unfold wrap64; omega
      by_cases hin : 0 ≤ zz ∧ zz < (n2 : Int)
      · have hz := fun W h => mzone_any id m u b c z s me o a l (.slice A1 n1 k1) (.slice A2 n2 k2) (.slice A3 n3 k3) D zz W h HLT.out
        have ht := fun W h => mtext_any id m u b c z s me o a l (.slice A1 n1 k1) (.slice A2 n2 k2) (.slice A3 n3 k3) D zz W h (fun hh => by have := HS.out zz hh.1 hh.2; omega)
        have hf := fun W h => msafe_any id m u b c z s me o a l (.slice A1 n1 k1) (.slice A2 n2 k2) (.slice A3 n3 k3) D zz W h HLS.out
        rw [← HT2.out] at hz ht hf
        rw [if_pos hin, decide_eq_true hin] at hz
        rw [if_pos hin] at ht hf
        obtain ⟨j0, j1⟩ := hin
        have j2 : (zz == (n2 : Int)) = false := beq_eq_false_iff_ne.mpr (by omega)
        have j3 : ¬ zz < 0 := by omega
        have i1 : zz < (n1 : Int) := by have := LT.out; omega
        have i3 : zz < (n3 : Int) := by have := LS.out; omega
        obtain ⟨ad1, f1⟩ := zone_some HE1.out (by omega)
        obtain ⟨ad2, f2⟩ := C_some HE2.out (by omega)
        obtain ⟨ad3, f3⟩ := C_some HE3.out (by omega)
        subst f1; subst f2; subst f3
        obtain ⟨tx, htx⟩ : ∃ t, t = rdOf default D.T zz := ⟨_, rfl⟩
        obtain ⟨sf, hsf⟩ : ∃ t, t = rdOf default D.S zz := ⟨_, rfl⟩
        rw [← htx] at ht
        rw [← hsf] at hf
        have HZ := Lib.hid hz; have HT := Lib.hid ht; have HF := Lib.hid hf; have HTX := Lib.hid htx; have HSF := Lib.hid hsf; clear hz ht hf htx hsf
        obtain ⟨-, cR, cM⟩ := n2_ H
        go_wp2_with first
          | (go_at_call 32; refine (HZ.out _ (MC_below HMC.out H.out.below)).mono ?_; rintro e W21 ⟨rfl, hb⟩; clear cR cM; replace H := pc H hb; clear hb; obtain ⟨-, cR, cM⟩ := n2_ H)
          | (apply bh H 6 (oL 0 0 0) 59; clear H cR cM; intro gY W22 H; obtain ⟨-, cY, cR, cM⟩ := n3_ H)
          | (apply sh H 0 59 6 gY (oL ((rd_T59 D.L zz).f0) ((rd_T59 D.L zz).f1) ((rd_T59 D.L zz).f2)); clear H cY cR cM; intro W23 K_; obtain ⟨H, cY, cR, cM⟩ := n3_ K_; clear K_)
        clear cY cR cM
        refine start_ (n := 35) (S := fun W => (∀ j_, W.cell? ⟨gM, j_, none⟩ = ((mL id m u b c z s me o a l (.slice A1 n1 k1) (.slice A2 n2 k2) (.slice A3 n3 k3)).toArray : Array Value)[j_]?) ∧ (∀ j_, W.cell? ⟨gR, j_, none⟩ = ((mL id m u b c z s me o a l (.slice (some ad1) n1 e1) (.slice (some ad2) n2 e2) (.slice (some ad3) n3 e3)).toArray : Array Value)[j_]?) ∧ (∀ j_, W.cell? ⟨gY, j_, none⟩ = ((oL ((rd_T59 D.L zz).f0) ((rd_T59 D.L zz).f1) ((rd_T59 D.L zz).f2)).toArray : Array Value)[j_]?) ∧ (W.cell? (ad1.add (zz.toNat * 3)) = some (.int .i64 (rd_T59 D.L zz).f0) ∧ W.cell? ⟨(ad1.add (zz.toNat * 3)).block, (ad1.add (zz.toNat * 3)).off + 1, none⟩ = some (.int .i64 (rd_T59 D.L zz).f1) ∧ W.cell? ⟨(ad1.add (zz.toNat * 3)).block, (ad1.add (zz.toNat * 3)).off + 2, none⟩ = some (.int .i64 (rd_T59 D.L zz).f2)) ∧ W.cell? (ad2.add zz.toNat) = some (.string tx) ∧ W.cell? (ad3.add zz.toNat) = some (.int .i64 sf)) (ds := []) (bq 35 0) (by kernel_rfl) rfl (by kernel_rfl) ⟨H.out.drew.cell 2 rfl, H.out.drew.cell 1 rfl, H.out.drew.cell 0 rfl, zone_atI (Kd.C_below HE1.out (H.out.drew).below) zz j0 i1, (by rw [HTX.out]; exact C_el default (Kd.C_below HE2.out (H.out.drew).below) zz j0 j1), (by rw [HSF.out]; exact C_el default (Kd.C_below HE3.out (H.out.drew).below) zz j0 i3)⟩ (fun hHeld => ?_)
        refine with_tabW tab_revetmentlaw18_same_8 bits_revetmentlaw18_same_8 (fun HT_ HW_ => ?_)
        have zH := H.out.drew
        generalize W23.drew = W24 at zH hHeld ⊢
        replace H := Lib.hid zH; clear zH
        apply pu 0 44 (bq 35 1) HT_
        apply pu 1 45 (bq 35 3) HT_
        apply pu 2 46 (bq 35 7) HT_
        apply tw 3 47 (bq 35 15) HT_ HW_ hHeld
        apply pu 4 48 (bq 35 31) HT_
        apply pu 5 49 (bq 35 63) HT_
        apply tw 6 50 (bq 35 127) HT_ HW_ hHeld
        apply pu 7 51 (bq 35 255) HT_
        apply pu 8 52 (bq 35 511) HT_
        apply tw 9 53 (bq 35 1023) HT_ HW_ hHeld
        apply pu 10 54 (bq 35 2047) HT_
        apply pu 11 55 (bq 35 4095) HT_
        apply pu 12 56 (bq 35 8191) HT_
        apply tw 13 57 (bq 35 16383) HT_ HW_ hHeld
        apply pu 14 58 (bq 35 32767) HT_
        apply pu 17 61 (bq 35 163839) HT_
        apply tw 18 62 (bq 35 425983) HT_ HW_ hHeld
        apply pu 19 63 (bq 35 950271) HT_
        apply pu 20 64 (bq 35 1998847) HT_
        apply tw 21 65 (bq 35 4095999) HT_ HW_ hHeld
        apply on 15 (some 59) (bq 35 4128767) HT_; intro K hK
        refine gs Try.func81 #[modV id m u b c z s me o a l (.slice A1 n1 k1) (.slice A2 n2 k2) (.slice A3 n3 k3), .int .i64 zz] ?_
        refine (HT.out _ (MC_below HMC.out H.out.below)).mono ?_
        rintro e W25 ⟨v, rfl, hB, hb⟩
        refine ⟨_, rfl, ?_⟩
        obtain ⟨BV, cV, rfl⟩ := BR_len hB
        replace H := Lib.hid ((H.out.called hb).row (BytF (.slice BV (bytesOf tx).length cV) (bytesOf tx)) (hB))
        clear hB
        clear hb
        refine hK.out _ _ ⟨H.out.cell 2 rfl, H.out.cell 1 rfl, H.out.cell 0 rfl, zone_atI (Kd.C_below HE1.out H.out.below) zz j0 i1, (by rw [HTX.out]; exact C_el default (Kd.C_below HE2.out H.out.below) zz j0 j1), (by rw [HSF.out]; exact C_el default (Kd.C_below HE3.out H.out.below) zz j0 i3)⟩ (fun hHeld => ?_)
        clear hK K
        apply nm 0
        apply on 16 (some 60) (bq 35 4194303) HT_; intro K hK
        obtain ⟨-, cY, cR, cM⟩ := n3_ H
        have hr_ := BR_string (H.out.fact 0 rfl)
        rw [strOf_bytesOf] at hr_
        refine event_step rfl (v := .string tx) (w1 := W25) ?hr ?_
        (case hr => first | (go_simp; done) | (go_simp; rfl))
        clear hr_
        clear cY cR cM
        refine hK.out _ _ ⟨H.out.cell 2 rfl, H.out.cell 1 rfl, H.out.cell 0 rfl, zone_atI (Kd.C_below HE1.out H.out.below) zz j0 i1, (by rw [HTX.out]; exact C_el default (Kd.C_below HE2.out H.out.below) zz j0 j1), (by rw [HSF.out]; exact C_el default (Kd.C_below HE3.out H.out.below) zz j0 i3)⟩ (fun hHeld => ?_)
        clear hK K
        apply nm 0
        apply pu 22 66 (bq 35 8388607) HT_
        apply pu 23 67 (bq 35 16777215) HT_
        apply pu 24 68 (bq 35 33554431) HT_
        apply tw 25 69 (bq 35 67108863) HT_ HW_ hHeld
        apply pu 26 70 (bq 35 134217727) HT_
        apply pu 28 72 (bq 35 402653183) HT_
        apply tw 29 73 (bq 35 939524095) HT_ HW_ hHeld
        apply pu 30 74 (bq 35 2013265919) HT_
        apply pu 31 75 (bq 35 4160749567) HT_
        apply tw 32 76 (bq 35 8455716863) HT_ HW_ hHeld
        apply on 27 (some 71) (bq 35 8589934591) HT_; intro K hK
        refine gs Try.func82 #[modV id m u b c z s me o a l (.slice A1 n1 k1) (.slice A2 n2 k2) (.slice A3 n3 k3), .int .i64 zz] ?_
        refine (HF.out _ (MC_below HMC.out H.out.below)).mono ?_
        rintro e W26 ⟨rfl, hb⟩
        refine ⟨_, rfl, ?_⟩
        replace H := pc H hb
        clear hb
        refine hK.out _ _ ⟨H.out.cell 2 rfl, H.out.cell 1 rfl, H.out.cell 0 rfl, zone_atI (Kd.C_below HE1.out H.out.below) zz j0 i1, (by rw [HTX.out]; exact C_el default (Kd.C_below HE2.out H.out.below) zz j0 j1), (by rw [HSF.out]; exact C_el default (Kd.C_below HE3.out H.out.below) zz j0 i3)⟩ (fun hHeld => ?_)
        clear hK K
        apply nm 0
        apply pu 33 77 (bq 35 17179869183) HT_
        apply pu 34 78 (bq 35 34359738367) HT_
        refine done_ (done_of HT_.out (by kernel_rfl)) ?_
        obtain ⟨-, cY, cR, cM⟩ := n3_ H
        go_wp2
        exact ⟨⟨zz + 1, rfl, by omega, by omega, Lib.hid (H.out.refs (fs' := []) (by intro f hf; cases hf)).tail⟩, by simp only [intOf]; omega⟩
      · have hz := fun W h => mzone_any id m u b c z s me o a l (.slice A1 n1 k1) (.slice A2 n2 k2) (.slice A3 n3 k3) D zz W h HLT.out
        have ht := fun W h => mtext_any id m u b c z s me o a l (.slice A1 n1 k1) (.slice A2 n2 k2) (.slice A3 n3 k3) D zz W h (fun hh => by have := HS.out zz hh.1 hh.2; omega)
        have hf := fun W h => msafe_any id m u b c z s me o a l (.slice A1 n1 k1) (.slice A2 n2 k2) (.slice A3 n3 k3) D zz W h HLS.out
        rw [← HT2.out] at hz ht hf
        rw [if_neg hin, decide_eq_false hin] at hz
        rw [if_neg hin] at ht hf
        have HZ := Lib.hid hz; have HT := Lib.hid ht; have HF := Lib.hid hf; clear hz ht hf
        have h2_ : zz < 0 ∨ (¬ zz < 0 ∧ zz = (n2 : Int)) := by omega
        rcases h2_ with j0 | ⟨j0, j1⟩ <;> (
          (try have j2 : (zz == (n2 : Int)) = true := beq_iff_eq.mpr j1)
          (try clear j1)
          obtain ⟨-, cR, cM⟩ := n2_ H
          go_wp2_with first
            | (go_at_call 32; refine (HZ.out _ (MC_below HMC.out H.out.below)).mono ?_; rintro e W21 ⟨rfl, hb⟩; clear cR cM; replace H := pc H hb; clear hb; obtain ⟨-, cR, cM⟩ := n2_ H)
            | (apply bh H 6 (oL 0 0 0) 59; clear H cR cM; intro gY W22 H; obtain ⟨-, cY, cR, cM⟩ := n3_ H)
            | (apply sn H 0 59 6 gY (oL 0 0 0))
            | (go_at_call 81; refine (HT.out _ (MC_below HMC.out H.out.below)).mono ?_; rintro e W23 ⟨v, rfl, hB, hb⟩; clear cY cR cM; obtain ⟨BV, cV, rfl⟩ := BR_len hB; clear hB; replace H := pc H hb; clear hb; obtain ⟨-, cY, cR, cM⟩ := n3_ H)
            | (go_at_call 82; refine (HF.out _ (MC_below HMC.out H.out.below)).mono ?_; rintro e W24 ⟨rfl, hb⟩; clear cY cR cM; replace H := pc H hb; clear hb; obtain ⟨-, cY, cR, cM⟩ := n3_ H)
          exact ⟨⟨zz + 1, rfl, by omega, by omega, Lib.hid (H.out.refs (fs' := []) (by intro f hf; cases hf)).tail⟩, by simp only [intOf]; omega⟩)
    · obtain ⟨-, cR, cM⟩ := n2_ H
      go_wp2
      go_ret
      exact ⟨rfl, H.out.below⟩
end Go.Proofs.Ytgckcaoncjhgbaa
