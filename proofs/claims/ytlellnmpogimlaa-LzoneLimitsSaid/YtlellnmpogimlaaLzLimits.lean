/- The walk of revetmentlaw17.LzoneLimits. -/
import Derived.WalkKit
import Derived.WalkSpells
import Derived.WalkLawsBesides
import Derived.Lib.Hide
import Derived.Test.YtlellnmpogimlaaLzDoes2
import Derived.Test.YtlellnmpogimlaaPLx2
import Derived.Test.YtlellnmpogimlaaPLx3
namespace Go.Proofs.Ytlellnmpogimlaa
-- lzone_New.calls conf_Check.f
open Go.RowKit Go.Proofs.Ytlellnmpogimlaa.PL Go.Proofs.YtlellnmpogimlaaW.PrintWords Go.Proofs.YtlellnmpogimlaaW.PrintLast
set_option linter.unusedVariables false
set_option linter.unusedSimpArgs false
/-- The block of settings. -/
abbrev cfO (id m u b c z s me o a l : Int) : Obj := .cells #[.int .i64 id, .int .i64 m, .int .i64 u, .int .i64 b, .int .i64 c, .int .i64 z, .int .i64 s, .int .i64 me, .int .i64 o, .int .i64 a, .int .i64 l] 23
/-- What the blocks of a table and of a call hold. -/
abbrev tcTX (g : Nat) (q0 q1 q2 q3 q4 q5 q6 q7 q8 q9 q10 : Int) (v : Value) (P : Addr) (d i p k : Int) (W : World) : Prop := W.cell? ⟨g, 0, none⟩ = some (.int .i64 q0) ∧ W.cell? ⟨g, 1, none⟩ = some (.int .i64 q1) ∧ W.cell? ⟨g, 2, none⟩ = some (.int .i64 q2) ∧ W.cell? ⟨g, 3, none⟩ = some (.int .i64 q3) ∧ W.cell? ⟨g, 4, none⟩ = some (.int .i64 q4) ∧ W.cell? ⟨g, 5, none⟩ = some (.int .i64 q5) ∧ W.cell? ⟨g, 6, none⟩ = some (.int .i64 q6) ∧ W.cell? ⟨g, 7, none⟩ = some (.int .i64 q7) ∧ W.cell? ⟨g, 8, none⟩ = some (.int .i64 q8) ∧ W.cell? ⟨g, 9, none⟩ = some (.int .i64 q9) ∧ W.cell? ⟨g, 10, none⟩ = some (.int .i64 q10) ∧ W.cell? ⟨g, 11, none⟩ = some v ∧ W.cell? P = some (.int .i64 d) ∧ W.cell? ⟨P.block, P.off + 1, none⟩ = some (.int .i64 i) ∧ W.cell? ⟨P.block, P.off + 2, none⟩ = some (.int .i64 p) ∧ W.cell? ⟨P.block, P.off + 3, none⟩ = some (.int .i64 k)
theorem tcTX_of {g : Nat} {q0 q1 q2 q3 q4 q5 q6 q7 q8 q9 q10 : Int} {v : Value} {P : Addr} {d i p k : Int} {W : World} (e : W.heap[g]? = some (tabO q0 q1 q2 q3 q4 q5 q6 q7 q8 q9 q10 v)) (f : W.cell? P = some (.int .i64 d) ∧ W.cell? ⟨P.block, P.off + 1, none⟩ = some (.int .i64 i) ∧ W.cell? ⟨P.block, P.off + 2, none⟩ = some (.int .i64 p) ∧ W.cell? ⟨P.block, P.off + 3, none⟩ = some (.int .i64 k)) : tcTX g q0 q1 q2 q3 q4 q5 q6 q7 q8 q9 q10 v P d i p k W :=
  ⟨(blk_cell e 0).trans rfl, (blk_cell e 1).trans rfl, (blk_cell e 2).trans rfl, (blk_cell e 3).trans rfl, (blk_cell e 4).trans rfl, (blk_cell e 5).trans rfl, (blk_cell e 6).trans rfl, (blk_cell e 7).trans rfl, (blk_cell e 8).trans rfl, (blk_cell e 9).trans rfl, (blk_cell e 10).trans rfl, (blk_cell e 11).trans rfl, f⟩
theorem act_at {W : World} {ad : Addr} {n : Nat} {xs : List S47} (h : Kd.C k47 W (some ad) n xs) (j : Nat) (hj : j < n) : W.cell? (ad.add (j * 4)) = some (.int .i64 (rd_T47 xs j).f0) ∧ W.cell? ⟨(ad.add (j * 4)).block, (ad.add (j * 4)).off + 1, none⟩ = some (.int .i64 (rd_T47 xs j).f1) ∧ W.cell? ⟨(ad.add (j * 4)).block, (ad.add (j * 4)).off + 2, none⟩ = some (.int .i64 (rd_T47 xs j).f2) ∧ W.cell? ⟨(ad.add (j * 4)).block, (ad.add (j * 4)).off + 3, none⟩ = some (.int .i64 (rd_T47 xs j).f3) := by
  obtain ⟨ad', e, h0, h1, h2, h3⟩ := at_T47 h (j : Int) (by omega) (by omega)
  cases e
  simp only [Int.toNat_natCast] at h0 h1 h2 h3
  exact ⟨h0, h1, h2, h3⟩
theorem new_ok (id m u b c z s me o a l : Int) (h : checkC id m u b c z s me o a l = 0) : lzone_New.f id m u b c z s me o a l = some (id, m, u, b, c, z, s, me, o, a, l, List.replicate z.toNat z57, 0) := by
  have hb := okC_bd (checkC_ok h).1
  unfold lzone_New.f conf_Check.f
  rw [Option.bind_some, if_pos h, if_pos (by omega), if_pos (by omega)]
theorem new_no (id m u b c z s me o a l : Int) (h : ¬ checkC id m u b c z s me o a l = 0) : lzone_New.f id m u b c z s me o a l = some (0, 0, 0, 0, 0, 0, 0, 0, 0, 0, 0, [], checkC id m u b c z s me o a l) := by
  unfold lzone_New.f conf_Check.f
  rw [Option.bind_some, if_neg h]
def T6_7 : Bool × List (List Nat × List Nat) := (true, [([], []), ([], []), ([], []), ([1, 2], [1, 2]), ([3], [3]), ([0, 4], [0, 4]), ([5], [5]), ([6], [6]), ([6], [6]), ([], []), ([9, 7, 5, 0, 1, 2, 3, 4, 5, 6, 7, 9], [7, 9]), ([8, 10, 0, 1, 2, 3, 4, 5, 6, 7, 8, 9, 10], [8])])
theorem tab6_7 : rtab .any (opsOf Try.f6 7) = T6_7 := by kernel_rfl
theorem bits6_7 : waitsOk T6_7.2 [0, 0, 0, 6, 14, 31, 63, 127, 127, 0, 767, 2047] = true := by kernel_rfl
set_option maxHeartbeats 4000000 in
set_option maxRecDepth 100000 in
theorem limits_gen (id m u b c z s me o a l : Int) (Aa : Option Addr) (ca : Nat) (xs : List S47) (w : World) (hr : Kd.C k47 w Aa xs.length xs) (hc : xs.length ≤ ca) (Inv : List S57 → Prop)
    (h0 : checkC id m u b c z s me o a l = 0 → Inv (List.replicate z.toNat z57)) (hs : ∀ L x, Inv L → (doesZ id m u b c z s me o a l L x).2 = 0 → ∃ L', (doesZ id m u b c z s me o a l L x).1 = some L' ∧ Inv L') (hl : ∀ L, Inv L → cntZ 1 1 L ≤ o ∧ cntZ 1 2 L ≤ a) :
    Calls Try.prog 6 #[.agg #[.int .i64 id, .int .i64 m, .int .i64 u, .int .i64 b, .int .i64 c, .int .i64 z, .int .i64 s, .int .i64 me, .int .i64 o, .int .i64 a, .int .i64 l], .slice Aa xs.length ca] w fun e w' => e = .returned (.bool true) ∧ Below w.heap.size w w' := by
  obtain ⟨n, hn⟩ : ∃ n, n = xs.length := ⟨_, rfl⟩
  rw [← hn] at hr ⊢
  have HX := Lib.hid hr; have Hn := Lib.hid hn
  have H := al1 w (cfO id m u b c z s me o a l)
  have C0 := Lib.hid H.1; have HB0 := Lib.hid H.2; clear H
  obtain ⟨t0, t1, t2, t3, t4, t5, t6, t7, t8, t9, t10⟩ := cz11 C0.out
  clear hr hn
  by_cases hk : checkC id m u b c z s me o a l = 0
  · have hb := okC_bd (checkC_ok hk).1
    have hnew := fun W => lzone_New.calls id m u b c z s me o a l id m u b c z s me o a l _ 0 W (new_ok id m u b c z s me o a l hk)
    have HN := Lib.hid hnew; have HI0 := Lib.hid (h0 hk); clear hnew h0
    have hzl : (List.replicate z.toNat z57).length = z.toNat := List.length_replicate ..
    by_cases h60 : 60 < n
    · have c60 : (60 : Int) < (n : Int) := by omega
      go_enter Try.func6, Try.ntmps6
      go_wp2_with first
        | (go_at_call 14; refine (HN.out _).mono ?_; rintro e w1 ⟨v, rfl, hR, hb⟩; obtain ⟨A1, k1, rfl⟩ := Kd.R_slice hR; simp only [List.length_replicate, List.length_nil] at hR; have HR1 := Lib.hid (Kd.R_alloc (Kd.R_lower hR HB0.out.size) (tabO id m u b c z s me o a l (.slice A1 z.toNat k1))); have X1 := Lib.hid (blk_new w1 (tabO id m u b c z s me o a l (.slice A1 z.toNat k1))); have C1 := Lib.hid (blk_alloc (blk_below C0.out hb) (tabO id m u b c z s me o a l (.slice A1 z.toNat k1))); have HB1 := Lib.hid (below_alloc (below_step HB0.out hb) (tabO id m u b c z s me o a l (.slice A1 z.toNat k1))); have hs1 := blk_lt (blk_below C0.out hb); have hg1 := Nat.le_of_lt hs1; have n01 := Nat.ne_of_lt hs1; have n10 := Nat.ne_of_gt hs1; clear hb hR hs1)
        | (go_at_call 10; refine (code_any _ _).mono ?_; rintro e w2 ⟨rfl, hb⟩; have HR2 := Lib.hid (Kd.R_below HR1.out hb); have X2 := Lib.hid (blk_below X1.out hb); have C2 := Lib.hid (blk_below C1.out hb); have HB2 := Lib.hid (below_step HB1.out hb); clear hb)
        | (go_at_call 7; refine (live_any _).mono ?_; rintro e w9 ⟨rfl, hb⟩; have HB9 := Lib.hid (below_step HB2.out hb); clear hb)
      go_ret
      exact ⟨rfl, HB9.out⟩
    · have c60 : ¬ (60 : Int) < (n : Int) := by omega
      go_enter Try.func6, Try.ntmps6
      go_wp2_with first
        | (go_at_call 14; refine (HN.out _).mono ?_; rintro e w1 ⟨v, rfl, hR, hb⟩; obtain ⟨A1, k1, rfl⟩ := Kd.R_slice hR; simp only [List.length_replicate, List.length_nil] at hR; have HR1 := Lib.hid (Kd.R_alloc (Kd.R_lower hR HB0.out.size) (tabO id m u b c z s me o a l (.slice A1 z.toNat k1))); have X1 := Lib.hid (blk_new w1 (tabO id m u b c z s me o a l (.slice A1 z.toNat k1))); have C1 := Lib.hid (blk_alloc (blk_below C0.out hb) (tabO id m u b c z s me o a l (.slice A1 z.toNat k1))); have HB1 := Lib.hid (below_alloc (below_step HB0.out hb) (tabO id m u b c z s me o a l (.slice A1 z.toNat k1))); have hs1 := blk_lt (blk_below C0.out hb); have hg1 := Nat.le_of_lt hs1; have n01 := Nat.ne_of_lt hs1; have n10 := Nat.ne_of_gt hs1; clear hb hR hs1)
        | (go_at_call 10; refine (code_any _ _).mono ?_; rintro e w2 ⟨rfl, hb⟩; have HR2 := Lib.hid (Kd.R_below HR1.out hb); have X2 := Lib.hid (blk_below X1.out hb); have C2 := Lib.hid (blk_below C1.out hb); have HB2 := Lib.hid (below_step HB1.out hb); clear hb)
      go_loopw [7] (fun v7 wr => ∃ (j : Nat) (L : List S57) (A : Option Addr) (k : Nat), v7 = .int .i64 j ∧ j ≤ n ∧ Hid (Inv L) ∧ Hid (Kd.R k57 57 wr w.heap.size (fun _ => True) (.slice A L.length k) L) ∧ Hid (wr.heap[w1.heap.size]? = some (tabO id m u b c z s me o a l (.slice A L.length k))) ∧ Hid (wr.heap[w.heap.size]? = some (cfO id m u b c z s me o a l)) ∧ Hid (Below w.heap.size w wr)) (fun v7 _ => ((n : Int) - intOf v7).toNat)
      case atStart => exact ⟨0, _, A1, k1, rfl, by omega, HI0, by rw [hzl]; exact HR2, by rw [hzl]; exact X2, C2, HB2⟩
      case round =>
        obtain ⟨j, L, A, k, rfl, hj, HI, HRL, HT, HCF, HB⟩ := hrel
        by_cases hlt : j < n
        · have c1 : (j : Int) < (n : Int) := by omega
          obtain ⟨ad, e, -⟩ := at_T47 (Kd.C_below HX.out HB.out) (j : Int) (by omega) (by omega)
          subst e
          have q1 : (0 : Int) ≤ (j : Int) := by omega
          have e2 : wrap64 ((j : Int) + 1) = ((j + 1 : Nat) : Int) := by unfold wrap64; push_cast; omega
          have HE2 := Lib.hid e2; clear e2
          have hdo := fun W (h : Kd.C k57 W A L.length L) => does_any id m u b c z s me o a l A k L (rd_T47 xs j) W h (Kd.R_reads' HRL.out).2.1
          have hst := hs L (rd_T47 xs j) HI.out
          have hlL := hl L HI.out
          generalize doesZ id m u b c z s me o a l L (rd_T47 xs j) = rE at hdo hst
          obtain ⟨r, E⟩ := rE
          dsimp only at hdo hst
          have HD := Lib.hid hdo; clear hdo
          by_cases hE : E = 0
          · obtain ⟨L2, e1, hI2⟩ := hst hE
            subst e1; subst hE
            have hl2 := hl L2 hI2
            have HI2 := Lib.hid hI2; clear hI2 hst hlL
            have l1 : ¬ o < cntZ 1 1 L2 := by omega
            have l2 : ¬ a < cntZ 1 2 L2 := by omega
            go_wp2
            refine start_ (n := 12) (S := (tcTX w1.heap.size id m u b c z s me o a l (.slice A L.length k) (ad.add (j * 4)) (rd_T47 xs j).f0 (rd_T47 xs j).f1 (rd_T47 xs j).f2 (rd_T47 xs j).f3)) (ds := []) (bq 12 0) (by kernel_rfl) rfl (by kernel_rfl) (tcTX_of (blk_drew HT.out) (act_at (Kd.C_drew (Kd.C_below HX.out HB.out)) j hlt)) (fun hHeld => ?_)
            refine with_tabW tab6_7 bits6_7 (fun HT_ HW_ => ?_)
            apply pu 1 34 (bq 12 2) HT_
            apply pu 2 35 (bq 12 6) HT_
            apply tu 0 33 (bq 12 7) HT_ HW_ hHeld
            apply pu 3 36 (bq 12 15) HT_
            apply tu 4 37 (bq 12 31) HT_ HW_ hHeld
            refine join_ (σ := Nat × Value) 2 (bq 12 1023) (fun y => [(38, .tuple #[y.2, .int .i64 0]), (32, .tuple #[y.2, .int .i64 0]), (39, y.2), (40, .int .i64 0), (8, .pointer (some ⟨y.1, 0, none⟩))]) (fun y w' => ((tcTX w1.heap.size id m u b c z s me o a l (.slice A L.length k) (ad.add (j * 4)) (rd_T47 xs j).f0 (rd_T47 xs j).f1 (rd_T47 xs j).f2 (rd_T47 xs j).f3) w' ∧ w'.heap[w1.heap.size]? = some (tabO id m u b c z s me o a l (.slice A L.length k)) ∧ w'.heap[w.heap.size]? = some (cfO id m u b c z s me o a l) ∧ w'.heap[y.1]? = some (tabO 0 0 0 0 0 0 0 0 0 0 0 (.slice none 0 0)) ∧ w.heap.size ≤ y.1 ∧ w1.heap.size ≠ y.1 ∧ w.heap.size ≠ y.1 ∧ TabD id m u b c z s me o a l (some L2) L (.slice A L.length k) w.heap.size w' y.2 ∧ Kd.R k57 57 w' w.heap.size (fun _ => True) (.slice A L.length k) L ∧ Below w.heap.size w w')) ?_ ?_
            rotate_left
            · intro hCont
              refine two_ (i := 5) (j := 9) (Ni := some 38) (Nj := some 8) (bq 12 63) (bq 12 543) rfl rfl rfl rfl (two_of HT_.out (by kernel_rfl)) (by decide) (by decide) (fun K hK => ?_) (fun K hK => ?_)
              · refine gs Try.func16 #[tabV id m u b c z s me o a l (.slice A L.length k), actV (rd_T47 xs j)] ?_
                refine (HD.out _ (Kd.R_reads' (Kd.R_drew HRL.out)).2.2).mono ?_
                rintro e w4 ⟨v, rfl, hT, hb⟩
                refine ⟨_, rfl, ?_⟩
                have T4 := Lib.hid (blk_below (blk_drew HT.out) hb); have C4 := Lib.hid (blk_below (blk_drew HCF.out) hb); have HR4 := Lib.hid (Kd.R_below (Kd.R_drew HRL.out) hb); have HT4 := Lib.hid (TabD_lower hT (below_drew1 HB.out).size); have HB4 := Lib.hid (below_step (below_drew1 HB.out) hb); clear hb hT
                refine hK.out _ _ (tcTX_of T4.out (act_at (Kd.C_below HX.out HB4.out) j hlt)) (fun hHeld => ?_)
                clear hK K
                apply nm 0
                apply pu 6 32 (bq 12 127) HT_
                apply pu 7 39 (bq 12 255) HT_
                apply pu 8 40 (bq 12 511) HT_
                refine one_ (i := 9) (N := some 8) (bq 12 1023) rfl rfl (one_of HT_.out (by kernel_rfl)) (by decide) (fun K hK => ?_)
                refine box_step ?hg (N := 8) ?hd (cs := #[.int .i64 0, .int .i64 0, .int .i64 0, .int .i64 0, .int .i64 0, .int .i64 0, .int .i64 0, .int .i64 0, .int .i64 0, .int .i64 0, .int .i64 0, .slice none 0 0]) (t := 27) ?hr ?_; (case hd => rfl); (case hg => rfl); (case hr => first | (go_simp; done) | (go_simp; rfl))
                intro gb hg w5 hbox hb
                have T5 := Lib.hid (blk_below T4.out hb); have C5 := Lib.hid (blk_below C4.out hb); have N5 := Lib.hid hbox; have G5 : Hid (w.heap.size ≤ gb) := Lib.hid (by rw [hg]; exact HB4.out.size); have D5 : Hid (w1.heap.size ≠ gb) := Lib.hid (by rw [hg]; exact Nat.ne_of_lt (blk_lt T4.out)); have E5 : Hid (w.heap.size ≠ gb) := Lib.hid (by rw [hg]; exact Nat.ne_of_lt (blk_lt C4.out)); have HT5 := Lib.hid (TabD_below HT4.out hb); have HR5 := Lib.hid (Kd.R_below HR4.out hb); have HB5 := Lib.hid (below_step HB4.out hb); clear hb hbox hg
                refine hK.out _ _ (tcTX_of T5.out (act_at (Kd.C_below HX.out HB5.out) j hlt)) (fun hHeld => ?_)
                clear hK K
                apply nm 0
                exact norm_ (by simp only [putAll, Act.put, List.setIfInBounds_toArray, List.set_cons_zero, List.set_cons_succ]) (hCont (gb, v) _ ⟨hHeld, T5.out, C5.out, N5.out, G5.out, D5.out, E5.out, HT5.out, HR5.out, HB5.out⟩)
              · refine box_step ?hg (N := 8) ?hd (cs := #[.int .i64 0, .int .i64 0, .int .i64 0, .int .i64 0, .int .i64 0, .int .i64 0, .int .i64 0, .int .i64 0, .int .i64 0, .int .i64 0, .int .i64 0, .slice none 0 0]) (t := 27) ?hr ?_; (case hd => rfl); (case hg => rfl); (case hr => first | (go_simp; done) | (go_simp; rfl))
                intro gb hg w4 hbox hb
                have T4 := Lib.hid (blk_below (blk_drew HT.out) hb); have C4 := Lib.hid (blk_below (blk_drew HCF.out) hb); have N4 := Lib.hid hbox; have G5 : Hid (w.heap.size ≤ gb) := Lib.hid (by rw [hg]; exact (below_drew1 HB.out).size); have D5 : Hid (w1.heap.size ≠ gb) := Lib.hid (by rw [hg]; exact Nat.ne_of_lt (blk_lt (blk_drew HT.out))); have E5 : Hid (w.heap.size ≠ gb) := Lib.hid (by rw [hg]; exact Nat.ne_of_lt (blk_lt (blk_drew HCF.out))); have HR4 := Lib.hid (Kd.R_below (Kd.R_drew HRL.out) hb); have HB4 := Lib.hid (below_step (below_drew1 HB.out) hb); clear hb hbox hg
                refine hK.out _ _ (tcTX_of T4.out (act_at (Kd.C_below HX.out HB4.out) j hlt)) (fun hHeld => ?_)
                clear hK K
                apply nm 0
                refine one_ (i := 5) (N := some 38) (bq 12 575) rfl rfl (one_of HT_.out (by kernel_rfl)) (by decide) (fun K hK => ?_)
                refine gs Try.func16 #[tabV id m u b c z s me o a l (.slice A L.length k), actV (rd_T47 xs j)] ?_
                refine (HD.out _ (Kd.R_reads' HR4.out).2.2).mono ?_
                rintro e w5 ⟨v, rfl, hT, hb⟩
                refine ⟨_, rfl, ?_⟩
                have T5 := Lib.hid (blk_below T4.out hb); have C5 := Lib.hid (blk_below C4.out hb); have HR5 := Lib.hid (Kd.R_below HR4.out hb); have HT5 := Lib.hid (TabD_lower hT HB4.out.size); have HB5 := Lib.hid (below_step HB4.out hb); have N5 := Lib.hid (blk_below N4.out hb); clear hb hT
                refine hK.out _ _ (tcTX_of T5.out (act_at (Kd.C_below HX.out HB5.out) j hlt)) (fun hHeld => ?_)
                clear hK K
                apply nm 0
                apply pu 6 32 (bq 12 639) HT_
                apply pu 7 39 (bq 12 767) HT_
                apply pu 8 40 (bq 12 1023) HT_
                exact norm_ (by simp only [putAll, Act.put, List.setIfInBounds_toArray, List.set_cons_zero, List.set_cons_succ]) (hCont (gb, v) _ ⟨hHeld, T5.out, C5.out, N5.out, G5.out, D5.out, E5.out, HT5.out, HR5.out, HB5.out⟩)
            rintro ⟨gb, v⟩ w3 ⟨hHeld, h0, h1, h2, h3, h4, h5, h6, h7, h8⟩
            have T3 := Lib.hid h0; have C3 := Lib.hid h1; have N3 := Lib.hid h2; have HT3 := Lib.hid h6; have HR3 := Lib.hid h7; have HB3 := Lib.hid h8; clear h0 h1 h2 h6 h7 h8
            dsimp only at h3 h4 h5
            obtain ⟨A2, k2, hv, hRn⟩ := TabD_some HT3.out HR3.out
            have HRn := Lib.hid hRn; clear hRn HR3 HT3
            dsimp only at hv; subst hv
            refine norm_ (a' := ?_) ?_ ?_
            rotate_left
            · simp only [putAll, Act.put, List.setIfInBounds_toArray, List.set_cons_zero, List.set_cons_succ]
              rfl
            refine one_ (i := 10) (N := none) (bq 12 2047) rfl rfl (one_of HT_.out (by kernel_rfl)) (by decide) (fun K hK => ?_)
            obtain ⟨g0, g1, g2, g3, g4, g5, g6, g7, g8, g9, g10, g11⟩ := cz12 N3.out
            obtain ⟨gf0, gf1, gf2, gf3, gf4, gf5, gf6, gf7, gf8, gf9, gf10, gf11⟩ := fz12 N3.out
            have h4s := h4.symm; have h5s := h5.symm
            refine skip_ (w1 := ?_) (by rfl) rfl ?_ ?_
            rotate_left
            · go_simp
              rfl
            refine hK.out _ _ (tcTX_of (far12 T3.out h4) (act_at (Kd.C_below HX.out (bl12 HB3.out h3)) j hlt)) (fun hHeld => ?_)
            clear hK K
            apply pu 11 9 (bq 12 4095) HT_
            refine done_ (done_of HT_.out (by kernel_rfl)) ?_
            obtain ⟨u0, u1, u2, u3, u4, u5, u6, u7, u8, u9, u10, u11⟩ := cz12 T3.out
            obtain ⟨uf0, uf1, uf2, uf3, uf4, uf5, uf6, uf7, uf8, uf9, uf10, uf11⟩ := fz12 T3.out
            go_wp2_with first
              | (go_at_call 12; refine (counts_any id m u b c z s me o a l A2 k2 L2 _ (Kd.R_reads' (R12 (R12 HRn.out N3.out (by decide)) (far12 T3.out h4) (by decide))).2.2 (Kd.R_reads' HRn.out).2.1).mono ?_; rintro e w4 ⟨rfl, hb⟩; have HR4 := Lib.hid (Kd.R_below (R12 (R12 HRn.out N3.out (by decide)) (far12 T3.out h4) (by decide)) hb); have T4 := Lib.hid (blk_below (put12 (far12 T3.out h4)) hb); have C4 := Lib.hid (blk_below (far12 (far12 C3.out h5) n01) hb); have HB4 := Lib.hid (below_step (bl12 (bl12 HB3.out h3) hg1) hb); clear hb; obtain ⟨c0, c1, c2, c3, c4, c5, c6, c7, c8, c9, c10⟩ := cz11 C4.out)
            exact ⟨⟨j + 1, L2, A2, k2, rfl, by omega, HI2, HR4, T4, C4, HB4⟩, by simp only [intOf]; push_cast; omega⟩
          · have eb : (E == 0) = false := beq_eq_false_iff_ne.mpr hE
            clear hst
            have l1 : ¬ o < cntZ 1 1 L := by omega
            have l2 : ¬ a < cntZ 1 2 L := by omega
            go_wp2
            refine start_ (n := 12) (S := (tcTX w1.heap.size id m u b c z s me o a l (.slice A L.length k) (ad.add (j * 4)) (rd_T47 xs j).f0 (rd_T47 xs j).f1 (rd_T47 xs j).f2 (rd_T47 xs j).f3)) (ds := []) (bq 12 0) (by kernel_rfl) rfl (by kernel_rfl) (tcTX_of (blk_drew HT.out) (act_at (Kd.C_drew (Kd.C_below HX.out HB.out)) j hlt)) (fun hHeld => ?_)
            refine with_tabW tab6_7 bits6_7 (fun HT_ HW_ => ?_)
            apply pu 1 34 (bq 12 2) HT_
            apply pu 2 35 (bq 12 6) HT_
            apply tu 0 33 (bq 12 7) HT_ HW_ hHeld
            apply pu 3 36 (bq 12 15) HT_
            apply tu 4 37 (bq 12 31) HT_ HW_ hHeld
            refine join_ (σ := Nat × Value) 2 (bq 12 1023) (fun y => [(38, .tuple #[y.2, .int .i64 E]), (32, .tuple #[y.2, .int .i64 E]), (39, y.2), (40, .int .i64 E), (8, .pointer (some ⟨y.1, 0, none⟩))]) (fun y w' => ((tcTX w1.heap.size id m u b c z s me o a l (.slice A L.length k) (ad.add (j * 4)) (rd_T47 xs j).f0 (rd_T47 xs j).f1 (rd_T47 xs j).f2 (rd_T47 xs j).f3) w' ∧ w'.heap[w1.heap.size]? = some (tabO id m u b c z s me o a l (.slice A L.length k)) ∧ w'.heap[w.heap.size]? = some (cfO id m u b c z s me o a l) ∧ w'.heap[y.1]? = some (tabO 0 0 0 0 0 0 0 0 0 0 0 (.slice none 0 0)) ∧ w.heap.size ≤ y.1 ∧ w1.heap.size ≠ y.1 ∧ w.heap.size ≠ y.1 ∧ TabD id m u b c z s me o a l r L (.slice A L.length k) w.heap.size w' y.2 ∧ Kd.R k57 57 w' w.heap.size (fun _ => True) (.slice A L.length k) L ∧ Below w.heap.size w w')) ?_ ?_
            rotate_left
            · intro hCont
              refine two_ (i := 5) (j := 9) (Ni := some 38) (Nj := some 8) (bq 12 63) (bq 12 543) rfl rfl rfl rfl (two_of HT_.out (by kernel_rfl)) (by decide) (by decide) (fun K hK => ?_) (fun K hK => ?_)
              · refine gs Try.func16 #[tabV id m u b c z s me o a l (.slice A L.length k), actV (rd_T47 xs j)] ?_
                refine (HD.out _ (Kd.R_reads' (Kd.R_drew HRL.out)).2.2).mono ?_
                rintro e w4 ⟨v, rfl, hT, hb⟩
                refine ⟨_, rfl, ?_⟩
                have T4 := Lib.hid (blk_below (blk_drew HT.out) hb); have C4 := Lib.hid (blk_below (blk_drew HCF.out) hb); have HR4 := Lib.hid (Kd.R_below (Kd.R_drew HRL.out) hb); have HT4 := Lib.hid (TabD_lower hT (below_drew1 HB.out).size); have HB4 := Lib.hid (below_step (below_drew1 HB.out) hb); clear hb hT
                refine hK.out _ _ (tcTX_of T4.out (act_at (Kd.C_below HX.out HB4.out) j hlt)) (fun hHeld => ?_)
                clear hK K
                apply nm 0
                apply pu 6 32 (bq 12 127) HT_
                apply pu 7 39 (bq 12 255) HT_
                apply pu 8 40 (bq 12 511) HT_
                refine one_ (i := 9) (N := some 8) (bq 12 1023) rfl rfl (one_of HT_.out (by kernel_rfl)) (by decide) (fun K hK => ?_)
                refine box_step ?hg (N := 8) ?hd (cs := #[.int .i64 0, .int .i64 0, .int .i64 0, .int .i64 0, .int .i64 0, .int .i64 0, .int .i64 0, .int .i64 0, .int .i64 0, .int .i64 0, .int .i64 0, .slice none 0 0]) (t := 27) ?hr ?_; (case hd => rfl); (case hg => rfl); (case hr => first | (go_simp; done) | (go_simp; rfl))
                intro gb hg w5 hbox hb
                have T5 := Lib.hid (blk_below T4.out hb); have C5 := Lib.hid (blk_below C4.out hb); have N5 := Lib.hid hbox; have G5 : Hid (w.heap.size ≤ gb) := Lib.hid (by rw [hg]; exact HB4.out.size); have D5 : Hid (w1.heap.size ≠ gb) := Lib.hid (by rw [hg]; exact Nat.ne_of_lt (blk_lt T4.out)); have E5 : Hid (w.heap.size ≠ gb) := Lib.hid (by rw [hg]; exact Nat.ne_of_lt (blk_lt C4.out)); have HT5 := Lib.hid (TabD_below HT4.out hb); have HR5 := Lib.hid (Kd.R_below HR4.out hb); have HB5 := Lib.hid (below_step HB4.out hb); clear hb hbox hg
                refine hK.out _ _ (tcTX_of T5.out (act_at (Kd.C_below HX.out HB5.out) j hlt)) (fun hHeld => ?_)
                clear hK K
                apply nm 0
                exact norm_ (by simp only [putAll, Act.put, List.setIfInBounds_toArray, List.set_cons_zero, List.set_cons_succ]) (hCont (gb, v) _ ⟨hHeld, T5.out, C5.out, N5.out, G5.out, D5.out, E5.out, HT5.out, HR5.out, HB5.out⟩)
              · refine box_step ?hg (N := 8) ?hd (cs := #[.int .i64 0, .int .i64 0, .int .i64 0, .int .i64 0, .int .i64 0, .int .i64 0, .int .i64 0, .int .i64 0, .int .i64 0, .int .i64 0, .int .i64 0, .slice none 0 0]) (t := 27) ?hr ?_; (case hd => rfl); (case hg => rfl); (case hr => first | (go_simp; done) | (go_simp; rfl))
                intro gb hg w4 hbox hb
                have T4 := Lib.hid (blk_below (blk_drew HT.out) hb); have C4 := Lib.hid (blk_below (blk_drew HCF.out) hb); have N4 := Lib.hid hbox; have G5 : Hid (w.heap.size ≤ gb) := Lib.hid (by rw [hg]; exact (below_drew1 HB.out).size); have D5 : Hid (w1.heap.size ≠ gb) := Lib.hid (by rw [hg]; exact Nat.ne_of_lt (blk_lt (blk_drew HT.out))); have E5 : Hid (w.heap.size ≠ gb) := Lib.hid (by rw [hg]; exact Nat.ne_of_lt (blk_lt (blk_drew HCF.out))); have HR4 := Lib.hid (Kd.R_below (Kd.R_drew HRL.out) hb); have HB4 := Lib.hid (below_step (below_drew1 HB.out) hb); clear hb hbox hg
                refine hK.out _ _ (tcTX_of T4.out (act_at (Kd.C_below HX.out HB4.out) j hlt)) (fun hHeld => ?_)
                clear hK K
                apply nm 0
                refine one_ (i := 5) (N := some 38) (bq 12 575) rfl rfl (one_of HT_.out (by kernel_rfl)) (by decide) (fun K hK => ?_)
                refine gs Try.func16 #[tabV id m u b c z s me o a l (.slice A L.length k), actV (rd_T47 xs j)] ?_
                refine (HD.out _ (Kd.R_reads' HR4.out).2.2).mono ?_
                rintro e w5 ⟨v, rfl, hT, hb⟩
                refine ⟨_, rfl, ?_⟩
                have T5 := Lib.hid (blk_below T4.out hb); have C5 := Lib.hid (blk_below C4.out hb); have HR5 := Lib.hid (Kd.R_below HR4.out hb); have HT5 := Lib.hid (TabD_lower hT HB4.out.size); have HB5 := Lib.hid (below_step HB4.out hb); have N5 := Lib.hid (blk_below N4.out hb); clear hb hT
                refine hK.out _ _ (tcTX_of T5.out (act_at (Kd.C_below HX.out HB5.out) j hlt)) (fun hHeld => ?_)
                clear hK K
                apply nm 0
                apply pu 6 32 (bq 12 639) HT_
                apply pu 7 39 (bq 12 767) HT_
                apply pu 8 40 (bq 12 1023) HT_
                exact norm_ (by simp only [putAll, Act.put, List.setIfInBounds_toArray, List.set_cons_zero, List.set_cons_succ]) (hCont (gb, v) _ ⟨hHeld, T5.out, C5.out, N5.out, G5.out, D5.out, E5.out, HT5.out, HR5.out, HB5.out⟩)
            rintro ⟨gb, v⟩ w3 ⟨hHeld, h0, h1, h2, h3, h4, h5, h6, h7, h8⟩
            have T3 := Lib.hid h0; have C3 := Lib.hid h1; have N3 := Lib.hid h2; have HT3 := Lib.hid h6; have HR3 := Lib.hid h7; have HB3 := Lib.hid h8; clear h0 h1 h2 h6 h7 h8
            dsimp only at h3 h4 h5
            obtain ⟨q0, q1, q2, q3, q4, q5, q6, q7, q8, q9, q10, A2, n2, k2, hv⟩ := TabD_open HT3.out
            clear HT3
            dsimp only at hv; subst hv
            refine norm_ (a' := ?_) ?_ ?_
            rotate_left
            · simp only [putAll, Act.put, List.setIfInBounds_toArray, List.set_cons_zero, List.set_cons_succ]
              rfl
            refine one_ (i := 10) (N := none) (bq 12 2047) rfl rfl (one_of HT_.out (by kernel_rfl)) (by decide) (fun K hK => ?_)
            obtain ⟨g0, g1, g2, g3, g4, g5, g6, g7, g8, g9, g10, g11⟩ := cz12 N3.out
            obtain ⟨gf0, gf1, gf2, gf3, gf4, gf5, gf6, gf7, gf8, gf9, gf10, gf11⟩ := fz12 N3.out
            have h4s := h4.symm; have h5s := h5.symm
            refine skip_ (w1 := ?_) (by rfl) rfl ?_ ?_
            rotate_left
            · go_simp
              rfl
            refine hK.out _ _ (tcTX_of (far12 T3.out h4) (act_at (Kd.C_below HX.out (bl12 HB3.out h3)) j hlt)) (fun hHeld => ?_)
            clear hK K
            apply pu 11 9 (bq 12 4095) HT_
            refine done_ (done_of HT_.out (by kernel_rfl)) ?_
            obtain ⟨u0, u1, u2, u3, u4, u5, u6, u7, u8, u9, u10, u11⟩ := cz12 T3.out
            obtain ⟨uf0, uf1, uf2, uf3, uf4, uf5, uf6, uf7, uf8, uf9, uf10, uf11⟩ := fz12 T3.out
            go_wp2_with first
              | (go_at_call 12; refine (counts_any id m u b c z s me o a l A k L _ (Kd.R_reads' (R12 HR3.out N3.out (by decide))).2.2 (Kd.R_reads' HR3.out).2.1).mono ?_; rintro e w4 ⟨rfl, hb⟩; have HR4 := Lib.hid (Kd.R_below (R12 HR3.out N3.out (by decide)) hb); have T4 := Lib.hid (blk_below (far12 T3.out h4) hb); have C4 := Lib.hid (blk_below (far12 C3.out h5) hb); have HB4 := Lib.hid (below_step (bl12 HB3.out h3) hb); clear hb; obtain ⟨c0, c1, c2, c3, c4, c5, c6, c7, c8, c9, c10⟩ := cz11 C4.out)
            exact ⟨⟨j + 1, L, A, k, rfl, by omega, HI, HR4, T4, C4, HB4⟩, by simp only [intOf]; push_cast; omega⟩
        · have c1 : ¬ (j : Int) < (n : Int) := by omega
          go_wp2_with first
            | (go_at_call 7; refine (live_any _).mono ?_; rintro e w9 ⟨rfl, hb⟩; have HB9 := Lib.hid (below_step HB.out hb); clear hb)
          go_ret
          exact ⟨rfl, HB9.out⟩
  · have hnew := fun W => lzone_New.calls id m u b c z s me o a l 0 0 0 0 0 0 0 0 0 0 0 [] (checkC id m u b c z s me o a l) W (new_no id m u b c z s me o a l hk)
    generalize checkC id m u b c z s me o a l = K at hnew hk
    have kb : (K == 0) = false := beq_eq_false_iff_ne.mpr hk
    have HN := Lib.hid hnew; clear hnew h0
    go_enter Try.func6, Try.ntmps6
    go_wp2_with first
      | (go_at_call 14; refine (HN.out _).mono ?_; rintro e w1 ⟨v, rfl, hR, hb⟩; obtain ⟨A1, k1, rfl⟩ := Kd.R_slice hR; simp only [List.length_replicate, List.length_nil] at hR; have HR1 := Lib.hid (Kd.R_alloc (Kd.R_lower hR HB0.out.size) (tabO 0 0 0 0 0 0 0 0 0 0 0 (.slice A1 0 k1))); have X1 := Lib.hid (blk_new w1 (tabO 0 0 0 0 0 0 0 0 0 0 0 (.slice A1 0 k1))); have C1 := Lib.hid (blk_alloc (blk_below C0.out hb) (tabO 0 0 0 0 0 0 0 0 0 0 0 (.slice A1 0 k1))); have HB1 := Lib.hid (below_alloc (below_step HB0.out hb) (tabO 0 0 0 0 0 0 0 0 0 0 0 (.slice A1 0 k1))); have hs1 := blk_lt (blk_below C0.out hb); have hg1 := Nat.le_of_lt hs1; have n01 := Nat.ne_of_lt hs1; have n10 := Nat.ne_of_gt hs1; clear hb hR hs1)
      | (go_at_call 10; refine (code_any _ _).mono ?_; rintro e w2 ⟨rfl, hb⟩; have HR2 := Lib.hid (Kd.R_below HR1.out hb); have X2 := Lib.hid (blk_below X1.out hb); have C2 := Lib.hid (blk_below C1.out hb); have HB2 := Lib.hid (below_step HB1.out hb); clear hb)
      | (go_at_call 7; refine (live_any _).mono ?_; rintro e w9 ⟨rfl, hb⟩; have HB9 := Lib.hid (below_step HB2.out hb); clear hb)
    go_ret
    exact ⟨rfl, HB9.out⟩
end Go.Proofs.Ytlellnmpogimlaa
