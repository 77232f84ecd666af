/- revetmentlaw17.does: a call of package lzone, by its number. -/
import Derived.WalkKit
import Derived.WalkSpells
import Derived.WalkLawsBesides
import Derived.Lib.Hide
import Derived.Test.YtgckcaoncjhgbaaLzDoesW
import Derived.Test.YtgckcaoncjhgbaaLzLive
import Derived.Test.YtgckcaoncjhgbaaLzWrite
import Derived.Test.YtgckcaoncjhgbaaLzOps
namespace Go.Proofs.Ytgckcaoncjhgbaa
open Go.RowKit Go.Proofs.Ytgckcaoncjhgbaa.PL Go.Proofs.YtgckcaoncjhgbaaW.PrintWords Go.Proofs.YtgckcaoncjhgbaaW.PrintLast
set_option linter.unusedVariables false
set_option linter.unusedSimpArgs false
def T16_15 : Bool × List (List Nat × List Nat) := (true, [([], []), ([], []), ([1], [1]), ([0, 2, 0], [0]), ([2, 3, 0, 1, 2, 3], [2])])
theorem tab16_15 : rtab .any (opsOf Try.f16 15) = T16_15 := by kernel_rfl
theorem bits16_15 : waitsOk T16_15.2 [0, 0, 2, 7, 15] = true := by kernel_rfl
set_option maxHeartbeats 4000000 in
set_option maxRecDepth 100000 in
theorem does_Write (id m u b c z s me o a l : Int) (A0 : Option Addr) (c0 : Nat) (L : List S59) (i p k : Int) (w : World) (hr0 : Kd.C k59 w A0 L.length L) (hc0 : L.length ≤ c0) :
    Calls Try.prog 16 #[tabV id m u b c z s me o a l (.slice A0 L.length c0), .agg #[.int .i64 0, .int .i64 i, .int .i64 p, .int .i64 k]] w fun e w' => ∃ v, e = .returned (.tuple #[v, .int .i64 (writeZ id m u b c z s me o a l L i p k).2]) ∧ TabD id m u b c z s me o a l (writeZ id m u b c z s me o a l L i p k).1 L (.slice A0 L.length c0) w.heap.size w' v ∧ Below w.heap.size w w' := by
  have hW := fun W h => write_any id m u b c z s me o a l A0 c0 L i p k W h hc0
  generalize writeZ id m u b c z s me o a l L i p k = rE at hW ⊢
  obtain ⟨r, E⟩ := rE
  dsimp only at hW ⊢
  obtain ⟨n, hn⟩ : ∃ n, n = L.length := ⟨_, rfl⟩
  rw [← hn] at hW hr0 hc0 ⊢
  have HR := Lib.hid hr0; have HW := Lib.hid hW; have Hn := Lib.hid hn; have HC0 := Lib.hid hc0; clear hr0 hW hn hc0
  have H3x := al3 w (tabO id m u b c z s me o a l (.slice A0 n c0)) (actO 0 i p k) (tabO 0 0 0 0 0 0 0 0 0 0 0 (.slice none 0 0))
  obtain ⟨t0, t1, t2, t3, t4, t5, t6, t7, t8, t9, t10, t11⟩ := cz12 H3x.1
  clear H3x
  have H := al4 w (tabO id m u b c z s me o a l (.slice A0 n c0)) (actO 0 i p k) (tabO 0 0 0 0 0 0 0 0 0 0 0 (.slice none 0 0)) (tabO id m u b c z s me o a l (.slice A0 n c0))
  have H0 := Lib.hid H.1; have H1 := Lib.hid H.2.1; have H2 := Lib.hid H.2.2.1; have H3 := Lib.hid H.2.2.2.1; have HB0 := Lib.hid H.2.2.2.2; clear H
  obtain ⟨s0, s1, s2, s3, s4, s5, s6, s7, s8, s9, s10, s11⟩ := cz12 H0.out
  obtain ⟨a0, a1, a2, a3⟩ := cz4 H1.out
  have h23 : w.heap.size + 1 + 1 ≠ w.heap.size + 1 + 1 + 1 := by omega
  have h32 : w.heap.size + 1 + 1 + 1 ≠ w.heap.size + 1 + 1 := by omega
  have hge : w.heap.size ≤ w.heap.size + 1 + 1 := by omega
  have hgf : w.heap.size ≤ w.heap.size + 1 + 1 + 1 := by omega
  go_enter Try.func16, Try.ntmps16
  go_wp2_with (go_at_call 56; refine (HW.out _ (Kd.C_below HR.out HB0.out)).mono ?_; rintro e w5 ⟨v, rfl, hT, hb⟩; obtain ⟨q0, q1, q2, q3, q4, q5, q6, q7, q8, q9, q10, A2, n2, k2, rfl⟩ := TabR_open hT; have G5 := Lib.hid (blk_below H2.out hb); have X5 := Lib.hid (blk_below H3.out hb); have HB5 := Lib.hid (below_step HB0.out hb); have HT5 := Lib.hid (TabR_lower hT HB0.out.size); clear hT hb; obtain ⟨x0, x1, x2, x3, x4, x5, x6, x7, x8, x9, x10, x11⟩ := cz12 X5.out; obtain ⟨xf0, xf1, xf2, xf3, xf4, xf5, xf6, xf7, xf8, xf9, xf10, xf11⟩ := fz12 X5.out)
  refine start_ (n := 5) (S := (tcT (w.heap.size + 1 + 1 + 1) q0 q1 q2 q3 q4 q5 q6 q7 q8 q9 q10 (.slice A2 n2 k2))) (ds := []) (bq 5 0) (by kernel_rfl) rfl (by kernel_rfl) (tcT_of (blk_drew (put12 X5.out))) (fun hHeld => ?_)
  refine with_tabW tab16_15 bits16_15 (fun HT_ HW_ => ?_)
  apply tu 0 72 (bq 5 1) HT_ HW_ hHeld
  apply pu 1 73 (bq 5 3) HT_
  refine one_ (i := 2) (N := some 74) (bq 5 7) rfl rfl (one_of HT_.out (by kernel_rfl)) (by decide) (fun K hK => ?_)
  refine gs Try.func12 #[.int .i64 E] ?_
  refine (code_any _ _).mono ?_
  rintro e w6 ⟨rfl, hb⟩
  refine ⟨_, rfl, ?_⟩
  have G6 := Lib.hid (blk_below (blk_drew (far12 G5.out h23)) hb); have X6 := Lib.hid (blk_below (blk_drew (put12 X5.out)) hb); have HB6 := Lib.hid (below_step (below_drew1 (bl12 HB5.out hgf)) hb); have HT6 := Lib.hid (TabR_below (TabR_drew (TabR12 HT5.out X5.out)) hb); clear hb
  refine hK.out _ _ (tcT_of X6.out) (fun hHeld => ?_)
  clear hK K
  apply nm 0
  refine one_ (i := 3) (N := none) (bq 5 15) rfl rfl (one_of HT_.out (by kernel_rfl)) (by decide) (fun K hK => ?_)
  obtain ⟨g0, g1, g2, g3, g4, g5, g6, g7, g8, g9, g10, g11⟩ := cz12 G6.out
  obtain ⟨gf0, gf1, gf2, gf3, gf4, gf5, gf6, gf7, gf8, gf9, gf10, gf11⟩ := fz12 G6.out
  refine skip_ (w1 := ?_) (by rfl) rfl ?_ ?_
  rotate_left
  · go_simp
    rfl
  refine hK.out _ _ (tcT_of (far12 X6.out h32)) (fun hHeld => ?_)
  clear hK K
  apply pu 4 5 (bq 5 31) HT_
  refine done_ (done_of HT_.out (by kernel_rfl)) ?_
  go_wp2
  refine bodyPost_ret (results_ct rfl _ _ (w.heap.size + 1 + 1) 27 #[.int .i64 q0, .int .i64 q1, .int .i64 q2, .int .i64 q3, .int .i64 q4, .int .i64 q5, .int .i64 q6, .int .i64 q7, .int .i64 q8, .int .i64 q9, .int .i64 q10, .slice A2 n2 k2] (0, 0) _ rfl (put12 G6.out) Try.underlying27 rfl (by kernel_rfl)) rfl ?_
  exact ⟨_, rfl, .inl (TabR12 HT6.out G6.out), bl12 HB6.out hge⟩

set_option maxHeartbeats 4000000 in
set_option maxRecDepth 100000 in
theorem does_Reset (id m u b c z s me o a l : Int) (A0 : Option Addr) (c0 : Nat) (L : List S59) (i p k : Int) (w : World) (hr0 : Kd.C k59 w A0 L.length L) (hc0 : L.length ≤ c0) :
    Calls Try.prog 16 #[tabV id m u b c z s me o a l (.slice A0 L.length c0), .agg #[.int .i64 2, .int .i64 i, .int .i64 p, .int .i64 k]] w fun e w' => ∃ v, e = .returned (.tuple #[v, .int .i64 (resetZ id m u b c z s me o a l L i).2]) ∧ TabD id m u b c z s me o a l (resetZ id m u b c z s me o a l L i).1 L (.slice A0 L.length c0) w.heap.size w' v ∧ Below w.heap.size w w' := by
  have hW := fun W h => reset_any id m u b c z s me o a l A0 c0 L i W h hc0
  generalize resetZ id m u b c z s me o a l L i = rE at hW ⊢
  obtain ⟨r, E⟩ := rE
  dsimp only at hW ⊢
  obtain ⟨n, hn⟩ : ∃ n, n = L.length := ⟨_, rfl⟩
  rw [← hn] at hW hr0 hc0 ⊢
  have HR := Lib.hid hr0; have HW := Lib.hid hW; have Hn := Lib.hid hn; have HC0 := Lib.hid hc0; clear hr0 hW hn hc0
  have H3x := al3 w (tabO id m u b c z s me o a l (.slice A0 n c0)) (actO 2 i p k) (tabO 0 0 0 0 0 0 0 0 0 0 0 (.slice none 0 0))
  obtain ⟨t0, t1, t2, t3, t4, t5, t6, t7, t8, t9, t10, t11⟩ := cz12 H3x.1
  clear H3x
  have H := al4 w (tabO id m u b c z s me o a l (.slice A0 n c0)) (actO 2 i p k) (tabO 0 0 0 0 0 0 0 0 0 0 0 (.slice none 0 0)) (tabO id m u b c z s me o a l (.slice A0 n c0))
  have H0 := Lib.hid H.1; have H1 := Lib.hid H.2.1; have H2 := Lib.hid H.2.2.1; have H3 := Lib.hid H.2.2.2.1; have HB0 := Lib.hid H.2.2.2.2; clear H
  obtain ⟨s0, s1, s2, s3, s4, s5, s6, s7, s8, s9, s10, s11⟩ := cz12 H0.out
  obtain ⟨a0, a1, a2, a3⟩ := cz4 H1.out
  have h23 : w.heap.size + 1 + 1 ≠ w.heap.size + 1 + 1 + 1 := by omega
  have h32 : w.heap.size + 1 + 1 + 1 ≠ w.heap.size + 1 + 1 := by omega
  have hge : w.heap.size ≤ w.heap.size + 1 + 1 := by omega
  have hgf : w.heap.size ≤ w.heap.size + 1 + 1 + 1 := by omega
  go_enter Try.func16, Try.ntmps16
  go_wp2_with (go_at_call 58; refine (HW.out _ (Kd.C_below HR.out HB0.out)).mono ?_; rintro e w5 ⟨v, rfl, hT, hb⟩; obtain ⟨q0, q1, q2, q3, q4, q5, q6, q7, q8, q9, q10, A2, n2, k2, rfl⟩ := TabR_open hT; have G5 := Lib.hid (blk_below H2.out hb); have X5 := Lib.hid (blk_below H3.out hb); have HB5 := Lib.hid (below_step HB0.out hb); have HT5 := Lib.hid (TabR_lower hT HB0.out.size); clear hT hb; obtain ⟨x0, x1, x2, x3, x4, x5, x6, x7, x8, x9, x10, x11⟩ := cz12 X5.out; obtain ⟨xf0, xf1, xf2, xf3, xf4, xf5, xf6, xf7, xf8, xf9, xf10, xf11⟩ := fz12 X5.out)
  refine start_ (n := 5) (S := (tcT (w.heap.size + 1 + 1 + 1) q0 q1 q2 q3 q4 q5 q6 q7 q8 q9 q10 (.slice A2 n2 k2))) (ds := []) (bq 5 0) (by kernel_rfl) rfl (by kernel_rfl) (tcT_of (blk_drew (put12 X5.out))) (fun hHeld => ?_)
  refine with_tabW tab16_15 bits16_15 (fun HT_ HW_ => ?_)
  apply tu 0 72 (bq 5 1) HT_ HW_ hHeld
  apply pu 1 73 (bq 5 3) HT_
  refine one_ (i := 2) (N := some 74) (bq 5 7) rfl rfl (one_of HT_.out (by kernel_rfl)) (by decide) (fun K hK => ?_)
  refine gs Try.func12 #[.int .i64 E] ?_
  refine (code_any _ _).mono ?_
  rintro e w6 ⟨rfl, hb⟩
  refine ⟨_, rfl, ?_⟩
  have G6 := Lib.hid (blk_below (blk_drew (far12 G5.out h23)) hb); have X6 := Lib.hid (blk_below (blk_drew (put12 X5.out)) hb); have HB6 := Lib.hid (below_step (below_drew1 (bl12 HB5.out hgf)) hb); have HT6 := Lib.hid (TabR_below (TabR_drew (TabR12 HT5.out X5.out)) hb); clear hb
  refine hK.out _ _ (tcT_of X6.out) (fun hHeld => ?_)
  clear hK K
  apply nm 0
  refine one_ (i := 3) (N := none) (bq 5 15) rfl rfl (one_of HT_.out (by kernel_rfl)) (by decide) (fun K hK => ?_)
  obtain ⟨g0, g1, g2, g3, g4, g5, g6, g7, g8, g9, g10, g11⟩ := cz12 G6.out
  obtain ⟨gf0, gf1, gf2, gf3, gf4, gf5, gf6, gf7, gf8, gf9, gf10, gf11⟩ := fz12 G6.out
  refine skip_ (w1 := ?_) (by rfl) rfl ?_ ?_
  rotate_left
  · go_simp
    rfl
  refine hK.out _ _ (tcT_of (far12 X6.out h32)) (fun hHeld => ?_)
  clear hK K
  apply pu 4 5 (bq 5 31) HT_
  refine done_ (done_of HT_.out (by kernel_rfl)) ?_
  go_wp2
  refine bodyPost_ret (results_ct rfl _ _ (w.heap.size + 1 + 1) 27 #[.int .i64 q0, .int .i64 q1, .int .i64 q2, .int .i64 q3, .int .i64 q4, .int .i64 q5, .int .i64 q6, .int .i64 q7, .int .i64 q8, .int .i64 q9, .int .i64 q10, .slice A2 n2 k2] (0, 0) _ rfl (put12 G6.out) Try.underlying27 rfl (by kernel_rfl)) rfl ?_
  exact ⟨_, rfl, .inl (TabR12 HT6.out G6.out), bl12 HB6.out hge⟩

set_option maxHeartbeats 4000000 in
set_option maxRecDepth 100000 in
theorem does_Finish (id m u b c z s me o a l : Int) (A0 : Option Addr) (c0 : Nat) (L : List S59) (i p k : Int) (w : World) (hr0 : Kd.C k59 w A0 L.length L) (hc0 : L.length ≤ c0) :
    Calls Try.prog 16 #[tabV id m u b c z s me o a l (.slice A0 L.length c0), .agg #[.int .i64 3, .int .i64 i, .int .i64 p, .int .i64 k]] w fun e w' => ∃ v, e = .returned (.tuple #[v, .int .i64 (finishZ id m u b c z s me o a l L i).2]) ∧ TabD id m u b c z s me o a l (finishZ id m u b c z s me o a l L i).1 L (.slice A0 L.length c0) w.heap.size w' v ∧ Below w.heap.size w w' := by
  have hW := fun W h => finish_any id m u b c z s me o a l A0 c0 L i W h hc0
  generalize finishZ id m u b c z s me o a l L i = rE at hW ⊢
  obtain ⟨r, E⟩ := rE
  dsimp only at hW ⊢
  obtain ⟨n, hn⟩ : ∃ n, n = L.length := ⟨_, rfl⟩
  rw [← hn] at hW hr0 hc0 ⊢
  have HR := Lib.hid hr0; have HW := Lib.hid hW; have Hn := Lib.hid hn; have HC0 := Lib.hid hc0; clear hr0 hW hn hc0
  have H3x := al3 w (tabO id m u b c z s me o a l (.slice A0 n c0)) (actO 3 i p k) (tabO 0 0 0 0 0 0 0 0 0 0 0 (.slice none 0 0))
  obtain ⟨t0, t1, t2, t3, t4, t5, t6, t7, t8, t9, t10, t11⟩ := cz12 H3x.1
  clear H3x
  have H := al4 w (tabO id m u b c z s me o a l (.slice A0 n c0)) (actO 3 i p k) (tabO 0 0 0 0 0 0 0 0 0 0 0 (.slice none 0 0)) (tabO id m u b c z s me o a l (.slice A0 n c0))
  have H0 := Lib.hid H.1; have H1 := Lib.hid H.2.1; have H2 := Lib.hid H.2.2.1; have H3 := Lib.hid H.2.2.2.1; have HB0 := Lib.hid H.2.2.2.2; clear H
  obtain ⟨s0, s1, s2, s3, s4, s5, s6, s7, s8, s9, s10, s11⟩ := cz12 H0.out
  obtain ⟨a0, a1, a2, a3⟩ := cz4 H1.out
  have h23 : w.heap.size + 1 + 1 ≠ w.heap.size + 1 + 1 + 1 := by omega
  have h32 : w.heap.size + 1 + 1 + 1 ≠ w.heap.size + 1 + 1 := by omega
  have hge : w.heap.size ≤ w.heap.size + 1 + 1 := by omega
  have hgf : w.heap.size ≤ w.heap.size + 1 + 1 + 1 := by omega
  go_enter Try.func16, Try.ntmps16
  go_wp2_with (go_at_call 59; refine (HW.out _ (Kd.C_below HR.out HB0.out)).mono ?_; rintro e w5 ⟨v, rfl, hT, hb⟩; obtain ⟨q0, q1, q2, q3, q4, q5, q6, q7, q8, q9, q10, A2, n2, k2, rfl⟩ := TabR_open hT; have G5 := Lib.hid (blk_below H2.out hb); have X5 := Lib.hid (blk_below H3.out hb); have HB5 := Lib.hid (below_step HB0.out hb); have HT5 := Lib.hid (TabR_lower hT HB0.out.size); clear hT hb; obtain ⟨x0, x1, x2, x3, x4, x5, x6, x7, x8, x9, x10, x11⟩ := cz12 X5.out; obtain ⟨xf0, xf1, xf2, xf3, xf4, xf5, xf6, xf7, xf8, xf9, xf10, xf11⟩ := fz12 X5.out)
  refine start_ (n := 5) (S := (tcT (w.heap.size + 1 + 1 + 1) q0 q1 q2 q3 q4 q5 q6 q7 q8 q9 q10 (.slice A2 n2 k2))) (ds := []) (bq 5 0) (by kernel_rfl) rfl (by kernel_rfl) (tcT_of (blk_drew (put12 X5.out))) (fun hHeld => ?_)
  refine with_tabW tab16_15 bits16_15 (fun HT_ HW_ => ?_)
  apply tu 0 72 (bq 5 1) HT_ HW_ hHeld
  apply pu 1 73 (bq 5 3) HT_
  refine one_ (i := 2) (N := some 74) (bq 5 7) rfl rfl (one_of HT_.out (by kernel_rfl)) (by decide) (fun K hK => ?_)
  refine gs Try.func12 #[.int .i64 E] ?_
  refine (code_any _ _).mono ?_
  rintro e w6 ⟨rfl, hb⟩
  refine ⟨_, rfl, ?_⟩
  have G6 := Lib.hid (blk_below (blk_drew (far12 G5.out h23)) hb); have X6 := Lib.hid (blk_below (blk_drew (put12 X5.out)) hb); have HB6 := Lib.hid (below_step (below_drew1 (bl12 HB5.out hgf)) hb); have HT6 := Lib.hid (TabR_below (TabR_drew (TabR12 HT5.out X5.out)) hb); clear hb
  refine hK.out _ _ (tcT_of X6.out) (fun hHeld => ?_)
  clear hK K
  apply nm 0
  refine one_ (i := 3) (N := none) (bq 5 15) rfl rfl (one_of HT_.out (by kernel_rfl)) (by decide) (fun K hK => ?_)
  obtain ⟨g0, g1, g2, g3, g4, g5, g6, g7, g8, g9, g10, g11⟩ := cz12 G6.out
  obtain ⟨gf0, gf1, gf2, gf3, gf4, gf5, gf6, gf7, gf8, gf9, gf10, gf11⟩ := fz12 G6.out
  refine skip_ (w1 := ?_) (by rfl) rfl ?_ ?_
  rotate_left
  · go_simp
    rfl
  refine hK.out _ _ (tcT_of (far12 X6.out h32)) (fun hHeld => ?_)
  clear hK K
  apply pu 4 5 (bq 5 31) HT_
  refine done_ (done_of HT_.out (by kernel_rfl)) ?_
  go_wp2
  refine bodyPost_ret (results_ct rfl _ _ (w.heap.size + 1 + 1) 27 #[.int .i64 q0, .int .i64 q1, .int .i64 q2, .int .i64 q3, .int .i64 q4, .int .i64 q5, .int .i64 q6, .int .i64 q7, .int .i64 q8, .int .i64 q9, .int .i64 q10, .slice A2 n2 k2] (0, 0) _ rfl (put12 G6.out) Try.underlying27 rfl (by kernel_rfl)) rfl ?_
  exact ⟨_, rfl, .inl (TabR12 HT6.out G6.out), bl12 HB6.out hge⟩

set_option maxHeartbeats 4000000 in
set_option maxRecDepth 100000 in
theorem does_Open (id m u b c z s me o a l : Int) (A0 : Option Addr) (c0 : Nat) (L : List S59) (i p k : Int) (w : World) (hr0 : Kd.C k59 w A0 L.length L) (hc0 : L.length ≤ c0) :
    Calls Try.prog 16 #[tabV id m u b c z s me o a l (.slice A0 L.length c0), .agg #[.int .i64 4, .int .i64 i, .int .i64 p, .int .i64 k]] w fun e w' => ∃ v, e = .returned (.tuple #[v, .int .i64 (openZ id m u b c z s me o a l L i).2]) ∧ TabD id m u b c z s me o a l (openZ id m u b c z s me o a l L i).1 L (.slice A0 L.length c0) w.heap.size w' v ∧ Below w.heap.size w w' := by
  have hW := fun W h => open_any id m u b c z s me o a l A0 c0 L i W h hc0
  generalize openZ id m u b c z s me o a l L i = rE at hW ⊢
  obtain ⟨r, E⟩ := rE
  dsimp only at hW ⊢
  obtain ⟨n, hn⟩ : ∃ n, n = L.length := ⟨_, rfl⟩
  rw [← hn] at hW hr0 hc0 ⊢
  have HR := Lib.hid hr0; have HW := Lib.hid hW; have Hn := Lib.hid hn; have HC0 := Lib.hid hc0; clear hr0 hW hn hc0
  have H3x := al3 w (tabO id m u b c z s me o a l (.slice A0 n c0)) (actO 4 i p k) (tabO 0 0 0 0 0 0 0 0 0 0 0 (.slice none 0 0))
  obtain ⟨t0, t1, t2, t3, t4, t5, t6, t7, t8, t9, t10, t11⟩ := cz12 H3x.1
  clear H3x
  have H := al4 w (tabO id m u b c z s me o a l (.slice A0 n c0)) (actO 4 i p k) (tabO 0 0 0 0 0 0 0 0 0 0 0 (.slice none 0 0)) (tabO id m u b c z s me o a l (.slice A0 n c0))
  have H0 := Lib.hid H.1; have H1 := Lib.hid H.2.1; have H2 := Lib.hid H.2.2.1; have H3 := Lib.hid H.2.2.2.1; have HB0 := Lib.hid H.2.2.2.2; clear H
  obtain ⟨s0, s1, s2, s3, s4, s5, s6, s7, s8, s9, s10, s11⟩ := cz12 H0.out
  obtain ⟨a0, a1, a2, a3⟩ := cz4 H1.out
  have h23 : w.heap.size + 1 + 1 ≠ w.heap.size + 1 + 1 + 1 := by omega
  have h32 : w.heap.size + 1 + 1 + 1 ≠ w.heap.size + 1 + 1 := by omega
  have hge : w.heap.size ≤ w.heap.size + 1 + 1 := by omega
  have hgf : w.heap.size ≤ w.heap.size + 1 + 1 + 1 := by omega
  go_enter Try.func16, Try.ntmps16
  go_wp2_with (go_at_call 60; refine (HW.out _ (Kd.C_below HR.out HB0.out)).mono ?_; rintro e w5 ⟨v, rfl, hT, hb⟩; obtain ⟨q0, q1, q2, q3, q4, q5, q6, q7, q8, q9, q10, A2, n2, k2, rfl⟩ := TabR_open hT; have G5 := Lib.hid (blk_below H2.out hb); have X5 := Lib.hid (blk_below H3.out hb); have HB5 := Lib.hid (below_step HB0.out hb); have HT5 := Lib.hid (TabR_lower hT HB0.out.size); clear hT hb; obtain ⟨x0, x1, x2, x3, x4, x5, x6, x7, x8, x9, x10, x11⟩ := cz12 X5.out; obtain ⟨xf0, xf1, xf2, xf3, xf4, xf5, xf6, xf7, xf8, xf9, xf10, xf11⟩ := fz12 X5.out)
  refine start_ (n := 5) (S := (tcT (w.heap.size + 1 + 1 + 1) q0 q1 q2 q3 q4 q5 q6 q7 q8 q9 q10 (.slice A2 n2 k2))) (ds := []) (bq 5 0) (by kernel_rfl) rfl (by kernel_rfl) (tcT_of (blk_drew (put12 X5.out))) (fun hHeld => ?_)
  refine with_tabW tab16_15 bits16_15 (fun HT_ HW_ => ?_)
  apply tu 0 72 (bq 5 1) HT_ HW_ hHeld
  apply pu 1 73 (bq 5 3) HT_
  refine one_ (i := 2) (N := some 74) (bq 5 7) rfl rfl (one_of HT_.out (by kernel_rfl)) (by decide) (fun K hK => ?_)
  refine gs Try.func12 #[.int .i64 E] ?_
  refine (code_any _ _).mono ?_
  rintro e w6 ⟨rfl, hb⟩
  refine ⟨_, rfl, ?_⟩
  have G6 := Lib.hid (blk_below (blk_drew (far12 G5.out h23)) hb); have X6 := Lib.hid (blk_below (blk_drew (put12 X5.out)) hb); have HB6 := Lib.hid (below_step (below_drew1 (bl12 HB5.out hgf)) hb); have HT6 := Lib.hid (TabR_below (TabR_drew (TabR12 HT5.out X5.out)) hb); clear hb
  refine hK.out _ _ (tcT_of X6.out) (fun hHeld => ?_)
  clear hK K
  apply nm 0
  refine one_ (i := 3) (N := none) (bq 5 15) rfl rfl (one_of HT_.out (by kernel_rfl)) (by decide) (fun K hK => ?_)
  obtain ⟨g0, g1, g2, g3, g4, g5, g6, g7, g8, g9, g10, g11⟩ := cz12 G6.out
  obtain ⟨gf0, gf1, gf2, gf3, gf4, gf5, gf6, gf7, gf8, gf9, gf10, gf11⟩ := fz12 G6.out
  refine skip_ (w1 := ?_) (by rfl) rfl ?_ ?_
  rotate_left
  · go_simp
    rfl
  refine hK.out _ _ (tcT_of (far12 X6.out h32)) (fun hHeld => ?_)
  clear hK K
  apply pu 4 5 (bq 5 31) HT_
  refine done_ (done_of HT_.out (by kernel_rfl)) ?_
  go_wp2
  refine bodyPost_ret (results_ct rfl _ _ (w.heap.size + 1 + 1) 27 #[.int .i64 q0, .int .i64 q1, .int .i64 q2, .int .i64 q3, .int .i64 q4, .int .i64 q5, .int .i64 q6, .int .i64 q7, .int .i64 q8, .int .i64 q9, .int .i64 q10, .slice A2 n2 k2] (0, 0) _ rfl (put12 G6.out) Try.underlying27 rfl (by kernel_rfl)) rfl ?_
  exact ⟨_, rfl, .inl (TabR12 HT6.out G6.out), bl12 HB6.out hge⟩

set_option maxHeartbeats 4000000 in
set_option maxRecDepth 100000 in
theorem does_Close (id m u b c z s me o a l : Int) (A0 : Option Addr) (c0 : Nat) (L : List S59) (i p k : Int) (w : World) (hr0 : Kd.C k59 w A0 L.length L) (hc0 : L.length ≤ c0) :
    Calls Try.prog 16 #[tabV id m u b c z s me o a l (.slice A0 L.length c0), .agg #[.int .i64 5, .int .i64 i, .int .i64 p, .int .i64 k]] w fun e w' => ∃ v, e = .returned (.tuple #[v, .int .i64 (closeZ id m u b c z s me o a l L i).2]) ∧ TabD id m u b c z s me o a l (closeZ id m u b c z s me o a l L i).1 L (.slice A0 L.length c0) w.heap.size w' v ∧ Below w.heap.size w w' := by
  have hW := fun W h => close_any id m u b c z s me o a l A0 c0 L i W h hc0
  generalize closeZ id m u b c z s me o a l L i = rE at hW ⊢
  obtain ⟨r, E⟩ := rE
  dsimp only at hW ⊢
  obtain ⟨n, hn⟩ : ∃ n, n = L.length := ⟨_, rfl⟩
  rw [← hn] at hW hr0 hc0 ⊢
  have HR := Lib.hid hr0; have HW := Lib.hid hW; have Hn := Lib.hid hn; have HC0 := Lib.hid hc0; clear hr0 hW hn hc0
  have H3x := al3 w (tabO id m u b c z s me o a l (.slice A0 n c0)) (actO 5 i p k) (tabO 0 0 0 0 0 0 0 0 0 0 0 (.slice none 0 0))
  obtain ⟨t0, t1, t2, t3, t4, t5, t6, t7, t8, t9, t10, t11⟩ := cz12 H3x.1
  clear H3x
  have H := al4 w (tabO id m u b c z s me o a l (.slice A0 n c0)) (actO 5 i p k) (tabO 0 0 0 0 0 0 0 0 0 0 0 (.slice none 0 0)) (tabO id m u b c z s me o a l (.slice A0 n c0))
  have H0 := Lib.hid H.1; have H1 := Lib.hid H.2.1; have H2 := Lib.hid H.2.2.1; have H3 := Lib.hid H.2.2.2.1; have HB0 := Lib.hid H.2.2.2.2; clear H
  obtain ⟨s0, s1, s2, s3, s4, s5, s6, s7, s8, s9, s10, s11⟩ := cz12 H0.out
  obtain ⟨a0, a1, a2, a3⟩ := cz4 H1.out
  have h23 : w.heap.size + 1 + 1 ≠ w.heap.size + 1 + 1 + 1 := by omega
  have h32 : w.heap.size + 1 + 1 + 1 ≠ w.heap.size + 1 + 1 := by omega
  have hge : w.heap.size ≤ w.heap.size + 1 + 1 := by omega
  have hgf : w.heap.size ≤ w.heap.size + 1 + 1 + 1 := by omega
  go_enter Try.func16, Try.ntmps16
  go_wp2_with (go_at_call 61; refine (HW.out _ (Kd.C_below HR.out HB0.out)).mono ?_; rintro e w5 ⟨v, rfl, hT, hb⟩; obtain ⟨q0, q1, q2, q3, q4, q5, q6, q7, q8, q9, q10, A2, n2, k2, rfl⟩ := TabR_open hT; have G5 := Lib.hid (blk_below H2.out hb); have X5 := Lib.hid (blk_below H3.out hb); have HB5 := Lib.hid (below_step HB0.out hb); have HT5 := Lib.hid (TabR_lower hT HB0.out.size); clear hT hb; obtain ⟨x0, x1, x2, x3, x4, x5, x6, x7, x8, x9, x10, x11⟩ := cz12 X5.out; obtain ⟨xf0, xf1, xf2, xf3, xf4, xf5, xf6, xf7, xf8, xf9, xf10, xf11⟩ := fz12 X5.out)
  refine start_ (n := 5) (S := (tcT (w.heap.size + 1 + 1 + 1) q0 q1 q2 q3 q4 q5 q6 q7 q8 q9 q10 (.slice A2 n2 k2))) (ds := []) (bq 5 0) (by kernel_rfl) rfl (by kernel_rfl) (tcT_of (blk_drew (put12 X5.out))) (fun hHeld => ?_)
  refine with_tabW tab16_15 bits16_15 (fun HT_ HW_ => ?_)
  apply tu 0 72 (bq 5 1) HT_ HW_ hHeld
  apply pu 1 73 (bq 5 3) HT_
  refine one_ (i := 2) (N := some 74) (bq 5 7) rfl rfl (one_of HT_.out (by kernel_rfl)) (by decide) (fun K hK => ?_)
  refine gs Try.func12 #[.int .i64 E] ?_
  refine (code_any _ _).mono ?_
  rintro e w6 ⟨rfl, hb⟩
  refine ⟨_, rfl, ?_⟩
  have G6 := Lib.hid (blk_below (blk_drew (far12 G5.out h23)) hb); have X6 := Lib.hid (blk_below (blk_drew (put12 X5.out)) hb); have HB6 := Lib.hid (below_step (below_drew1 (bl12 HB5.out hgf)) hb); have HT6 := Lib.hid (TabR_below (TabR_drew (TabR12 HT5.out X5.out)) hb); clear hb
  refine hK.out _ _ (tcT_of X6.out) (fun hHeld => ?_)
  clear hK K
  apply nm 0
  refine one_ (i := 3) (N := none) (bq 5 15) rfl rfl (one_of HT_.out (by kernel_rfl)) (by decide) (fun K hK => ?_)
  obtain ⟨g0, g1, g2, g3, g4, g5, g6, g7, g8, g9, g10, g11⟩ := cz12 G6.out
  obtain ⟨gf0, gf1, gf2, gf3, gf4, gf5, gf6, gf7, gf8, gf9, gf10, gf11⟩ := fz12 G6.out
  refine skip_ (w1 := ?_) (by rfl) rfl ?_ ?_
  rotate_left
  · go_simp
    rfl
  refine hK.out _ _ (tcT_of (far12 X6.out h32)) (fun hHeld => ?_)
  clear hK K
  apply pu 4 5 (bq 5 31) HT_
  refine done_ (done_of HT_.out (by kernel_rfl)) ?_
  go_wp2
  refine bodyPost_ret (results_ct rfl _ _ (w.heap.size + 1 + 1) 27 #[.int .i64 q0, .int .i64 q1, .int .i64 q2, .int .i64 q3, .int .i64 q4, .int .i64 q5, .int .i64 q6, .int .i64 q7, .int .i64 q8, .int .i64 q9, .int .i64 q10, .slice A2 n2 k2] (0, 0) _ rfl (put12 G6.out) Try.underlying27 rfl (by kernel_rfl)) rfl ?_
  exact ⟨_, rfl, .inl (TabR12 HT6.out G6.out), bl12 HB6.out hge⟩

end Go.Proofs.Ytgckcaoncjhgbaa
