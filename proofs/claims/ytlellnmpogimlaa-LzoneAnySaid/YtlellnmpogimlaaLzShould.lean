/- revetmentlaw17.should: a call of the document, by its number. -/
import Derived.WalkKit
import Derived.WalkSpells
import Derived.WalkLawsBesides
import Derived.Lib.Hide
import Derived.Test.YtlellnmpogimlaaLzDoes2
import Derived.Test.YtlellnmpogimlaaLzRWrite
namespace Go.Proofs.Ytlellnmpogimlaa
-- revetmentref17_Right.calls
open Go.RowKit Go.Proofs.Ytlellnmpogimlaa.PL Go.Proofs.YtlellnmpogimlaaW.PrintWords Go.Proofs.YtlellnmpogimlaaW.PrintLast
set_option linter.unusedVariables false
set_option linter.unusedSimpArgs false
theorem TabD12r {id m u b c z s me o a l : Int} {r : Option (List S57)} {L : List S57} {sl v : Value} {base g : Nat} {W : World} {cs : Array Value} {y0 y1 y2 y3 y4 y5 y6 y7 y8 y9 y10 y11 : Value} (h : TabD id m u b c z s me o a l r L sl base W v) (hb : W.heap[g]? = some (.cells cs 34 (0, 0))) : TabD id m u b c z s me o a l r L sl base ((((((((((((W.setCell ⟨g, 0, none⟩ y0).setCell ⟨g, 1, none⟩ y1).setCell ⟨g, 2, none⟩ y2).setCell ⟨g, 3, none⟩ y3).setCell ⟨g, 4, none⟩ y4).setCell ⟨g, 5, none⟩ y5).setCell ⟨g, 6, none⟩ y6).setCell ⟨g, 7, none⟩ y7).setCell ⟨g, 8, none⟩ y8).setCell ⟨g, 9, none⟩ y9).setCell ⟨g, 10, none⟩ y10).setCell ⟨g, 11, none⟩ y11) v := by
  rcases h with (h | ⟨L', q, h1, h2, hR⟩) | h
  · exact .inl (.inl h)
  · exact .inl (.inr ⟨L', q, h1, h2, R12 hR hb (by decide)⟩)
  · exact .inr h
abbrev rcTA (g h : Nat) (q0 q1 q2 q3 q4 q5 q6 q7 q8 q9 q10 : Int) (v : Value) (d i p k : Int) (W : World) : Prop := W.cell? ⟨g, 0, none⟩ = some (.int .i64 q0) ∧ W.cell? ⟨g, 1, none⟩ = some (.int .i64 q1) ∧ W.cell? ⟨g, 2, none⟩ = some (.int .i64 q2) ∧ W.cell? ⟨g, 3, none⟩ = some (.int .i64 q3) ∧ W.cell? ⟨g, 4, none⟩ = some (.int .i64 q4) ∧ W.cell? ⟨g, 5, none⟩ = some (.int .i64 q5) ∧ W.cell? ⟨g, 6, none⟩ = some (.int .i64 q6) ∧ W.cell? ⟨g, 7, none⟩ = some (.int .i64 q7) ∧ W.cell? ⟨g, 8, none⟩ = some (.int .i64 q8) ∧ W.cell? ⟨g, 9, none⟩ = some (.int .i64 q9) ∧ W.cell? ⟨g, 10, none⟩ = some (.int .i64 q10) ∧ W.cell? ⟨g, 11, none⟩ = some v ∧ W.cell? ⟨h, 0, none⟩ = some (.int .i64 d) ∧ W.cell? ⟨h, 1, none⟩ = some (.int .i64 i) ∧ W.cell? ⟨h, 2, none⟩ = some (.int .i64 p) ∧ W.cell? ⟨h, 3, none⟩ = some (.int .i64 k)
theorem rcTA_of {g h : Nat} {q0 q1 q2 q3 q4 q5 q6 q7 q8 q9 q10 : Int} {v : Value} {d i p k : Int} {W : World} (e : W.heap[g]? = some (rtabO q0 q1 q2 q3 q4 q5 q6 q7 q8 q9 q10 v)) (f : W.heap[h]? = some (actO d i p k)) : rcTA g h q0 q1 q2 q3 q4 q5 q6 q7 q8 q9 q10 v d i p k W :=
  ⟨(blk_cell e 0).trans rfl, (blk_cell e 1).trans rfl, (blk_cell e 2).trans rfl, (blk_cell e 3).trans rfl, (blk_cell e 4).trans rfl, (blk_cell e 5).trans rfl, (blk_cell e 6).trans rfl, (blk_cell e 7).trans rfl, (blk_cell e 8).trans rfl, (blk_cell e 9).trans rfl, (blk_cell e 10).trans rfl, (blk_cell e 11).trans rfl, (blk_cell f 0).trans rfl, (blk_cell f 1).trans rfl, (blk_cell f 2).trans rfl, (blk_cell f 3).trans rfl⟩
def T17_5 : Bool × List (List Nat × List Nat) := (true, [([], []), ([], []), ([], []), ([2], [2]), ([], []), ([4], [4]), ([], []), ([6], [6]), ([1, 3, 5, 7], [1, 3, 5, 7]), ([0, 8, 0], [0]), ([8, 9, 0, 1, 2, 3, 4, 5, 6, 7, 8, 9], [8])])
theorem tab17_5 : rtab .any (opsOf Try.f17 5) = T17_5 := by kernel_rfl
theorem bits17_5 : waitsOk T17_5.2 [0, 0, 0, 4, 0, 16, 0, 64, 254, 511, 1023] = true := by kernel_rfl
set_option maxHeartbeats 4000000 in
set_option maxRecDepth 100000 in
theorem should_Write (id m u b c z s me o a l : Int) (A0 : Option Addr) (c0 : Nat) (L : List S57) (i p k : Int) (w : World) (hr0 : Kd.C k57 w A0 L.length L) (hc0 : L.length ≤ c0) (hl : L.length ≤ 1000000) :
    Calls Try.prog 17 #[tabV id m u b c z s me o a l (.slice A0 L.length c0), .agg #[.int .i64 0, .int .i64 i, .int .i64 p, .int .i64 k]] w fun e w' => ∃ v, e = .returned (.tuple #[v, .int .i64 (writeZ id m u b c z s me o a l L i p k).2]) ∧ TabD id m u b c z s me o a l (writeZ id m u b c z s me o a l L i p k).1 L (.slice A0 L.length c0) w.heap.size w' v ∧ Below w.heap.size w w' := by
  have hW := fun W h => rwrite_any id m u b c z s me o a l A0 c0 L i p k W h hc0 hl
  generalize writeZ id m u b c z s me o a l L i p k = rE at hW ⊢
  obtain ⟨r, E⟩ := rE
  dsimp only at hW ⊢
  obtain ⟨n, hn⟩ : ∃ n, n = L.length := ⟨_, rfl⟩
  rw [← hn] at hW hr0 hc0 ⊢
  have HR := Lib.hid hr0; have HW := Lib.hid hW; have HC0 := Lib.hid hc0; clear hr0 hW hn hc0
  have H := al3 w (rtabO id m u b c z s me o a l (.slice A0 n c0)) (actO 0 i p k) (rtabO 0 0 0 0 0 0 0 0 0 0 0 (.slice none 0 0))
  have H0 := Lib.hid H.1; have H1 := Lib.hid H.2.1; have H2 := Lib.hid H.2.2.1; have HB0 := Lib.hid H.2.2.2; clear H
  obtain ⟨s0, s1, s2, s3, s4, s5, s6, s7, s8, s9, s10, s11⟩ := cz12 H0.out
  obtain ⟨a0, a1, a2, a3⟩ := cz4 H1.out
  obtain ⟨v0, v1, v2, v3, v4, v5, v6, v7, v8, v9, v10, v11⟩ := cz12 H2.out
  obtain ⟨vf0, vf1, vf2, vf3, vf4, vf5, vf6, vf7, vf8, vf9, vf10, vf11⟩ := fz12 H2.out
  have hge : w.heap.size ≤ w.heap.size + 1 + 1 := by omega
  go_enter Try.func17, Try.ntmps17
  go_wp2_with (go_at_call 33; refine (HW.out _ (Kd.C_below HR.out HB0.out)).mono ?_; rintro e w5 ⟨v, rfl, hT, hb⟩; obtain ⟨q0, q1, q2, q3, q4, q5, q6, q7, q8, q9, q10, A2, n2, k2, rfl⟩ := TabD_open hT; have G5 := Lib.hid (blk_below H2.out hb); have HB5 := Lib.hid (below_step HB0.out hb); have HT5 := Lib.hid (TabD_lower hT HB0.out.size); clear hT hb; obtain ⟨x0, x1, x2, x3, x4, x5, x6, x7, x8, x9, x10, x11⟩ := cz12 G5.out; obtain ⟨xf0, xf1, xf2, xf3, xf4, xf5, xf6, xf7, xf8, xf9, xf10, xf11⟩ := fz12 G5.out)
  refine bodyPost_ret (results_ct rfl _ _ (w.heap.size + 1 + 1) 34 #[.int .i64 q0, .int .i64 q1, .int .i64 q2, .int .i64 q3, .int .i64 q4, .int .i64 q5, .int .i64 q6, .int .i64 q7, .int .i64 q8, .int .i64 q9, .int .i64 q10, .slice A2 n2 k2] (0, 0) _ rfl (put12 G5.out) Try.underlying34 rfl (by kernel_rfl)) rfl ?_
  exact ⟨_, rfl, TabD12r HT5.out G5.out, bl12 HB5.out hge⟩

set_option maxHeartbeats 4000000 in
set_option maxRecDepth 100000 in
theorem should_Reset (id m u b c z s me o a l : Int) (A0 : Option Addr) (c0 : Nat) (L : List S57) (i p k : Int) (w : World) (hr0 : Kd.C k57 w A0 L.length L) (hc0 : L.length ≤ c0) (hl : L.length ≤ 1000000) :
    Calls Try.prog 17 #[tabV id m u b c z s me o a l (.slice A0 L.length c0), .agg #[.int .i64 2, .int .i64 i, .int .i64 p, .int .i64 k]] w fun e w' => ∃ v, e = .returned (.tuple #[v, .int .i64 (resetZ id m u b c z s me o a l L i).2]) ∧ TabD id m u b c z s me o a l (resetZ id m u b c z s me o a l L i).1 L (.slice A0 L.length c0) w.heap.size w' v ∧ Below w.heap.size w w' := by
  have hW := fun W h => rreset_any id m u b c z s me o a l A0 c0 L i W h hc0 hl
  generalize resetZ id m u b c z s me o a l L i = rE at hW ⊢
  obtain ⟨r, E⟩ := rE
  dsimp only at hW ⊢
  obtain ⟨n, hn⟩ : ∃ n, n = L.length := ⟨_, rfl⟩
  rw [← hn] at hW hr0 hc0 ⊢
  have HR := Lib.hid hr0; have HW := Lib.hid hW; have HC0 := Lib.hid hc0; clear hr0 hW hn hc0
  have H := al3 w (rtabO id m u b c z s me o a l (.slice A0 n c0)) (actO 2 i p k) (rtabO 0 0 0 0 0 0 0 0 0 0 0 (.slice none 0 0))
  have H0 := Lib.hid H.1; have H1 := Lib.hid H.2.1; have H2 := Lib.hid H.2.2.1; have HB0 := Lib.hid H.2.2.2; clear H
  obtain ⟨s0, s1, s2, s3, s4, s5, s6, s7, s8, s9, s10, s11⟩ := cz12 H0.out
  obtain ⟨a0, a1, a2, a3⟩ := cz4 H1.out
  obtain ⟨v0, v1, v2, v3, v4, v5, v6, v7, v8, v9, v10, v11⟩ := cz12 H2.out
  obtain ⟨vf0, vf1, vf2, vf3, vf4, vf5, vf6, vf7, vf8, vf9, vf10, vf11⟩ := fz12 H2.out
  have hge : w.heap.size ≤ w.heap.size + 1 + 1 := by omega
  go_enter Try.func17, Try.ntmps17
  go_wp2_with (go_at_call 35; refine (HW.out _ (Kd.C_below HR.out HB0.out)).mono ?_; rintro e w5 ⟨v, rfl, hT, hb⟩; obtain ⟨q0, q1, q2, q3, q4, q5, q6, q7, q8, q9, q10, A2, n2, k2, rfl⟩ := TabD_open hT; have G5 := Lib.hid (blk_below H2.out hb); have HB5 := Lib.hid (below_step HB0.out hb); have HT5 := Lib.hid (TabD_lower hT HB0.out.size); clear hT hb; obtain ⟨x0, x1, x2, x3, x4, x5, x6, x7, x8, x9, x10, x11⟩ := cz12 G5.out; obtain ⟨xf0, xf1, xf2, xf3, xf4, xf5, xf6, xf7, xf8, xf9, xf10, xf11⟩ := fz12 G5.out)
  refine bodyPost_ret (results_ct rfl _ _ (w.heap.size + 1 + 1) 34 #[.int .i64 q0, .int .i64 q1, .int .i64 q2, .int .i64 q3, .int .i64 q4, .int .i64 q5, .int .i64 q6, .int .i64 q7, .int .i64 q8, .int .i64 q9, .int .i64 q10, .slice A2 n2 k2] (0, 0) _ rfl (put12 G5.out) Try.underlying34 rfl (by kernel_rfl)) rfl ?_
  exact ⟨_, rfl, TabD12r HT5.out G5.out, bl12 HB5.out hge⟩

set_option maxHeartbeats 4000000 in
set_option maxRecDepth 100000 in
theorem should_Finish (id m u b c z s me o a l : Int) (A0 : Option Addr) (c0 : Nat) (L : List S57) (i p k : Int) (w : World) (hr0 : Kd.C k57 w A0 L.length L) (hc0 : L.length ≤ c0) (hl : L.length ≤ 1000000) :
    Calls Try.prog 17 #[tabV id m u b c z s me o a l (.slice A0 L.length c0), .agg #[.int .i64 3, .int .i64 i, .int .i64 p, .int .i64 k]] w fun e w' => ∃ v, e = .returned (.tuple #[v, .int .i64 (finishZ id m u b c z s me o a l L i).2]) ∧ TabD id m u b c z s me o a l (finishZ id m u b c z s me o a l L i).1 L (.slice A0 L.length c0) w.heap.size w' v ∧ Below w.heap.size w w' := by
  have hW := fun W h => rfinish_any id m u b c z s me o a l A0 c0 L i W h hc0 hl
  generalize finishZ id m u b c z s me o a l L i = rE at hW ⊢
  obtain ⟨r, E⟩ := rE
  dsimp only at hW ⊢
  obtain ⟨n, hn⟩ : ∃ n, n = L.length := ⟨_, rfl⟩
  rw [← hn] at hW hr0 hc0 ⊢
  have HR := Lib.hid hr0; have HW := Lib.hid hW; have HC0 := Lib.hid hc0; clear hr0 hW hn hc0
  have H := al3 w (rtabO id m u b c z s me o a l (.slice A0 n c0)) (actO 3 i p k) (rtabO 0 0 0 0 0 0 0 0 0 0 0 (.slice none 0 0))
  have H0 := Lib.hid H.1; have H1 := Lib.hid H.2.1; have H2 := Lib.hid H.2.2.1; have HB0 := Lib.hid H.2.2.2; clear H
  obtain ⟨s0, s1, s2, s3, s4, s5, s6, s7, s8, s9, s10, s11⟩ := cz12 H0.out
  obtain ⟨a0, a1, a2, a3⟩ := cz4 H1.out
  obtain ⟨v0, v1, v2, v3, v4, v5, v6, v7, v8, v9, v10, v11⟩ := cz12 H2.out
  obtain ⟨vf0, vf1, vf2, vf3, vf4, vf5, vf6, vf7, vf8, vf9, vf10, vf11⟩ := fz12 H2.out
  have hge : w.heap.size ≤ w.heap.size + 1 + 1 := by omega
  go_enter Try.func17, Try.ntmps17
  go_wp2_with (go_at_call 36; refine (HW.out _ (Kd.C_below HR.out HB0.out)).mono ?_; rintro e w5 ⟨v, rfl, hT, hb⟩; obtain ⟨q0, q1, q2, q3, q4, q5, q6, q7, q8, q9, q10, A2, n2, k2, rfl⟩ := TabD_open hT; have G5 := Lib.hid (blk_below H2.out hb); have HB5 := Lib.hid (below_step HB0.out hb); have HT5 := Lib.hid (TabD_lower hT HB0.out.size); clear hT hb; obtain ⟨x0, x1, x2, x3, x4, x5, x6, x7, x8, x9, x10, x11⟩ := cz12 G5.out; obtain ⟨xf0, xf1, xf2, xf3, xf4, xf5, xf6, xf7, xf8, xf9, xf10, xf11⟩ := fz12 G5.out)
  refine bodyPost_ret (results_ct rfl _ _ (w.heap.size + 1 + 1) 34 #[.int .i64 q0, .int .i64 q1, .int .i64 q2, .int .i64 q3, .int .i64 q4, .int .i64 q5, .int .i64 q6, .int .i64 q7, .int .i64 q8, .int .i64 q9, .int .i64 q10, .slice A2 n2 k2] (0, 0) _ rfl (put12 G5.out) Try.underlying34 rfl (by kernel_rfl)) rfl ?_
  exact ⟨_, rfl, TabD12r HT5.out G5.out, bl12 HB5.out hge⟩

set_option maxHeartbeats 4000000 in
set_option maxRecDepth 100000 in
theorem should_Open (id m u b c z s me o a l : Int) (A0 : Option Addr) (c0 : Nat) (L : List S57) (i p k : Int) (w : World) (hr0 : Kd.C k57 w A0 L.length L) (hc0 : L.length ≤ c0) (hl : L.length ≤ 1000000) :
    Calls Try.prog 17 #[tabV id m u b c z s me o a l (.slice A0 L.length c0), .agg #[.int .i64 4, .int .i64 i, .int .i64 p, .int .i64 k]] w fun e w' => ∃ v, e = .returned (.tuple #[v, .int .i64 (openZ id m u b c z s me o a l L i).2]) ∧ TabD id m u b c z s me o a l (openZ id m u b c z s me o a l L i).1 L (.slice A0 L.length c0) w.heap.size w' v ∧ Below w.heap.size w w' := by
  have hW := fun W h => ropen_any id m u b c z s me o a l A0 c0 L i W h hc0 hl
  generalize openZ id m u b c z s me o a l L i = rE at hW ⊢
  obtain ⟨r, E⟩ := rE
  dsimp only at hW ⊢
  obtain ⟨n, hn⟩ : ∃ n, n = L.length := ⟨_, rfl⟩
  rw [← hn] at hW hr0 hc0 ⊢
  have HR := Lib.hid hr0; have HW := Lib.hid hW; have HC0 := Lib.hid hc0; clear hr0 hW hn hc0
  have H := al3 w (rtabO id m u b c z s me o a l (.slice A0 n c0)) (actO 4 i p k) (rtabO 0 0 0 0 0 0 0 0 0 0 0 (.slice none 0 0))
  have H0 := Lib.hid H.1; have H1 := Lib.hid H.2.1; have H2 := Lib.hid H.2.2.1; have HB0 := Lib.hid H.2.2.2; clear H
  obtain ⟨s0, s1, s2, s3, s4, s5, s6, s7, s8, s9, s10, s11⟩ := cz12 H0.out
  obtain ⟨a0, a1, a2, a3⟩ := cz4 H1.out
  obtain ⟨v0, v1, v2, v3, v4, v5, v6, v7, v8, v9, v10, v11⟩ := cz12 H2.out
  obtain ⟨vf0, vf1, vf2, vf3, vf4, vf5, vf6, vf7, vf8, vf9, vf10, vf11⟩ := fz12 H2.out
  have hge : w.heap.size ≤ w.heap.size + 1 + 1 := by omega
  go_enter Try.func17, Try.ntmps17
  go_wp2_with (go_at_call 37; refine (HW.out _ (Kd.C_below HR.out HB0.out)).mono ?_; rintro e w5 ⟨v, rfl, hT, hb⟩; obtain ⟨q0, q1, q2, q3, q4, q5, q6, q7, q8, q9, q10, A2, n2, k2, rfl⟩ := TabD_open hT; have G5 := Lib.hid (blk_below H2.out hb); have HB5 := Lib.hid (below_step HB0.out hb); have HT5 := Lib.hid (TabD_lower hT HB0.out.size); clear hT hb; obtain ⟨x0, x1, x2, x3, x4, x5, x6, x7, x8, x9, x10, x11⟩ := cz12 G5.out; obtain ⟨xf0, xf1, xf2, xf3, xf4, xf5, xf6, xf7, xf8, xf9, xf10, xf11⟩ := fz12 G5.out)
  refine bodyPost_ret (results_ct rfl _ _ (w.heap.size + 1 + 1) 34 #[.int .i64 q0, .int .i64 q1, .int .i64 q2, .int .i64 q3, .int .i64 q4, .int .i64 q5, .int .i64 q6, .int .i64 q7, .int .i64 q8, .int .i64 q9, .int .i64 q10, .slice A2 n2 k2] (0, 0) _ rfl (put12 G5.out) Try.underlying34 rfl (by kernel_rfl)) rfl ?_
  exact ⟨_, rfl, TabD12r HT5.out G5.out, bl12 HB5.out hge⟩

set_option maxHeartbeats 4000000 in
set_option maxRecDepth 100000 in
theorem should_Close (id m u b c z s me o a l : Int) (A0 : Option Addr) (c0 : Nat) (L : List S57) (i p k : Int) (w : World) (hr0 : Kd.C k57 w A0 L.length L) (hc0 : L.length ≤ c0) (hl : L.length ≤ 1000000) :
    Calls Try.prog 17 #[tabV id m u b c z s me o a l (.slice A0 L.length c0), .agg #[.int .i64 5, .int .i64 i, .int .i64 p, .int .i64 k]] w fun e w' => ∃ v, e = .returned (.tuple #[v, .int .i64 (closeZ id m u b c z s me o a l L i).2]) ∧ TabD id m u b c z s me o a l (closeZ id m u b c z s me o a l L i).1 L (.slice A0 L.length c0) w.heap.size w' v ∧ Below w.heap.size w w' := by
  have hW := fun W h => rclose_any id m u b c z s me o a l A0 c0 L i W h hc0 hl
  generalize closeZ id m u b c z s me o a l L i = rE at hW ⊢
  obtain ⟨r, E⟩ := rE
  dsimp only at hW ⊢
  obtain ⟨n, hn⟩ : ∃ n, n = L.length := ⟨_, rfl⟩
  rw [← hn] at hW hr0 hc0 ⊢
  have HR := Lib.hid hr0; have HW := Lib.hid hW; have HC0 := Lib.hid hc0; clear hr0 hW hn hc0
  have H := al3 w (rtabO id m u b c z s me o a l (.slice A0 n c0)) (actO 5 i p k) (rtabO 0 0 0 0 0 0 0 0 0 0 0 (.slice none 0 0))
  have H0 := Lib.hid H.1; have H1 := Lib.hid H.2.1; have H2 := Lib.hid H.2.2.1; have HB0 := Lib.hid H.2.2.2; clear H
  obtain ⟨s0, s1, s2, s3, s4, s5, s6, s7, s8, s9, s10, s11⟩ := cz12 H0.out
  obtain ⟨a0, a1, a2, a3⟩ := cz4 H1.out
  obtain ⟨v0, v1, v2, v3, v4, v5, v6, v7, v8, v9, v10, v11⟩ := cz12 H2.out
  obtain ⟨vf0, vf1, vf2, vf3, vf4, vf5, vf6, vf7, vf8, vf9, vf10, vf11⟩ := fz12 H2.out
  have hge : w.heap.size ≤ w.heap.size + 1 + 1 := by omega
  go_enter Try.func17, Try.ntmps17
  go_wp2_with (go_at_call 38; refine (HW.out _ (Kd.C_below HR.out HB0.out)).mono ?_; rintro e w5 ⟨v, rfl, hT, hb⟩; obtain ⟨q0, q1, q2, q3, q4, q5, q6, q7, q8, q9, q10, A2, n2, k2, rfl⟩ := TabD_open hT; have G5 := Lib.hid (blk_below H2.out hb); have HB5 := Lib.hid (below_step HB0.out hb); have HT5 := Lib.hid (TabD_lower hT HB0.out.size); clear hT hb; obtain ⟨x0, x1, x2, x3, x4, x5, x6, x7, x8, x9, x10, x11⟩ := cz12 G5.out; obtain ⟨xf0, xf1, xf2, xf3, xf4, xf5, xf6, xf7, xf8, xf9, xf10, xf11⟩ := fz12 G5.out)
  refine bodyPost_ret (results_ct rfl _ _ (w.heap.size + 1 + 1) 34 #[.int .i64 q0, .int .i64 q1, .int .i64 q2, .int .i64 q3, .int .i64 q4, .int .i64 q5, .int .i64 q6, .int .i64 q7, .int .i64 q8, .int .i64 q9, .int .i64 q10, .slice A2 n2 k2] (0, 0) _ rfl (put12 G5.out) Try.underlying34 rfl (by kernel_rfl)) rfl ?_
  exact ⟨_, rfl, TabD12r HT5.out G5.out, bl12 HB5.out hge⟩

set_option maxHeartbeats 4000000 in
set_option maxRecDepth 100000 in
theorem should_Read (id m u b c z s me o a l : Int) (A0 : Option Addr) (c0 : Nat) (L : List S57) (i p k : Int) (w : World) (hr0 : Kd.C k57 w A0 L.length L) (hc0 : L.length ≤ c0) (hl : L.length ≤ 1000000) :
    Calls Try.prog 17 #[tabV id m u b c z s me o a l (.slice A0 L.length c0), .agg #[.int .i64 1, .int .i64 i, .int .i64 p, .int .i64 k]] w fun e w' => ∃ v, e = .returned (.tuple #[v, .int .i64 (((some L, readZ id m u b c z s me o a l L i p k) : Option (List S57) × Int)).2]) ∧ TabD id m u b c z s me o a l (((some L, readZ id m u b c z s me o a l L i p k) : Option (List S57) × Int)).1 L (.slice A0 L.length c0) w.heap.size w' v ∧ Below w.heap.size w w' := by
  have hW := fun W h => rread_any id m u b c z s me o a l A0 c0 L i p k W h hc0 hl
  generalize readZ id m u b c z s me o a l L i p k = E at hW ⊢
  obtain ⟨n, hn⟩ : ∃ n, n = L.length := ⟨_, rfl⟩
  rw [← hn] at hW hr0 hc0 ⊢
  have HR := Lib.hid hr0; have HW := Lib.hid hW; have HC0 := Lib.hid hc0; clear hr0 hW hn hc0
  have H := al3 w (rtabO id m u b c z s me o a l (.slice A0 n c0)) (actO 1 i p k) (rtabO 0 0 0 0 0 0 0 0 0 0 0 (.slice none 0 0))
  have H0 := Lib.hid H.1; have H1 := Lib.hid H.2.1; have H2 := Lib.hid H.2.2.1; have HB0 := Lib.hid H.2.2.2; clear H
  obtain ⟨s0, s1, s2, s3, s4, s5, s6, s7, s8, s9, s10, s11⟩ := cz12 H0.out
  obtain ⟨a0, a1, a2, a3⟩ := cz4 H1.out
  obtain ⟨v0, v1, v2, v3, v4, v5, v6, v7, v8, v9, v10, v11⟩ := cz12 H2.out
  obtain ⟨vf0, vf1, vf2, vf3, vf4, vf5, vf6, vf7, vf8, vf9, vf10, vf11⟩ := fz12 H2.out
  have hge : w.heap.size ≤ w.heap.size + 1 + 1 := by omega
  go_enter Try.func17, Try.ntmps17
  go_wp2
  refine start_ (n := 11) (S := (rcTA w.heap.size (w.heap.size + 1) id m u b c z s me o a l (.slice A0 n c0) 1 i p k)) (ds := []) (bq 11 0) (by kernel_rfl) rfl (by kernel_rfl) (rcTA_of (blk_drew H0.out) (blk_drew H1.out)) (fun hHeld => ?_)
  refine with_tabW tab17_5 bits17_5 (fun HT_ HW_ => ?_)
  apply tu 0 22 (bq 11 1) HT_ HW_ hHeld
  apply tu 1 23 (bq 11 3) HT_ HW_ hHeld
  apply pu 2 24 (bq 11 7) HT_
  apply pu 4 26 (bq 11 23) HT_
  apply pu 6 28 (bq 11 87) HT_
  apply tu 3 25 (bq 11 95) HT_ HW_ hHeld
  apply tu 5 27 (bq 11 127) HT_ HW_ hHeld
  apply tu 7 29 (bq 11 255) HT_ HW_ hHeld
  refine one_ (i := 8) (N := some 30) (bq 11 511) rfl rfl (one_of HT_.out (by kernel_rfl)) (by decide) (fun K hK => ?_)
  refine gs Try.func34 #[tabV id m u b c z s me o a l (.slice A0 n c0), .int .i64 i, .int .i64 p, .int .i64 k] ?_
  refine (HW.out _ (Kd.C_drew (Kd.C_below HR.out HB0.out))).mono ?_
  rintro e w5 ⟨rfl, hb⟩
  refine ⟨_, rfl, ?_⟩
  have K5 := Lib.hid (blk_below (blk_drew H0.out) hb); have A5 := Lib.hid (blk_below (blk_drew H1.out) hb); have G5 := Lib.hid (blk_below (blk_drew H2.out) hb); have HB5 := Lib.hid (below_step (below_drew1 HB0.out) hb); clear hb
  refine hK.out _ _ (rcTA_of K5.out A5.out) (fun hHeld => ?_)
  clear hK K
  apply nm 0
  refine one_ (i := 9) (N := none) (bq 11 1023) rfl rfl (one_of HT_.out (by kernel_rfl)) (by decide) (fun K hK => ?_)
  obtain ⟨g0, g1, g2, g3, g4, g5, g6, g7, g8, g9, g10, g11⟩ := cz12 G5.out
  obtain ⟨gf0, gf1, gf2, gf3, gf4, gf5, gf6, gf7, gf8, gf9, gf10, gf11⟩ := fz12 G5.out
  refine skip_ (w1 := ?_) (by rfl) rfl ?_ ?_
  rotate_left
  · go_simp
    rfl
  refine hK.out _ _ (rcTA_of (far12 K5.out (by omega)) (far12 A5.out (by omega))) (fun hHeld => ?_)
  clear hK K
  apply pu 10 5 (bq 11 2047) HT_
  refine done_ (done_of HT_.out (by kernel_rfl)) ?_
  go_wp2
  refine bodyPost_ret (results_ct rfl _ _ (w.heap.size + 1 + 1) 34 #[.int .i64 id, .int .i64 m, .int .i64 u, .int .i64 b, .int .i64 c, .int .i64 z, .int .i64 s, .int .i64 me, .int .i64 o, .int .i64 a, .int .i64 l, .slice A0 n c0] (0, 0) _ rfl (put12 G5.out) Try.underlying34 rfl (by kernel_rfl)) rfl ?_
  exact ⟨_, rfl, .inr ⟨rfl, rfl⟩, bl12 HB5.out hge⟩

set_option maxHeartbeats 4000000 in
set_option maxRecDepth 100000 in
theorem should_none (id m u b c z s me o a l : Int) (A0 : Option Addr) (c0 : Nat) (L : List S57) (d i p k : Int) (e0 : ¬ d = 0) (e1 : ¬ d = 1) (e2 : ¬ d = 2) (e3 : ¬ d = 3) (e4 : ¬ d = 4) (e5 : ¬ d = 5) (w : World) (hr0 : Kd.C k57 w A0 L.length L) (hc0 : L.length ≤ c0) (hl : L.length ≤ 1000000) :
    Calls Try.prog 17 #[tabV id m u b c z s me o a l (.slice A0 L.length c0), .agg #[.int .i64 d, .int .i64 i, .int .i64 p, .int .i64 k]] w fun e w' => ∃ v, e = .returned (.tuple #[v, .int .i64 (((some L, 0) : Option (List S57) × Int)).2]) ∧ TabD id m u b c z s me o a l (((some L, 0) : Option (List S57) × Int)).1 L (.slice A0 L.length c0) w.heap.size w' v ∧ Below w.heap.size w w' := by
  have hW : True := trivial
  obtain ⟨n, hn⟩ : ∃ n, n = L.length := ⟨_, rfl⟩
  rw [← hn] at hr0 hc0 ⊢
  have HR := Lib.hid hr0; have HW := Lib.hid hW; have HC0 := Lib.hid hc0; clear hr0 hW hn hc0
  have H := al3 w (rtabO id m u b c z s me o a l (.slice A0 n c0)) (actO d i p k) (rtabO 0 0 0 0 0 0 0 0 0 0 0 (.slice none 0 0))
  have H0 := Lib.hid H.1; have H1 := Lib.hid H.2.1; have H2 := Lib.hid H.2.2.1; have HB0 := Lib.hid H.2.2.2; clear H
  obtain ⟨s0, s1, s2, s3, s4, s5, s6, s7, s8, s9, s10, s11⟩ := cz12 H0.out
  obtain ⟨a0, a1, a2, a3⟩ := cz4 H1.out
  obtain ⟨v0, v1, v2, v3, v4, v5, v6, v7, v8, v9, v10, v11⟩ := cz12 H2.out
  obtain ⟨vf0, vf1, vf2, vf3, vf4, vf5, vf6, vf7, vf8, vf9, vf10, vf11⟩ := fz12 H2.out
  have hge : w.heap.size ≤ w.heap.size + 1 + 1 := by omega
  have b0 : (d == 0) = false := beq_eq_false_iff_ne.mpr e0; have b1 : (d == 1) = false := beq_eq_false_iff_ne.mpr e1; have b2 : (d == 2) = false := beq_eq_false_iff_ne.mpr e2; have b3 : (d == 3) = false := beq_eq_false_iff_ne.mpr e3; have b4 : (d == 4) = false := beq_eq_false_iff_ne.mpr e4; have b5 : (d == 5) = false := beq_eq_false_iff_ne.mpr e5
  go_enter Try.func17, Try.ntmps17
  go_wp2
  have HN := al3 w (rtabO id m u b c z s me o a l (.slice A0 n c0)) (actO d i p k) (rtabO id m u b c z s me o a l (.slice A0 n c0))
  refine bodyPost_ret (results_ct rfl _ _ (w.heap.size + 1 + 1) 34 #[.int .i64 id, .int .i64 m, .int .i64 u, .int .i64 b, .int .i64 c, .int .i64 z, .int .i64 s, .int .i64 me, .int .i64 o, .int .i64 a, .int .i64 l, .slice A0 n c0] (0, 0) _ rfl HN.2.2.1 Try.underlying34 rfl (by kernel_rfl)) rfl ?_
  exact ⟨_, rfl, .inr ⟨rfl, rfl⟩, HN.2.2.2⟩

theorem should_any (id m u b c z s me o a l : Int) (A0 : Option Addr) (c0 : Nat) (L : List S57) (x : S47) (w : World) (hr0 : Kd.C k57 w A0 L.length L) (hc0 : L.length ≤ c0) (hl : L.length ≤ 1000000) :
    Calls Try.prog 17 #[tabV id m u b c z s me o a l (.slice A0 L.length c0), actV x] w fun e w' => ∃ v, e = .returned (.tuple #[v, .int .i64 (doesZ id m u b c z s me o a l L x).2]) ∧ TabD id m u b c z s me o a l (doesZ id m u b c z s me o a l L x).1 L (.slice A0 L.length c0) w.heap.size w' v ∧ Below w.heap.size w w' := by
  obtain ⟨d, i, p, k⟩ := x
  unfold doesZ
  dsimp only
  by_cases e0 : d = 0
  · subst e0; rw [if_pos rfl]; exact should_Write id m u b c z s me o a l A0 c0 L i p k w hr0 hc0 hl
  rw [if_neg e0]
  by_cases e1 : d = 1
  · subst e1; rw [if_pos rfl]; exact should_Read id m u b c z s me o a l A0 c0 L i p k w hr0 hc0 hl
  rw [if_neg e1]
  by_cases e2 : d = 2
  · subst e2; rw [if_pos rfl]; exact should_Reset id m u b c z s me o a l A0 c0 L i p k w hr0 hc0 hl
  rw [if_neg e2]
  by_cases e3 : d = 3
  · subst e3; rw [if_pos rfl]; exact should_Finish id m u b c z s me o a l A0 c0 L i p k w hr0 hc0 hl
  rw [if_neg e3]
  by_cases e4 : d = 4
  · subst e4; rw [if_pos rfl]; exact should_Open id m u b c z s me o a l A0 c0 L i p k w hr0 hc0 hl
  rw [if_neg e4]
  by_cases e5 : d = 5
  · subst e5; rw [if_pos rfl]; exact should_Close id m u b c z s me o a l A0 c0 L i p k w hr0 hc0 hl
  rw [if_neg e5]
  exact should_none id m u b c z s me o a l A0 c0 L d i p k e0 e1 e2 e3 e4 e5 w hr0 hc0 hl
end Go.Proofs.Ytlellnmpogimlaa
