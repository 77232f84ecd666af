/- Facts handed on. -/
/- revetmentlaw17.should: a call of the document, by its number. -/
/- Words that the walks of the laws of lzone and model share: the blocks of settings, of tables and calls. -/
/- revetmentref17.New; the walk of revetmentlaw17.LzonePlays. -/
/- revetmentlaw17.LzonePlays answers true: for all settings and plays. No condition. -/
import Derived.Test.YtgckcaoncjhgbaaGwPack
import Derived.WalkKit
import Derived.WalkSpells
import Derived.WalkLawsBesides
import Derived.Lib.Hide
import Derived.Test.YtgckcaoncjhgbaaLzDoes2
import Derived.Test.YtgckcaoncjhgbaaFoldA
import Derived.Test.YtgckcaoncjhgbaaPLx10
import Derived.Test.YtgckcaoncjhgbaaPLx2
import Derived.Test.YtgckcaoncjhgbaaPLx3
import Derived.Test.YtgckcaoncjhgbaaLzInvLaw
import Derived.Test.YtgckcaoncjhgbaaMdLaw
import Derived.Test.YtgckcaoncjhgbaaPLx5
namespace Go.Proofs.Ytgckcaoncjhgbaa
theorem Pk.refs {w W : World} {bs : List Blk} {fs fs' : List Fct} (h : Pk w W bs fs) (h2 : ∀ f ∈ fs', f.P W) : Pk w W bs fs' := ⟨h.below, h.blk, h.ne, h2⟩
end Go.Proofs.Ytgckcaoncjhgbaa
namespace Go.Proofs.Ytgckcaoncjhgbaa
-- revetmentref17_Right.calls
open Go.RowKit Go.Proofs.Ytgckcaoncjhgbaa.PL Go.Proofs.YtgckcaoncjhgbaaW.PrintWords Go.Proofs.YtgckcaoncjhgbaaW.PrintLast
set_option linter.unusedVariables false
set_option linter.unusedSimpArgs false
theorem TabD12r {id m u b c z s me o a l : Int} {r : Option (List S59)} {L : List S59} {sl v : Value} {base g : Nat} {W : World} {cs : Array Value} {y0 y1 y2 y3 y4 y5 y6 y7 y8 y9 y10 y11 : Value} (h : TabD id m u b c z s me o a l r L sl base W v) (hb : W.heap[g]? = some (.cells cs 35 (0, 0))) : TabD id m u b c z s me o a l r L sl base ((((((((((((W.setCell ⟨g, 0, none⟩ y0).setCell ⟨g, 1, none⟩ y1).setCell ⟨g, 2, none⟩ y2).setCell ⟨g, 3, none⟩ y3).setCell ⟨g, 4, none⟩ y4).setCell ⟨g, 5, none⟩ y5).setCell ⟨g, 6, none⟩ y6).setCell ⟨g, 7, none⟩ y7).setCell ⟨g, 8, none⟩ y8).setCell ⟨g, 9, none⟩ y9).setCell ⟨g, 10, none⟩ y10).setCell ⟨g, 11, none⟩ y11) v := by
  rcases h with (h | ⟨L', q, h1, h2, hR⟩) | h
  · exact .inl (.inl h)
  · exact .inl (.inr ⟨L', q, h1, h2, R12 hR hb (by decide)⟩)
  · exact .inr h
abbrev rcTA (g h : Nat) (q0 q1 q2 q3 q4 q5 q6 q7 q8 q9 q10 : Int) (v : Value) (d i p k : Int) (W : World) : Prop := W.cell? ⟨g, 0, none⟩ = some (.int .i64 q0) ∧ W.cell? ⟨g, 1, none⟩ = some (.int .i64 q1) ∧ W.cell? ⟨g, 2, none⟩ = some (.int .i64 q2) ∧ W.cell? ⟨g, 3, none⟩ = some (.int .i64 q3) ∧ W.cell? ⟨g, 4, none⟩ = some (.int .i64 q4) ∧ W.cell? ⟨g, 5, none⟩ = some (.int .i64 q5) ∧ W.cell? ⟨g, 6, none⟩ = some (.int .i64 q6) ∧ W.cell? ⟨g, 7, none⟩ = some (.int .i64 q7) ∧ W.cell? ⟨g, 8, none⟩ = some (.int .i64 q8) ∧ W.cell? ⟨g, 9, none⟩ = some (.int .i64 q9) ∧ W.cell? ⟨g, 10, none⟩ = some (.int .i64 q10) ∧ W.cell? ⟨g, 11, none⟩ = some v ∧ W.cell? ⟨h, 0, none⟩ = some (.int .i64 d) ∧ W.cell? ⟨h, 1, none⟩ = some (.int .i64 i) ∧ W.cell? ⟨h, 2, none⟩ = some (.int .i64 p) ∧ W.cell? ⟨h, 3, none⟩ = some (.int .i64 k)
theorem rcTA_of {g h : Nat} {q0 q1 q2 q3 q4 q5 q6 q7 q8 q9 q10 : Int} {v : Value} {d i p k : Int} {W : World} (e : W.heap[g]? = some (rtabO q0 q1 q2 q3 q4 q5 q6 q7 q8 q9 q10 v)) (f : W.heap[h]? = some (actO d i p k)) : rcTA g h q0 q1 q2 q3 q4 q5 q6 q7 q8 q9 q10 v d i p k W :=
  ⟨(blk_cell e 0).trans rfl, (blk_cell e 1).trans rfl, (blk_cell e 2).trans rfl, (blk_cell e 3).trans rfl, (blk_cell e 4).trans rfl, (blk_cell e 5).trans rfl, (blk_cell e 6).trans rfl, (blk_cell e 7).trans rfl, (blk_cell e 8).trans rfl, (blk_cell e 9).trans rfl, (blk_cell e 10).trans rfl, (blk_cell e 11).trans rfl, (blk_cell f 0).trans rfl, (blk_cell f 1).trans rfl, (blk_cell f 2).trans rfl, (blk_cell f 3).trans rfl⟩
def T17_5 : Bool × List (List Nat × List Nat) := (true, [([], []), ([], []), ([], []), ([2], [2]), ([], []), ([4], [4]), ([], []), ([6], [6]), ([1, 3, 5, 7], [1, 3, 5, 7]), ([0, 8, 0], [0]), ([8, 9, 0, 1, 2, 3, 4, 5, 6, 7, 8, 9], [8])])
theorem tab17_5 : rtab .any (opsOf Try.f17 5) = T17_5 := by kernel_rfl
theorem bits17_5 : waitsOk T17_5.2 [0, 0, 0, 4, 0, 16, 0, 64, 254, 511, 1023] = true := by kernel_rfl
set_option maxHeartbeats 4000000 in
set_option maxRecDepth 100000 in
theorem should_Write (id m u b c z s me o a l : Int) (A0 : Option Addr) (c0 : Nat) (L : List S59) (i p k : Int) (w : World) (hr0 : Kd.C k59 w A0 L.length L) (hc0 : L.length ≤ c0) (hl : L.length ≤ 1000000) :
    Calls Try.prog 17 #[tabV id m u b c z s me o a l (.slice A0 L.length c0), .agg #[.int .i64 0, .int .i64 i, .int .i64 p, .int .i64 k]] w fun e w' => ∃ v, e = .returned (.tuple #[v, .int .i64 (writeZ id m u b c z s me o a l L i p k).2]) ∧ TabD id m u b c z s me o a l (writeZ id m u b c z s me o a l L i p k).1 L (.slice A0 L.length c0) w.heap.size w' v ∧ Below w.heap.size w w' := by
  have hW := fun W h => rwrite_any id m u b c z s me o a l A0 c0 L i p k W h hc0 hl
  generalize writeZ id m u b c z s me o a l L i p k = rE at hW ⊢
  obtain ⟨r, E⟩ := rE
  dsimp only at hW ⊢
  obtain ⟨n, hn⟩ : ∃ n, n = L.length := ⟨_, rfl⟩
  rw [← hn] at hW hr0 hc0 ⊢
  have HR := Lib.hid hr0; have HW := Lib.hid hW; have HC0 := Lib.hid hc0; clear hr0 hW hn hc0
  have H := al3 w (rtabO id m u b c z s me o a l (.slice A0 n c0)) (actO 0 i p k) (rtabO 0 0 0 0 0 0 0 0 0 0 0 (.slice none 0 0))
  have H0 := Lib.hid H.1; have H1 := Lib.hid H.2.1; have H2 := Lib.hid H.2.2.1; have HB0 := Lib.hid H.2.2.2; clear H
  obtain ⟨s0, s1, s2, s3, s4, s5, s6, s7, s8, s9, s10, s11⟩ := cz12 H0.out
  obtain ⟨a0, a1, a2, a3⟩ := cz4 H1.out
  obtain ⟨v0, v1, v2, v3, v4, v5, v6, v7, v8, v9, v10, v11⟩ := cz12 H2.out
  obtain ⟨vf0, vf1, vf2, vf3, vf4, vf5, vf6, vf7, vf8, vf9, vf10, vf11⟩ := fz12 H2.out
  have hge : w.heap.size ≤ w.heap.size + 1 + 1 := by omega
  go_enter Try.func17, Try.ntmps17
  go_wp2_with (go_at_call 62; refine (HW.out _ (Kd.C_below HR.out HB0.out)).mono ?_; rintro e w5 ⟨v, rfl, hT, hb⟩; obtain ⟨q0, q1, q2, q3, q4, q5, q6, q7, q8, q9, q10, A2, n2, k2, rfl⟩ := TabD_open hT; have G5 := Lib.hid (blk_below H2.out hb); have HB5 := Lib.hid (below_step HB0.out hb); have HT5 := Lib.hid (TabD_lower hT HB0.out.size); clear hT hb; obtain ⟨x0, x1, x2, x3, x4, x5, x6, x7, x8, x9, x10, x11⟩ := cz12 G5.out; obtain ⟨xf0, xf1, xf2, xf3, xf4, xf5, xf6, xf7, xf8, xf9, xf10, xf11⟩ := fz12 G5.out)
  refine bodyPost_ret (results_ct rfl _ _ (w.heap.size + 1 + 1) 35 #[.int .i64 q0, .int .i64 q1, .int .i64 q2, .int .i64 q3, .int .i64 q4, .int .i64 q5, .int .i64 q6, .int .i64 q7, .int .i64 q8, .int .i64 q9, .int .i64 q10, .slice A2 n2 k2] (0, 0) _ rfl (put12 G5.out) Try.underlying35 rfl (by kernel_rfl)) rfl ?_
  exact ⟨_, rfl, TabD12r HT5.out G5.out, bl12 HB5.out hge⟩

set_option maxHeartbeats 4000000 in
set_option maxRecDepth 100000 in
theorem should_Reset (id m u b c z s me o a l : Int) (A0 : Option Addr) (c0 : Nat) (L : List S59) (i p k : Int) (w : World) (hr0 : Kd.C k59 w A0 L.length L) (hc0 : L.length ≤ c0) (hl : L.length ≤ 1000000) :
    Calls Try.prog 17 #[tabV id m u b c z s me o a l (.slice A0 L.length c0), .agg #[.int .i64 2, .int .i64 i, .int .i64 p, .int .i64 k]] w fun e w' => ∃ v, e = .returned (.tuple #[v, .int .i64 (resetZ id m u b c z s me o a l L i).2]) ∧ TabD id m u b c z s me o a l (resetZ id m u b c z s me o a l L i).1 L (.slice A0 L.length c0) w.heap.size w' v ∧ Below w.heap.size w w' := by
  have hW := fun W h => rreset_any id m u b c z s me o a l A0 c0 L i W h hc0 hl
  generalize resetZ id m u b c z s me o a l L i = rE at hW ⊢
  obtain ⟨r, E⟩ := rE
  dsimp only at hW ⊢
  obtain ⟨n, hn⟩ : ∃ n, n = L.length := ⟨_, rfl⟩
  rw [← hn] at hW hr0 hc0 ⊢
  have HR := Lib.hid hr0; have HW := Lib.hid hW; have HC0 := Lib.hid hc0; clear hr0 hW hn hc0
  have H := al3 w (rtabO id m u b c z s me o a l (.slice A0 n c0)) (actO 2 i p k) (rtabO 0 0 0 0 0 0 0 0 0 0 0 (.slice none 0 0))
  have H0 := Lib.hid H.1; have H1 := Lib.hid H.2.1; have H2 := Lib.hid H.2.2.1; have HB0 := Lib.hid H.2.2.2; clear H
  obtain ⟨s0, s1, s2, s3, s4, s5, s6, s7, s8, s9, s10, s11⟩ := cz12 H0.out
  obtain ⟨a0, a1, a2, a3⟩ := cz4 H1.out
  obtain ⟨v0, v1, v2, v3, v4, v5, v6, v7, v8, v9, v10, v11⟩ := cz12 H2.out
  obtain ⟨vf0, vf1, vf2, vf3, vf4, vf5, vf6, vf7, vf8, vf9, vf10, vf11⟩ := fz12 H2.out
  have hge : w.heap.size ≤ w.heap.size + 1 + 1 := by omega
  go_enter Try.func17, Try.ntmps17
  go_wp2_with (go_at_call 64; refine (HW.out _ (Kd.C_below HR.out HB0.out)).mono ?_; rintro e w5 ⟨v, rfl, hT, hb⟩; obtain ⟨q0, q1, q2, q3, q4, q5, q6, q7, q8, q9, q10, A2, n2, k2, rfl⟩ := TabD_open hT; have G5 := Lib.hid (blk_below H2.out hb); have HB5 := Lib.hid (below_step HB0.out hb); have HT5 := Lib.hid (TabD_lower hT HB0.out.size); clear hT hb; obtain ⟨x0, x1, x2, x3, x4, x5, x6, x7, x8, x9, x10, x11⟩ := cz12 G5.out; obtain ⟨xf0, xf1, xf2, xf3, xf4, xf5, xf6, xf7, xf8, xf9, xf10, xf11⟩ := fz12 G5.out)
  refine bodyPost_ret (results_ct rfl _ _ (w.heap.size + 1 + 1) 35 #[.int .i64 q0, .int .i64 q1, .int .i64 q2, .int .i64 q3, .int .i64 q4, .int .i64 q5, .int .i64 q6, .int .i64 q7, .int .i64 q8, .int .i64 q9, .int .i64 q10, .slice A2 n2 k2] (0, 0) _ rfl (put12 G5.out) Try.underlying35 rfl (by kernel_rfl)) rfl ?_
  exact ⟨_, rfl, TabD12r HT5.out G5.out, bl12 HB5.out hge⟩

set_option maxHeartbeats 4000000 in
set_option maxRecDepth 100000 in
theorem should_Finish (id m u b c z s me o a l : Int) (A0 : Option Addr) (c0 : Nat) (L : List S59) (i p k : Int) (w : World) (hr0 : Kd.C k59 w A0 L.length L) (hc0 : L.length ≤ c0) (hl : L.length ≤ 1000000) :
    Calls Try.prog 17 #[tabV id m u b c z s me o a l (.slice A0 L.length c0), .agg #[.int .i64 3, .int .i64 i, .int .i64 p, .int .i64 k]] w fun e w' => ∃ v, e = .returned (.tuple #[v, .int .i64 (finishZ id m u b c z s me o a l L i).2]) ∧ TabD id m u b c z s me o a l (finishZ id m u b c z s me o a l L i).1 L (.slice A0 L.length c0) w.heap.size w' v ∧ Below w.heap.size w w' := by
  have hW := fun W h => rfinish_any id m u b c z s me o a l A0 c0 L i W h hc0 hl
  generalize finishZ id m u b c z s me o a l L i = rE at hW ⊢
  obtain ⟨r, E⟩ := rE
  dsimp only at hW ⊢
  obtain ⟨n, hn⟩ : ∃ n, n = L.length := ⟨_, rfl⟩
  rw [← hn] at hW hr0 hc0 ⊢
  have HR := Lib.hid hr0; have HW := Lib.hid hW; have HC0 := Lib.hid hc0; clear hr0 hW hn hc0
  have H := al3 w (rtabO id m u b c z s me o a l (.slice A0 n c0)) (actO 3 i p k) (rtabO 0 0 0 0 0 0 0 0 0 0 0 (.slice none 0 0))
  have H0 := Lib.hid H.1; have H1 := Lib.hid H.2.1; have H2 := Lib.hid H.2.2.1; have HB0 := Lib.hid H.2.2.2; clear H
  obtain ⟨s0, s1, s2, s3, s4, s5, s6, s7, s8, s9, s10, s11⟩ := cz12 H0.out
  obtain ⟨a0, a1, a2, a3⟩ := cz4 H1.out
  obtain ⟨v0, v1, v2, v3, v4, v5, v6, v7, v8, v9, v10, v11⟩ := cz12 H2.out
  obtain ⟨vf0, vf1, vf2, vf3, vf4, vf5, vf6, vf7, vf8, vf9, vf10, vf11⟩ := fz12 H2.out
  have hge : w.heap.size ≤ w.heap.size + 1 + 1 := by omega
  go_enter Try.func17, Try.ntmps17
  go_wp2_with (go_at_call 65; refine (HW.out _ (Kd.C_below HR.out HB0.out)).mono ?_; rintro e w5 ⟨v, rfl, hT, hb⟩; obtain ⟨q0, q1, q2, q3, q4, q5, q6, q7, q8, q9, q10, A2, n2, k2, rfl⟩ := TabD_open hT; have G5 := Lib.hid (blk_below H2.out hb); have HB5 := Lib.hid (below_step HB0.out hb); have HT5 := Lib.hid (TabD_lower hT HB0.out.size); clear hT hb; obtain ⟨x0, x1, x2, x3, x4, x5, x6, x7, x8, x9, x10, x11⟩ := cz12 G5.out; obtain ⟨xf0, xf1, xf2, xf3, xf4, xf5, xf6, xf7, xf8, xf9, xf10, xf11⟩ := fz12 G5.out)
  refine bodyPost_ret (results_ct rfl _ _ (w.heap.size + 1 + 1) 35 #[.int .i64 q0, .int .i64 q1, .int .i64 q2, .int .i64 q3, .int .i64 q4, .int .i64 q5, .int .i64 q6, .int .i64 q7, .int .i64 q8, .int .i64 q9, .int .i64 q10, .slice A2 n2 k2] (0, 0) _ rfl (put12 G5.out) Try.underlying35 rfl (by kernel_rfl)) rfl ?_
  exact ⟨_, rfl, TabD12r HT5.out G5.out, bl12 HB5.out hge⟩

set_option maxHeartbeats 4000000 in
set_option maxRecDepth 100000 in
theorem should_Open (id m u b c z s me o a l : Int) (A0 : Option Addr) (c0 : Nat) (L : List S59) (i p k : Int) (w : World) (hr0 : Kd.C k59 w A0 L.length L) (hc0 : L.length ≤ c0) (hl : L.length ≤ 1000000) :
    Calls Try.prog 17 #[tabV id m u b c z s me o a l (.slice A0 L.length c0), .agg #[.int .i64 4, .int .i64 i, .int .i64 p, .int .i64 k]] w fun e w' => ∃ v, e = .returned (.tuple #[v, .int .i64 (openZ id m u b c z s me o a l L i).2]) ∧ TabD id m u b c z s me o a l (openZ id m u b c z s me o a l L i).1 L (.slice A0 L.length c0) w.heap.size w' v ∧ Below w.heap.size w w' := by
  have hW := fun W h => ropen_any id m u b c z s me o a l A0 c0 L i W h hc0 hl
  generalize openZ id m u b c z s me o a l L i = rE at hW ⊢
  obtain ⟨r, E⟩ := rE
  dsimp only at hW ⊢
  obtain ⟨n, hn⟩ : ∃ n, n = L.length := ⟨_, rfl⟩
  rw [← hn] at hW hr0 hc0 ⊢
  have HR := Lib.hid hr0; have HW := Lib.hid hW; have HC0 := Lib.hid hc0; clear hr0 hW hn hc0
  have H := al3 w (rtabO id m u b c z s me o a l (.slice A0 n c0)) (actO 4 i p k) (rtabO 0 0 0 0 0 0 0 0 0 0 0 (.slice none 0 0))
  have H0 := Lib.hid H.1; have H1 := Lib.hid H.2.1; have H2 := Lib.hid H.2.2.1; have HB0 := Lib.hid H.2.2.2; clear H
  obtain ⟨s0, s1, s2, s3, s4, s5, s6, s7, s8, s9, s10, s11⟩ := cz12 H0.out
  obtain ⟨a0, a1, a2, a3⟩ := cz4 H1.out
  obtain ⟨v0, v1, v2, v3, v4, v5, v6, v7, v8, v9, v10, v11⟩ := cz12 H2.out
  obtain ⟨vf0, vf1, vf2, vf3, vf4, vf5, vf6, vf7, vf8, vf9, vf10, vf11⟩ := fz12 H2.out
  have hge : w.heap.size ≤ w.heap.size + 1 + 1 := by omega
  go_enter Try.func17, Try.ntmps17
  go_wp2_with (go_at_call 66; refine (HW.out _ (Kd.C_below HR.out HB0.out)).mono ?_; rintro e w5 ⟨v, rfl, hT, hb⟩; obtain ⟨q0, q1, q2, q3, q4, q5, q6, q7, q8, q9, q10, A2, n2, k2, rfl⟩ := TabD_open hT; have G5 := Lib.hid (blk_below H2.out hb); have HB5 := Lib.hid (below_step HB0.out hb); have HT5 := Lib.hid (TabD_lower hT HB0.out.size); clear hT hb; obtain ⟨x0, x1, x2, x3, x4, x5, x6, x7, x8, x9, x10, x11⟩ := cz12 G5.out; obtain ⟨xf0, xf1, xf2, xf3, xf4, xf5, xf6, xf7, xf8, xf9, xf10, xf11⟩ := fz12 G5.out)
  refine bodyPost_ret (results_ct rfl _ _ (w.heap.size + 1 + 1) 35 #[.int .i64 q0, .int .i64 q1, .int .i64 q2, .int .i64 q3, .int .i64 q4, .int .i64 q5, .int .i64 q6, .int .i64 q7, .int .i64 q8, .int .i64 q9, .int .i64 q10, .slice A2 n2 k2] (0, 0) _ rfl (put12 G5.out) Try.underlying35 rfl (by kernel_rfl)) rfl ?_
  exact ⟨_, rfl, TabD12r HT5.out G5.out, bl12 HB5.out hge⟩

set_option maxHeartbeats 4000000 in
set_option maxRecDepth 100000 in
theorem should_Close (id m u b c z s me o a l : Int) (A0 : Option Addr) (c0 : Nat) (L : List S59) (i p k : Int) (w : World) (hr0 : Kd.C k59 w A0 L.length L) (hc0 : L.length ≤ c0) (hl : L.length ≤ 1000000) :
    Calls Try.prog 17 #[tabV id m u b c z s me o a l (.slice A0 L.length c0), .agg #[.int .i64 5, .int .i64 i, .int .i64 p, .int .i64 k]] w fun e w' => ∃ v, e = .returned (.tuple #[v, .int .i64 (closeZ id m u b c z s me o a l L i).2]) ∧ TabD id m u b c z s me o a l (closeZ id m u b c z s me o a l L i).1 L (.slice A0 L.length c0) w.heap.size w' v ∧ Below w.heap.size w w' := by
  have hW := fun W h => rclose_any id m u b c z s me o a l A0 c0 L i W h hc0 hl
  generalize closeZ id m u b c z s me o a l L i = rE at hW ⊢
  obtain ⟨r, E⟩ := rE
  dsimp only at hW ⊢
  obtain ⟨n, hn⟩ : ∃ n, n = L.length := ⟨_, rfl⟩
  rw [← hn] at hW hr0 hc0 ⊢
  have HR := Lib.hid hr0; have HW := Lib.hid hW; have HC0 := Lib.hid hc0; clear hr0 hW hn hc0
  have H := al3 w (rtabO id m u b c z s me o a l (.slice A0 n c0)) (actO 5 i p k) (rtabO 0 0 0 0 0 0 0 0 0 0 0 (.slice none 0 0))
  have H0 := Lib.hid H.1; have H1 := Lib.hid H.2.1; have H2 := Lib.hid H.2.2.1; have HB0 := Lib.hid H.2.2.2; clear H
  obtain ⟨s0, s1, s2, s3, s4, s5, s6, s7, s8, s9, s10, s11⟩ := cz12 H0.out
  obtain ⟨a0, a1, a2, a3⟩ := cz4 H1.out
  obtain ⟨v0, v1, v2, v3, v4, v5, v6, v7, v8, v9, v10, v11⟩ := cz12 H2.out
  obtain ⟨vf0, vf1, vf2, vf3, vf4, vf5, vf6, vf7, vf8, vf9, vf10, vf11⟩ := fz12 H2.out
  have hge : w.heap.size ≤ w.heap.size + 1 + 1 := by omega
  go_enter Try.func17, Try.ntmps17
  go_wp2_with (go_at_call 67; refine (HW.out _ (Kd.C_below HR.out HB0.out)).mono ?_; rintro e w5 ⟨v, rfl, hT, hb⟩; obtain ⟨q0, q1, q2, q3, q4, q5, q6, q7, q8, q9, q10, A2, n2, k2, rfl⟩ := TabD_open hT; have G5 := Lib.hid (blk_below H2.out hb); have HB5 := Lib.hid (below_step HB0.out hb); have HT5 := Lib.hid (TabD_lower hT HB0.out.size); clear hT hb; obtain ⟨x0, x1, x2, x3, x4, x5, x6, x7, x8, x9, x10, x11⟩ := cz12 G5.out; obtain ⟨xf0, xf1, xf2, xf3, xf4, xf5, xf6, xf7, xf8, xf9, xf10, xf11⟩ := fz12 G5.out)
  refine bodyPost_ret (results_ct rfl _ _ (w.heap.size + 1 + 1) 35 #[.int .i64 q0, .int .i64 q1, .int .i64 q2, .int .i64 q3, .int .i64 q4, .int .i64 q5, .int .i64 q6, .int .i64 q7, .int .i64 q8, .int .i64 q9, .int .i64 q10, .slice A2 n2 k2] (0, 0) _ rfl (put12 G5.out) Try.underlying35 rfl (by kernel_rfl)) rfl ?_
  exact ⟨_, rfl, TabD12r HT5.out G5.out, bl12 HB5.out hge⟩

set_option maxHeartbeats 4000000 in
set_option maxRecDepth 100000 in
theorem should_Read (id m u b c z s me o a l : Int) (A0 : Option Addr) (c0 : Nat) (L : List S59) (i p k : Int) (w : World) (hr0 : Kd.C k59 w A0 L.length L) (hc0 : L.length ≤ c0) (hl : L.length ≤ 1000000) :
    Calls Try.prog 17 #[tabV id m u b c z s me o a l (.slice A0 L.length c0), .agg #[.int .i64 1, .int .i64 i, .int .i64 p, .int .i64 k]] w fun e w' => ∃ v, e = .returned (.tuple #[v, .int .i64 (((some L, readZ id m u b c z s me o a l L i p k) : Option (List S59) × Int)).2]) ∧ TabD id m u b c z s me o a l (((some L, readZ id m u b c z s me o a l L i p k) : Option (List S59) × Int)).1 L (.slice A0 L.length c0) w.heap.size w' v ∧ Below w.heap.size w w' := by
  have hW := fun W h => rread_any id m u b c z s me o a l A0 c0 L i p k W h hc0 hl
  generalize readZ id m u b c z s me o a l L i p k = E at hW ⊢
  obtain ⟨n, hn⟩ : ∃ n, n = L.length := ⟨_, rfl⟩
  rw [← hn] at hW hr0 hc0 ⊢
  have HR := Lib.hid hr0; have HW := Lib.hid hW; have HC0 := Lib.hid hc0; clear hr0 hW hn hc0
  have H := al3 w (rtabO id m u b c z s me o a l (.slice A0 n c0)) (actO 1 i p k) (rtabO 0 0 0 0 0 0 0 0 0 0 0 (.slice none 0 0))
  have H0 := Lib.hid H.1; have H1 := Lib.hid H.2.1; have H2 := Lib.hid H.2.2.1; have HB0 := Lib.hid H.2.2.2; clear H
  obtain ⟨s0, s1, s2, s3, s4, s5, s6, s7, s8, s9, s10, s11⟩ := cz12 H0.out
  obtain ⟨a0, a1, a2, a3⟩ := cz4 H1.out
  obtain ⟨v0, v1, v2, v3, v4, v5, v6, v7, v8, v9, v10, v11⟩ := cz12 H2.out
  obtain ⟨vf0, vf1, vf2, vf3, vf4, vf5, vf6, vf7, vf8, vf9, vf10, vf11⟩ := fz12 H2.out
  have hge : w.heap.size ≤ w.heap.size + 1 + 1 := by omega
  go_enter Try.func17, Try.ntmps17
  go_wp2
  refine start_ (n := 11) (S := (rcTA w.heap.size (w.heap.size + 1) id m u b c z s me o a l (.slice A0 n c0) 1 i p k)) (ds := []) (bq 11 0) (by kernel_rfl) rfl (by kernel_rfl) (rcTA_of (blk_drew H0.out) (blk_drew H1.out)) (fun hHeld => ?_)
  refine with_tabW tab17_5 bits17_5 (fun HT_ HW_ => ?_)
  apply tu 0 22 (bq 11 1) HT_ HW_ hHeld
  apply tu 1 23 (bq 11 3) HT_ HW_ hHeld
  apply pu 2 24 (bq 11 7) HT_
  apply pu 4 26 (bq 11 23) HT_
  apply pu 6 28 (bq 11 87) HT_
  apply tu 3 25 (bq 11 95) HT_ HW_ hHeld
  apply tu 5 27 (bq 11 127) HT_ HW_ hHeld
  apply tu 7 29 (bq 11 255) HT_ HW_ hHeld
  refine one_ (i := 8) (N := some 30) (bq 11 511) rfl rfl (one_of HT_.out (by kernel_rfl)) (by decide) (fun K hK => ?_)
  refine gs Try.func63 #[tabV id m u b c z s me o a l (.slice A0 n c0), .int .i64 i, .int .i64 p, .int .i64 k] ?_
  refine (HW.out _ (Kd.C_drew (Kd.C_below HR.out HB0.out))).mono ?_
  rintro e w5 ⟨rfl, hb⟩
  refine ⟨_, rfl, ?_⟩
  have K5 := Lib.hid (blk_below (blk_drew H0.out) hb); have A5 := Lib.hid (blk_below (blk_drew H1.out) hb); have G5 := Lib.hid (blk_below (blk_drew H2.out) hb); have HB5 := Lib.hid (below_step (below_drew1 HB0.out) hb); clear hb
  refine hK.out _ _ (rcTA_of K5.out A5.out) (fun hHeld => ?_)
  clear hK K
  apply nm 0
  refine one_ (i := 9) (N := none) (bq 11 1023) rfl rfl (one_of HT_.out (by kernel_rfl)) (by decide) (fun K hK => ?_)
  obtain ⟨g0, g1, g2, g3, g4, g5, g6, g7, g8, g9, g10, g11⟩ := cz12 G5.out
  obtain ⟨gf0, gf1, gf2, gf3, gf4, gf5, gf6, gf7, gf8, gf9, gf10, gf11⟩ := fz12 G5.out
  refine skip_ (w1 := ?_) (by rfl) rfl ?_ ?_
  rotate_left
  · go_simp
    rfl
  refine hK.out _ _ (rcTA_of (far12 K5.out (by omega)) (far12 A5.out (by omega))) (fun hHeld => ?_)
  clear hK K
  apply pu 10 5 (bq 11 2047) HT_
  refine done_ (done_of HT_.out (by kernel_rfl)) ?_
  go_wp2
  refine bodyPost_ret (results_ct rfl _ _ (w.heap.size + 1 + 1) 35 #[.int .i64 id, .int .i64 m, .int .i64 u, .int .i64 b, .int .i64 c, .int .i64 z, .int .i64 s, .int .i64 me, .int .i64 o, .int .i64 a, .int .i64 l, .slice A0 n c0] (0, 0) _ rfl (put12 G5.out) Try.underlying35 rfl (by kernel_rfl)) rfl ?_
  exact ⟨_, rfl, .inr ⟨rfl, rfl⟩, bl12 HB5.out hge⟩

set_option maxHeartbeats 4000000 in
set_option maxRecDepth 100000 in
theorem should_none (id m u b c z s me o a l : Int) (A0 : Option Addr) (c0 : Nat) (L : List S59) (d i p k : Int) (e0 : ¬ d = 0) (e1 : ¬ d = 1) (e2 : ¬ d = 2) (e3 : ¬ d = 3) (e4 : ¬ d = 4) (e5 : ¬ d = 5) (w : World) (hr0 : Kd.C k59 w A0 L.length L) (hc0 : L.length ≤ c0) (hl : L.length ≤ 1000000) :
    Calls Try.prog 17 #[tabV id m u b c z s me o a l (.slice A0 L.length c0), .agg #[.int .i64 d, .int .i64 i, .int .i64 p, .int .i64 k]] w fun e w' => ∃ v, e = .returned (.tuple #[v, .int .i64 (((some L, 0) : Option (List S59) × Int)).2]) ∧ TabD id m u b c z s me o a l (((some L, 0) : Option (List S59) × Int)).1 L (.slice A0 L.length c0) w.heap.size w' v ∧ Below w.heap.size w w' := by
  have hW : True := trivial
  obtain ⟨n, hn⟩ : ∃ n, n = L.length := ⟨_, rfl⟩
  rw [← hn] at hr0 hc0 ⊢
  have HR := Lib.hid hr0; have HW := Lib.hid hW; have HC0 := Lib.hid hc0; clear hr0 hW hn hc0
  have H := al3 w (rtabO id m u b c z s me o a l (.slice A0 n c0)) (actO d i p k) (rtabO 0 0 0 0 0 0 0 0 0 0 0 (.slice none 0 0))
  have H0 := Lib.hid H.1; have H1 := Lib.hid H.2.1; have H2 := Lib.hid H.2.2.1; have HB0 := Lib.hid H.2.2.2; clear H
  obtain ⟨s0, s1, s2, s3, s4, s5, s6, s7, s8, s9, s10, s11⟩ := cz12 H0.out
  obtain ⟨a0, a1, a2, a3⟩ := cz4 H1.out
  obtain ⟨v0, v1, v2, v3, v4, v5, v6, v7, v8, v9, v10, v11⟩ := cz12 H2.out
  obtain ⟨vf0, vf1, vf2, vf3, vf4, vf5, vf6, vf7, vf8, vf9, vf10, vf11⟩ := fz12 H2.out
  have hge : w.heap.size ≤ w.heap.size + 1 + 1 := by omega
  have b0 : (d == 0) = false := beq_eq_false_iff_ne.mpr e0; have b1 : (d == 1) = false := beq_eq_false_iff_ne.mpr e1; have b2 : (d == 2) = false := beq_eq_false_iff_ne.mpr e2; have b3 : (d == 3) = false := beq_eq_false_iff_ne.mpr e3; have b4 : (d == 4) = false := beq_eq_false_iff_ne.mpr e4; have b5 : (d == 5) = false := beq_eq_false_iff_ne.mpr e5
  go_enter Try.func17, Try.ntmps17
  go_wp2
  have HN := al3 w (rtabO id m u b c z s me o a l (.slice A0 n c0)) (actO d i p k) (rtabO id m u b c z s me o a l (.slice A0 n c0))
  refine bodyPost_ret (results_ct rfl _ _ (w.heap.size + 1 + 1) 35 #[.int .i64 id, .int .i64 m, .int .i64 u, .int .i64 b, .int .i64 c, .int .i64 z, .int .i64 s, .int .i64 me, .int .i64 o, .int .i64 a, .int .i64 l, .slice A0 n c0] (0, 0) _ rfl HN.2.2.1 Try.underlying35 rfl (by kernel_rfl)) rfl ?_
  exact ⟨_, rfl, .inr ⟨rfl, rfl⟩, HN.2.2.2⟩

theorem should_any (id m u b c z s me o a l : Int) (A0 : Option Addr) (c0 : Nat) (L : List S59) (x : S40) (w : World) (hr0 : Kd.C k59 w A0 L.length L) (hc0 : L.length ≤ c0) (hl : L.length ≤ 1000000) :
    Calls Try.prog 17 #[tabV id m u b c z s me o a l (.slice A0 L.length c0), actV x] w fun e w' => ∃ v, e = .returned (.tuple #[v, .int .i64 (doesZ id m u b c z s me o a l L x).2]) ∧ TabD id m u b c z s me o a l (doesZ id m u b c z s me o a l L x).1 L (.slice A0 L.length c0) w.heap.size w' v ∧ Below w.heap.size w w' := by
  obtain ⟨d, i, p, k⟩ := x
  unfold doesZ
  dsimp only
  by_cases e0 : d = 0
  · subst e0; rw [if_pos rfl]; exact should_Write id m u b c z s me o a l A0 c0 L i p k w hr0 hc0 hl
  rw [if_neg e0]
  by_cases e1 : d = 1
  · subst e1; rw [if_pos rfl]; exact should_Read id m u b c z s me o a l A0 c0 L i p k w hr0 hc0 hl
  rw [if_neg e1]
  by_cases e2 : d = 2
  · subst e2; rw [if_pos rfl]; exact should_Reset id m u b c z s me o a l A0 c0 L i p k w hr0 hc0 hl
  rw [if_neg e2]
  by_cases e3 : d = 3
  · subst e3; rw [if_pos rfl]; exact should_Finish id m u b c z s me o a l A0 c0 L i p k w hr0 hc0 hl
  rw [if_neg e3]
  by_cases e4 : d = 4
  · subst e4; rw [if_pos rfl]; exact should_Open id m u b c z s me o a l A0 c0 L i p k w hr0 hc0 hl
  rw [if_neg e4]
  by_cases e5 : d = 5
  · subst e5; rw [if_pos rfl]; exact should_Close id m u b c z s me o a l A0 c0 L i p k w hr0 hc0 hl
  rw [if_neg e5]
  exact should_none id m u b c z s me o a l A0 c0 L d i p k e0 e1 e2 e3 e4 e5 w hr0 hc0 hl
end Go.Proofs.Ytgckcaoncjhgbaa
namespace Go.Proofs.Ytgckcaoncjhgbaa
-- revetmentref17_Same.calls lzone_New.calls conf_Check.f
open Go.RowKit Go.Proofs.Ytgckcaoncjhgbaa.PL Go.Proofs.YtgckcaoncjhgbaaW.PrintWords Go.Proofs.YtgckcaoncjhgbaaW.PrintLast
set_option linter.unusedVariables false
set_option linter.unusedSimpArgs false
theorem same_any (M : List S59) (A1 : Option Addr) (k1 : Nat) (A3 : Option Addr) (k3 : Nat) (W : World) (h1 : Kd.C k59 W A1 M.length M) (g1 : M.length ≤ k1) (h3 : Kd.C k59 W A3 M.length M) (g3 : M.length ≤ k3) (hl : M.length ≤ 1000000) :
    Calls Try.prog 19 #[.slice A1 M.length k1, .slice A3 M.length k3] W fun e w' => e = .returned (.bool true) ∧ Below W.heap.size W w' := by
  refine (revetmentref17_Same.calls (M.length + 1) A1 k1 M A3 k3 M true W h1 g1 h3 g3 ?_).mono ?_
  · unfold revetmentref17_Same.f
    rw [if_pos rfl]
    have := Geo.same_loop M hl M.length 0 (M.length + 1) (by omega) (by omega)
    exact this
  · rintro e w' ⟨rfl, nd, rfl⟩
    exact ⟨rfl, pw_below_drewN (Below.refl _ _) nd⟩
/-- The zones of a table that is an answer, read. -/
theorem TabD_read {id m u b c z s me o a l : Int} {r : Option (List S59)} {L : List S59} {A : Option Addr} {k base : Nat} {W : World} {v : Value} (h : TabD id m u b c z s me o a l r L (.slice A L.length k) base W v) (hC : Kd.C k59 W A L.length L) (hk : L.length ≤ k) :
    ∃ (q0 q1 q2 q3 q4 q5 q6 q7 q8 q9 q10 : Int) (A' : Option Addr) (k' : Nat), v = tabV q0 q1 q2 q3 q4 q5 q6 q7 q8 q9 q10 (.slice A' (r.getD []).length k') ∧ (r.getD []).length ≤ k' ∧ Kd.C k59 W A' (r.getD []).length (r.getD []) := by
  rcases h with (⟨rfl, rfl⟩ | ⟨L', y, rfl, rfl, h2⟩) | ⟨rfl, rfl⟩
  · exact ⟨0, 0, 0, 0, 0, 0, 0, 0, 0, 0, 0, none, 0, rfl, Nat.le_refl _, (Kd.R_reads' (Kd.R_nil k59 59 W 0 (fun _ => True))).2.2⟩
  · obtain ⟨A', k', rfl, hle, hC2⟩ := Kd.R_reads h2
    exact ⟨_, _, _, _, _, _, _, _, _, _, _, A', k', rfl, hle, hC2⟩
  · exact ⟨_, _, _, _, _, _, _, _, _, _, _, A, k, rfl, hk, hC⟩
theorem getD_set (L : List S59) (i : Nat) (y : S59) : ((some (L.set i y)).getD []).length ≤ L.length := by rw [Option.getD_some, List.length_set]; exact Nat.le_refl _
theorem doesZ_len (id m u b c z s me o a l : Int) (L : List S59) (x : S40) : ((doesZ id m u b c z s me o a l L x).1.getD []).length ≤ L.length := by
  have hn : ((none : Option (List S59)).getD []).length ≤ L.length := Nat.zero_le _
  unfold doesZ
  split
  · unfold writeZ; repeat' split
    all_goals first | exact hn | exact getD_set _ _ _
  split
  · exact Nat.le_refl _
  split
  · unfold resetZ; repeat' split
    all_goals first | exact hn | exact getD_set _ _ _
  split
  · unfold finishZ; repeat' split
    all_goals first | exact hn | exact getD_set _ _ _
  split
  · unfold openZ; repeat' split
    all_goals first | exact hn | exact getD_set _ _ _
  split
  · unfold closeZ; repeat' split
    all_goals first | exact hn | exact getD_set _ _ _
  exact Nat.le_refl _
abbrev cfO (id m u b c z s me o a l : Int) : Obj := .cells #[.int .i64 id, .int .i64 m, .int .i64 u, .int .i64 b, .int .i64 c, .int .i64 z, .int .i64 s, .int .i64 me, .int .i64 o, .int .i64 a, .int .i64 l] 23
/-- What the block of settings holds. -/
abbrev cfS (g : Nat) (id m u b c z s me o a l : Int) (W : World) : Prop := W.cell? ⟨g, 0, none⟩ = some (.int .i64 id) ∧ W.cell? ⟨g, 1, none⟩ = some (.int .i64 m) ∧ W.cell? ⟨g, 2, none⟩ = some (.int .i64 u) ∧ W.cell? ⟨g, 3, none⟩ = some (.int .i64 b) ∧ W.cell? ⟨g, 4, none⟩ = some (.int .i64 c) ∧ W.cell? ⟨g, 5, none⟩ = some (.int .i64 z) ∧ W.cell? ⟨g, 6, none⟩ = some (.int .i64 s) ∧ W.cell? ⟨g, 7, none⟩ = some (.int .i64 me) ∧ W.cell? ⟨g, 8, none⟩ = some (.int .i64 o) ∧ W.cell? ⟨g, 9, none⟩ = some (.int .i64 a) ∧ W.cell? ⟨g, 10, none⟩ = some (.int .i64 l)
theorem cfS_of {g : Nat} {id m u b c z s me o a l : Int} {W : World} (h : W.heap[g]? = some (cfO id m u b c z s me o a l)) : cfS g id m u b c z s me o a l W := cz11 h
/-- What the blocks of two tables hold. -/
abbrev tcTT (g h : Nat) (id m u b c z s me o a l : Int) (v : Value) (W : World) : Prop := W.cell? ⟨g, 0, none⟩ = some (.int .i64 id) ∧ W.cell? ⟨g, 1, none⟩ = some (.int .i64 m) ∧ W.cell? ⟨g, 2, none⟩ = some (.int .i64 u) ∧ W.cell? ⟨g, 3, none⟩ = some (.int .i64 b) ∧ W.cell? ⟨g, 4, none⟩ = some (.int .i64 c) ∧ W.cell? ⟨g, 5, none⟩ = some (.int .i64 z) ∧ W.cell? ⟨g, 6, none⟩ = some (.int .i64 s) ∧ W.cell? ⟨g, 7, none⟩ = some (.int .i64 me) ∧ W.cell? ⟨g, 8, none⟩ = some (.int .i64 o) ∧ W.cell? ⟨g, 9, none⟩ = some (.int .i64 a) ∧ W.cell? ⟨g, 10, none⟩ = some (.int .i64 l) ∧ W.cell? ⟨g, 11, none⟩ = some (v) ∧ W.cell? ⟨h, 0, none⟩ = some (.int .i64 id) ∧ W.cell? ⟨h, 1, none⟩ = some (.int .i64 m) ∧ W.cell? ⟨h, 2, none⟩ = some (.int .i64 u) ∧ W.cell? ⟨h, 3, none⟩ = some (.int .i64 b) ∧ W.cell? ⟨h, 4, none⟩ = some (.int .i64 c) ∧ W.cell? ⟨h, 5, none⟩ = some (.int .i64 z) ∧ W.cell? ⟨h, 6, none⟩ = some (.int .i64 s) ∧ W.cell? ⟨h, 7, none⟩ = some (.int .i64 me) ∧ W.cell? ⟨h, 8, none⟩ = some (.int .i64 o) ∧ W.cell? ⟨h, 9, none⟩ = some (.int .i64 a) ∧ W.cell? ⟨h, 10, none⟩ = some (.int .i64 l) ∧ W.cell? ⟨h, 11, none⟩ = some (v)
theorem tcTT_of {g h : Nat} {id m u b c z s me o a l : Int} {v : Value} {W : World} (e : W.heap[g]? = some (tabO id m u b c z s me o a l v)) (f : W.heap[h]? = some (rtabO id m u b c z s me o a l v)) : tcTT g h id m u b c z s me o a l v W :=
  ⟨(blk_cell e 0).trans rfl, (blk_cell e 1).trans rfl, (blk_cell e 2).trans rfl, (blk_cell e 3).trans rfl, (blk_cell e 4).trans rfl, (blk_cell e 5).trans rfl, (blk_cell e 6).trans rfl, (blk_cell e 7).trans rfl, (blk_cell e 8).trans rfl, (blk_cell e 9).trans rfl, (blk_cell e 10).trans rfl, (blk_cell e 11).trans rfl, (blk_cell f 0).trans rfl, (blk_cell f 1).trans rfl, (blk_cell f 2).trans rfl, (blk_cell f 3).trans rfl, (blk_cell f 4).trans rfl, (blk_cell f 5).trans rfl, (blk_cell f 6).trans rfl, (blk_cell f 7).trans rfl, (blk_cell f 8).trans rfl, (blk_cell f 9).trans rfl, (blk_cell f 10).trans rfl, (blk_cell f 11).trans rfl⟩
/-- The block of settings. -/
abbrev cfOL (id m u b c z s me o a l : Int) : Obj := .cells #[.int .i64 id, .int .i64 m, .int .i64 u, .int .i64 b, .int .i64 c, .int .i64 z, .int .i64 s, .int .i64 me, .int .i64 o, .int .i64 a, .int .i64 l] 23
/-- What the blocks of a table and of a call hold. -/
abbrev tcTX (g : Nat) (q0 q1 q2 q3 q4 q5 q6 q7 q8 q9 q10 : Int) (v : Value) (P : Addr) (d i p k : Int) (W : World) : Prop := W.cell? ⟨g, 0, none⟩ = some (.int .i64 q0) ∧ W.cell? ⟨g, 1, none⟩ = some (.int .i64 q1) ∧ W.cell? ⟨g, 2, none⟩ = some (.int .i64 q2) ∧ W.cell? ⟨g, 3, none⟩ = some (.int .i64 q3) ∧ W.cell? ⟨g, 4, none⟩ = some (.int .i64 q4) ∧ W.cell? ⟨g, 5, none⟩ = some (.int .i64 q5) ∧ W.cell? ⟨g, 6, none⟩ = some (.int .i64 q6) ∧ W.cell? ⟨g, 7, none⟩ = some (.int .i64 q7) ∧ W.cell? ⟨g, 8, none⟩ = some (.int .i64 q8) ∧ W.cell? ⟨g, 9, none⟩ = some (.int .i64 q9) ∧ W.cell? ⟨g, 10, none⟩ = some (.int .i64 q10) ∧ W.cell? ⟨g, 11, none⟩ = some v ∧ W.cell? P = some (.int .i64 d) ∧ W.cell? ⟨P.block, P.off + 1, none⟩ = some (.int .i64 i) ∧ W.cell? ⟨P.block, P.off + 2, none⟩ = some (.int .i64 p) ∧ W.cell? ⟨P.block, P.off + 3, none⟩ = some (.int .i64 k)
theorem tcTX_of {g : Nat} {q0 q1 q2 q3 q4 q5 q6 q7 q8 q9 q10 : Int} {v : Value} {P : Addr} {d i p k : Int} {W : World} (e : W.heap[g]? = some (tabO q0 q1 q2 q3 q4 q5 q6 q7 q8 q9 q10 v)) (f : W.cell? P = some (.int .i64 d) ∧ W.cell? ⟨P.block, P.off + 1, none⟩ = some (.int .i64 i) ∧ W.cell? ⟨P.block, P.off + 2, none⟩ = some (.int .i64 p) ∧ W.cell? ⟨P.block, P.off + 3, none⟩ = some (.int .i64 k)) : tcTX g q0 q1 q2 q3 q4 q5 q6 q7 q8 q9 q10 v P d i p k W :=
  ⟨(blk_cell e 0).trans rfl, (blk_cell e 1).trans rfl, (blk_cell e 2).trans rfl, (blk_cell e 3).trans rfl, (blk_cell e 4).trans rfl, (blk_cell e 5).trans rfl, (blk_cell e 6).trans rfl, (blk_cell e 7).trans rfl, (blk_cell e 8).trans rfl, (blk_cell e 9).trans rfl, (blk_cell e 10).trans rfl, (blk_cell e 11).trans rfl, f⟩
theorem act_at {W : World} {ad : Addr} {n : Nat} {xs : List S40} (h : Kd.C k40 W (some ad) n xs) (j : Nat) (hj : j < n) : W.cell? (ad.add (j * 4)) = some (.int .i64 (rd_T40 xs j).f0) ∧ W.cell? ⟨(ad.add (j * 4)).block, (ad.add (j * 4)).off + 1, none⟩ = some (.int .i64 (rd_T40 xs j).f1) ∧ W.cell? ⟨(ad.add (j * 4)).block, (ad.add (j * 4)).off + 2, none⟩ = some (.int .i64 (rd_T40 xs j).f2) ∧ W.cell? ⟨(ad.add (j * 4)).block, (ad.add (j * 4)).off + 3, none⟩ = some (.int .i64 (rd_T40 xs j).f3) := by
  obtain ⟨ad', e, h0, h1, h2, h3⟩ := at_T40 h (j : Int) (by omega) (by omega)
  cases e
  simp only [Int.toNat_natCast] at h0 h1 h2 h3
  exact ⟨h0, h1, h2, h3⟩
theorem new_ok (id m u b c z s me o a l : Int) (h : checkC id m u b c z s me o a l = 0) : lzone_New.f id m u b c z s me o a l = some (id, m, u, b, c, z, s, me, o, a, l, List.replicate z.toNat z59, 0) := by
  have hb := okC_bd (checkC_ok h).1
  unfold lzone_New.f conf_Check.f
  rw [Option.bind_some, if_pos h, if_pos (by omega), if_pos (by omega)]
theorem new_no (id m u b c z s me o a l : Int) (h : ¬ checkC id m u b c z s me o a l = 0) : lzone_New.f id m u b c z s me o a l = some (0, 0, 0, 0, 0, 0, 0, 0, 0, 0, 0, [], checkC id m u b c z s me o a l) := by
  unfold lzone_New.f conf_Check.f
  rw [Option.bind_some, if_neg h]
def T6_7 : Bool × List (List Nat × List Nat) := (true, [([], []), ([], []), ([], []), ([1, 2], [1, 2]), ([3], [3]), ([0, 4], [0, 4]), ([5], [5]), ([6], [6]), ([6], [6]), ([], []), ([9, 7, 5, 0, 1, 2, 3, 4, 5, 6, 7, 9], [7, 9]), ([8, 10, 0, 1, 2, 3, 4, 5, 6, 7, 8, 9, 10], [8])])
end Go.Proofs.Ytgckcaoncjhgbaa
namespace Go.Proofs.Ytgckcaoncjhgbaa
open Go.RowKit Go.Proofs.Ytgckcaoncjhgbaa.PL Go.Proofs.YtgckcaoncjhgbaaW.PrintWords Go.Proofs.YtgckcaoncjhgbaaW.PrintLast
set_option linter.unusedVariables false
set_option linter.unusedSimpArgs false
attribute [local go_sem] List.getElem?_toArray List.getElem?_cons_succ List.getElem?_cons_zero
-- lzone_New.calls revetmentref07_Check.calls
theorem act_at2 {W : World} {ad : Addr} {n : Nat} {xs : List S40} (h : Kd.C k40 W (some ad) n xs) (j : Nat) (hj : j < n) : W.cell? (ad.add (j * 4)) = some (.int .i64 (rd_T40 xs j).f0) ∧ W.cell? ⟨(ad.add (j * 4)).block, (ad.add (j * 4)).off + 1, none⟩ = some (.int .i64 (rd_T40 xs j).f1) ∧ W.cell? ⟨(ad.add (j * 4)).block, (ad.add (j * 4)).off + 2, none⟩ = some (.int .i64 (rd_T40 xs j).f2) ∧ W.cell? ⟨(ad.add (j * 4)).block, (ad.add (j * 4)).off + 3, none⟩ = some (.int .i64 (rd_T40 xs j).f3) := act_at h j hj
/-- A table that is an answer, as a fact that stays. -/
def TdF (id m u b c z s me o a l : Int) (r : Option (List S59)) (L : List S59) (sl : Value) (base : Nat) (v : Value) : Fct where
  P := fun W => TabD id m u b c z s me o a l r L sl base W v
  T := [59]
  below := fun hb h => TabD_below h hb
  set := fun {w w' g i t ys cs} hw hb ht h => by
    rcases h with (h | ⟨L', y, h1, h2, h3⟩) | h
    · exact .inl (.inl h)
    · refine .inl (.inr ⟨L', y, h1, h2, st_R hw h3 hb (fun q hq => not_mem_of ht q ?_)⟩)
      have h4 : q ∈ [59] := hq
      exact h4
    · exact .inr h
theorem TabD_none {id m u b c z s me o a l : Int} {L : List S59} {sl v : Value} {base : Nat} {W : World} (h : TabD id m u b c z s me o a l none L sl base W v) : v = tabV 0 0 0 0 0 0 0 0 0 0 0 (.slice none 0 0) := by
  rcases h with (⟨_, rfl⟩ | ⟨L', y, h1, _⟩) | ⟨h1, _⟩
  · rfl
  · cases h1
  · cases h1
theorem tab_inj {q0 q1 q2 q3 q4 q5 q6 q7 q8 q9 q10 p0 p1 p2 p3 p4 p5 p6 p7 p8 p9 p10 : Int} {A B : Option Addr} {n k m j : Nat} (h : tabV q0 q1 q2 q3 q4 q5 q6 q7 q8 q9 q10 (.slice A n k) = tabV p0 p1 p2 p3 p4 p5 p6 p7 p8 p9 p10 (.slice B m j)) : q0 = p0 ∧ q1 = p1 ∧ q2 = p2 ∧ q3 = p3 ∧ q4 = p4 ∧ q5 = p5 ∧ q6 = p6 ∧ q7 = p7 ∧ q8 = p8 ∧ q9 = p9 ∧ q10 = p10 ∧ A = B ∧ n = m ∧ k = j := by
  simpa using h
theorem doesZ_none {id m u b c z s me o a l : Int} {L : List S59} {x : S40} (h : ¬ (doesZ id m u b c z s me o a l L x).2 = 0) (hd : ¬ x.f0 = 1) : (doesZ id m u b c z s me o a l L x).1 = none := by
  unfold doesZ at h ⊢
  rw [if_neg hd] at h ⊢
  by_cases e0 : x.f0 = 0
  · rw [if_pos e0] at h ⊢; rcases writeZ_one (L := L) x.f1 x.f2 x.f3 with ⟨_, h1⟩ | ⟨h1, _⟩; exact h1; exact absurd h1 h
  rw [if_neg e0] at h ⊢
  by_cases e2 : x.f0 = 2
  · rw [if_pos e2] at h ⊢; rcases resetZ_one (L := L) x.f1 with ⟨_, h1⟩ | ⟨h1, _⟩; exact h1; exact absurd h1 h
  rw [if_neg e2] at h ⊢
  by_cases e3 : x.f0 = 3
  · rw [if_pos e3] at h ⊢; rcases finishZ_one (L := L) x.f1 with ⟨_, h1⟩ | ⟨h1, _⟩; exact h1; exact absurd h1 h
  rw [if_neg e3] at h ⊢
  by_cases e4 : x.f0 = 4
  · rw [if_pos e4] at h ⊢; rcases openZ_one (L := L) x.f1 with ⟨_, h1⟩ | ⟨h1, _⟩; exact h1; exact absurd h1 h
  rw [if_neg e4] at h ⊢
  by_cases e5 : x.f0 = 5
  · rw [if_pos e5] at h ⊢; rcases closeZ_one (L := L) x.f1 with ⟨_, h1⟩ | ⟨h1, _⟩; exact h1; exact absurd h1 h
  rw [if_neg e5] at h; exact absurd rfl h
def T_revetmentref17_New_1 : Bool × List (List Nat × List Nat) := (true, [([], []), ([], []), ([1], [1]), ([2, 2], [2]), ([0, 3], [0, 3]), ([4, 0, 1, 2, 3, 4], [4])])
theorem tab_revetmentref17_New_1 : rtab .any (opsOf Try.f15 1) = T_revetmentref17_New_1 := by kernel_rfl
theorem bits_revetmentref17_New_1 : waitsOk T_revetmentref17_New_1.2 [0, 0, 2, 6, 15, 31] = true := by kernel_rfl
set_option maxHeartbeats 1000000 in
set_option maxRecDepth 100000 in
theorem rnew_any (id m u b c z s me o a l : Int) (w : World) (z0 : 0 ≤ z) (z1 : z ≤ 64) :
    Calls Try.prog 15 #[.agg #[.int .i64 id, .int .i64 m, .int .i64 u, .int .i64 b, .int .i64 c, .int .i64 z, .int .i64 s, .int .i64 me, .int .i64 o, .int .i64 a, .int .i64 l]] w fun e w' => ∃ (A2 : Option Addr) (k2 : Nat), e = .returned (tabV id m u b c z s me o a l (.slice A2 z.toNat k2)) ∧ Kd.R k59 59 w' w.heap.size (fun _ => True) (.slice A2 z.toNat k2) (List.replicate z.toNat z59) ∧ Below w.heap.size w w' := by
  have H := Lib.hid (Pk.start w)
  have hln : z.toNat * 24 ≤ 281474976710656 := by omega
  go_enter Try.func15, Try.ntmps15
  go_wp2_with first
    | (apply bx 1 #[.int .i64 id, .int .i64 m, .int .i64 u, .int .i64 b, .int .i64 c, .int .i64 z, .int .i64 s, .int .i64 me, .int .i64 o, .int .i64 a, .int .i64 l] 23; intro gC hg W1 hx hb; replace H := Lib.hid (H.out.made hx hb hg); clear hb hx hg; have cC := H.out.cell 0 rfl)
    | (apply bx 2 #[.int .i64 0, .int .i64 0, .int .i64 0, .int .i64 0, .int .i64 0, .int .i64 0, .int .i64 0, .int .i64 0, .int .i64 0, .int .i64 0, .int .i64 0, .slice none 0 0] 35; intro gR hg W2 hx hb; clear cC; replace H := Lib.hid (H.out.made hx hb hg); clear hb hx hg; have cR := H.out.cell 0 rfl; have cC := H.out.cell 1 rfl)
  clear cR cC
  refine start_ (n := 6) (S := fun W => (∀ j_, W.cell? ⟨gC, j_, none⟩ = (#[.int .i64 id, .int .i64 m, .int .i64 u, .int .i64 b, .int .i64 c, .int .i64 z, .int .i64 s, .int .i64 me, .int .i64 o, .int .i64 a, .int .i64 l] : Array Value)[j_]?)) (ds := []) (bq 6 0) (by kernel_rfl) rfl (by kernel_rfl) (H.out.drew.cell 1 rfl) (fun hHeld => ?_)
  refine with_tabW tab_revetmentref17_New_1 bits_revetmentref17_New_1 (fun HT_ HW_ => ?_)
  have zH := H.out.drew
  generalize W2.drew = W3 at zH hHeld ⊢
  replace H := Lib.hid zH; clear zH
  apply tw 0 3 (bq 6 1) HT_ HW_ hHeld
  apply pu 1 4 (bq 6 3) HT_
  apply tw 2 5 (bq 6 7) HT_ HW_ hHeld
  apply on 3 (some 6) (bq 6 15) HT_; intro K hK
  have cR := H.out.cell 0 rfl
  have cC := H.out.cell 1 rfl
  refine Kd.R_make_step k59 w.heap.size 59 (by rfl) (N := 6) rfl 25 _ _ rfl z rfl rfl Try.underlying25 (.agg #[(.int .i64 0), (.int .i64 0), (.int .i64 0)]) 24 info59 rfl (by decide) (by omega) z59 (ok := fun _ => True) (okp := fun _ => True) (k59_mkM _ _ _ z59) (fun _ hk => hk) trivial (z0) (hln) H.out.below H.out.below.size ?_
  intro v_ W4 hR hB_ hgr_ hnew_
  obtain ⟨AL, kL, rfl⟩ := Kd.R_slice hR
  simp only [List.length_replicate] at hR ⊢
  clear cR cC
  have hb := grown_below hgr_
  replace H := Lib.hid ((H.out.called hb).row (RowF k59 59 w.heap.size (.slice AL z.toNat kL) (List.replicate z.toNat z59)) hR)
  clear hb hR hB_ hgr_ hnew_
  refine hK.out _ _ (H.out.cell 1 rfl) (fun hHeld => ?_)
  clear hK K
  apply nm 0
  apply pu 4 7 (bq 6 31) HT_
  apply on 5 none (bq 6 63) HT_; intro K hK
  have cR := H.out.cell 0 rfl
  have cC := H.out.cell 1 rfl
  have fR := H.out.froz 0 rfl
  apply svs 35 2 gR 0 [.int .i64 id, .int .i64 m, .int .i64 u, .int .i64 b, .int .i64 c, .int .i64 z, .int .i64 s, .int .i64 me, .int .i64 o, .int .i64 a, .int .i64 l, .slice AL z.toNat kL]
  intro W5 hw
  clear fR
  clear cR cC
  replace H := Lib.hid (H.out.putw 0 rfl hw rfl rfl)
  clear hw
  refine hK.out _ _ (H.out.cell 1 rfl) (fun hHeld => ?_)
  clear hK K
  refine done_ (done_of HT_.out (by kernel_rfl)) ?_
  have cR := H.out.cell 0 rfl
  have cC := H.out.cell 1 rfl
  go_wp2
  refine bodyPost_ret (results_cell_row rfl _ _ gR 35 #[.int .i64 id, .int .i64 m, .int .i64 u, .int .i64 b, .int .i64 c, .int .i64 z, .int .i64 s, .int .i64 me, .int .i64 o, .int .i64 a, .int .i64 l, .slice AL z.toNat kL] (0, 0) _ rfl (H.out.at_ 0 rfl) Try.underlying35 rfl (by kernel_rfl)) rfl ?_
  exact ⟨_, _, rfl, (H.out.fact 0 rfl), H.out.below⟩
def T_revetmentlaw17_LzonePlays_2 : Bool × List (List Nat × List Nat) := (true, [([], []), ([0], [0]), ([], []), ([2, 1], [2]), ([1, 3], [1, 3])])
theorem tab_revetmentlaw17_LzonePlays_2 : rtab .any (opsOf Try.f3 2) = T_revetmentlaw17_LzonePlays_2 := by kernel_rfl
theorem bits_revetmentlaw17_LzonePlays_2 : waitsOk T_revetmentlaw17_LzonePlays_2.2 [0, 1, 0, 7, 15] = true := by kernel_rfl
def T_revetmentlaw17_LzonePlays_10 : Bool × List (List Nat × List Nat) := (true, [([], []), ([], []), ([], []), ([1, 2], [1, 2]), ([3], [3]), ([0, 4], [0, 4]), ([5], [5]), ([6], [6]), ([6], [6]), ([], []), ([9, 7, 5, 0, 1, 2, 3, 4, 5, 6, 7, 9], [7, 9]), ([8, 10, 0, 1, 2, 3, 4, 5, 6, 7, 8, 9, 10], [8])])
theorem tab_revetmentlaw17_LzonePlays_10 : rtab .any (opsOf Try.f3 10) = T_revetmentlaw17_LzonePlays_10 := by kernel_rfl
theorem bits_revetmentlaw17_LzonePlays_10 : waitsOk T_revetmentlaw17_LzonePlays_10.2 [0, 0, 0, 6, 14, 31, 63, 127, 127, 0, 767, 2047] = true := by kernel_rfl
def T_revetmentlaw17_LzonePlays_11 : Bool × List (List Nat × List Nat) := (true, [([], []), ([], []), ([], []), ([1, 2], [1, 2]), ([3], [3]), ([0, 4], [0, 4]), ([5], [5]), ([6], [6]), ([6], [6]), ([], []), ([9, 7, 5, 0, 1, 2, 3, 4, 5, 6, 7, 9], [7, 9]), ([8, 10, 0, 1, 2, 3, 4, 5, 6, 7, 8, 9, 10], [8])])
theorem tab_revetmentlaw17_LzonePlays_11 : rtab .any (opsOf Try.f3 11) = T_revetmentlaw17_LzonePlays_11 := by kernel_rfl
theorem bits_revetmentlaw17_LzonePlays_11 : waitsOk T_revetmentlaw17_LzonePlays_11.2 [0, 0, 0, 6, 14, 31, 63, 127, 127, 0, 767, 2047] = true := by kernel_rfl
def T_revetmentlaw17_LzonePlays_15 : Bool × List (List Nat × List Nat) := (true, [([], []), ([], []), ([0, 0], [0]), ([1, 2, 0, 1, 2], [1])])
theorem tab_revetmentlaw17_LzonePlays_15 : rtab .any (opsOf Try.f3 15) = T_revetmentlaw17_LzonePlays_15 := by kernel_rfl
theorem bits_revetmentlaw17_LzonePlays_15 : waitsOk T_revetmentlaw17_LzonePlays_15.2 [0, 0, 1, 7] = true := by kernel_rfl
set_option maxHeartbeats 4000000 in
set_option maxRecDepth 100000 in
theorem plays_no (id m u b c z s me o a l : Int) (Aa : Option Addr) (ca : Nat) (xs : List S40) (w : World) (hr : Kd.C k40 w Aa xs.length xs) (hc : xs.length ≤ ca) (hk : ¬ checkC id m u b c z s me o a l = 0) :
    Calls Try.prog 3 #[.agg #[.int .i64 id, .int .i64 m, .int .i64 u, .int .i64 b, .int .i64 c, .int .i64 z, .int .i64 s, .int .i64 me, .int .i64 o, .int .i64 a, .int .i64 l], .slice Aa xs.length ca] w fun e w' => e = .returned (.bool true) ∧ Below w.heap.size w w' := by
  have H := Lib.hid (Pk.start w)
  obtain ⟨n, hn⟩ : ∃ n, n = xs.length := ⟨_, rfl⟩
  rw [← hn] at hr ⊢
  have HX := Lib.hid hr
  have hck := fun (r : Int) (W : World) (e : checkC id m u b c z s me o a l = r) => revetmentref07_Check.calls id m u b c z s me o a l r W (by unfold revetmentref07_Check.f; rw [e])
  have hnew := fun W => lzone_New.calls id m u b c z s me o a l 0 0 0 0 0 0 0 0 0 0 0 [] (checkC id m u b c z s me o a l) W (new_no id m u b c z s me o a l hk)
  have hck2 := fun W => hck _ W rfl
  clear hck
  generalize checkC id m u b c z s me o a l = E at hnew hk hck2
  have kb : (E == 0) = false := beq_eq_false_iff_ne.mpr hk; have kb2 : (E != 0) = true := bne_iff_ne.mpr hk
  have HN := Lib.hid hnew; have HK := Lib.hid hck2; clear hnew hck2 hr hn
  go_enter Try.func3, Try.ntmps3
  go_wp2_with first
    | (apply bx 2 #[.int .i64 id, .int .i64 m, .int .i64 u, .int .i64 b, .int .i64 c, .int .i64 z, .int .i64 s, .int .i64 me, .int .i64 o, .int .i64 a, .int .i64 l] 23; intro gC hg W1 hx hb; replace H := Lib.hid (H.out.made hx hb hg); clear hb hx hg; have cC := H.out.cell 0 rfl)
    | (go_at_call 11; refine (HN.out _).mono ?_; rintro e W2 ⟨v, rfl, hR, hb⟩; clear cC; obtain ⟨A1, k1, rfl⟩ := Kd.R_slice hR; simp only [List.length_replicate, List.length_nil] at hR; replace H := Lib.hid (H.out.called hb); clear hR; clear hb; have cC := H.out.cell 0 rfl)
    | (apply bx 5 #[.int .i64 0, .int .i64 0, .int .i64 0, .int .i64 0, .int .i64 0, .int .i64 0, .int .i64 0, .int .i64 0, .int .i64 0, .int .i64 0, .int .i64 0, .slice none 0 0] 27; intro gT hg W3 hx hb; clear cC; replace H := Lib.hid (H.out.made hx hb hg); clear hb hx hg; have cT := H.out.cell 0 rfl; have cC := H.out.cell 1 rfl)
    | (have fT := H.out.froz 0 rfl; apply sv 27 5 gT 0 [.int .i64 0, .int .i64 0, .int .i64 0, .int .i64 0, .int .i64 0, .int .i64 0, .int .i64 0, .int .i64 0, .int .i64 0, .int .i64 0, .int .i64 0, .slice A1 0 k1]; intro W4 hw; clear fT; clear cT cC; replace H := Lib.hid (H.out.putw 0 rfl hw rfl rfl); clear hw; have cT := H.out.cell 0 rfl; have cC := H.out.cell 1 rfl)
  clear cT cC
  refine start_ (n := 5) (S := fun W => (∀ j_, W.cell? ⟨gC, j_, none⟩ = (#[.int .i64 id, .int .i64 m, .int .i64 u, .int .i64 b, .int .i64 c, .int .i64 z, .int .i64 s, .int .i64 me, .int .i64 o, .int .i64 a, .int .i64 l] : Array Value)[j_]?)) (ds := []) (bq 5 0) (by kernel_rfl) rfl (by kernel_rfl) (H.out.drew.cell 1 rfl) (fun hHeld => ?_)
  refine with_tabW tab_revetmentlaw17_LzonePlays_2 bits_revetmentlaw17_LzonePlays_2 (fun HT_ HW_ => ?_)
  have zH := H.out.drew
  generalize W4.drew = W5 at zH hHeld ⊢
  replace H := Lib.hid zH; clear zH
  apply pu 0 20 (bq 5 1) HT_
  apply tw 2 22 (bq 5 5) HT_ HW_ hHeld
  apply on 1 (some 21) (bq 5 7) HT_; intro K hK
  refine gs Try.func12 #[.int .i64 E] ?_
  refine (code_any _ _).mono ?_
  rintro e W6 ⟨rfl, hb⟩
  refine ⟨_, rfl, ?_⟩
  replace H := Lib.hid (H.out.called hb)
  clear hb
  refine hK.out _ _ (H.out.cell 1 rfl) (fun hHeld => ?_)
  clear hK K
  apply nm 0
  apply on 3 (some 23) (bq 5 15) HT_; intro K hK
  refine gs Try.func13 #[.agg #[.int .i64 id, .int .i64 m, .int .i64 u, .int .i64 b, .int .i64 c, .int .i64 z, .int .i64 s, .int .i64 me, .int .i64 o, .int .i64 a, .int .i64 l]] ?_
  refine (HK.out _).mono ?_
  rintro e W7 ⟨rfl, hb⟩
  refine ⟨_, rfl, ?_⟩
  replace H := Lib.hid (H.out.called hb)
  clear hb
  refine hK.out _ _ (H.out.cell 1 rfl) (fun hHeld => ?_)
  clear hK K
  apply nm 0
  apply pu 4 24 (bq 5 31) HT_
  refine done_ (done_of HT_.out (by kernel_rfl)) ?_
  have cT := H.out.cell 0 rfl
  have cC := H.out.cell 1 rfl
  have tok1 : True := trivial
  go_wp2_with first
    | (go_at_call 12; have _t := tok1; refine (code_any _ _).mono ?_; rintro e W8 ⟨rfl, hb⟩; clear cT cC; replace H := Lib.hid (H.out.called hb); clear hb; clear tok1; have cT := H.out.cell 0 rfl; have cC := H.out.cell 1 rfl)
  have tok2 : True := trivial
  go_wp2_with first
    | (go_at_call 12; have _t := tok2; refine (code_any _ _).mono ?_; rintro e W9 ⟨rfl, hb⟩; clear cT cC; replace H := Lib.hid (H.out.called hb); clear hb; clear tok2; have cT := H.out.cell 0 rfl; have cC := H.out.cell 1 rfl)
    | (go_at_call 14; refine (live_any _).mono ?_; rintro e W10 ⟨rfl, hb⟩; clear cT cC; replace H := Lib.hid (H.out.called hb); clear hb; have cT := H.out.cell 0 rfl; have cC := H.out.cell 1 rfl)
  go_ret
  exact ⟨rfl, H.out.below⟩
set_option maxHeartbeats 4000000 in
set_option maxRecDepth 100000 in
theorem plays_much (id m u b c z s me o a l : Int) (Aa : Option Addr) (ca : Nat) (xs : List S40) (w : World) (hr : Kd.C k40 w Aa xs.length xs) (hc : xs.length ≤ ca) (hk : checkC id m u b c z s me o a l = 0) (h60 : 60 < xs.length) :
    Calls Try.prog 3 #[.agg #[.int .i64 id, .int .i64 m, .int .i64 u, .int .i64 b, .int .i64 c, .int .i64 z, .int .i64 s, .int .i64 me, .int .i64 o, .int .i64 a, .int .i64 l], .slice Aa xs.length ca] w fun e w' => e = .returned (.bool true) ∧ Below w.heap.size w w' := by
  have H := Lib.hid (Pk.start w)
  obtain ⟨n, hn⟩ : ∃ n, n = xs.length := ⟨_, rfl⟩
  rw [← hn] at hr ⊢
  have HX := Lib.hid hr
  have hck := fun (r : Int) (W : World) (e : checkC id m u b c z s me o a l = r) => revetmentref07_Check.calls id m u b c z s me o a l r W (by unfold revetmentref07_Check.f; rw [e])
  have hb_ := okC_bd (checkC_ok hk).1
  have hnew := fun W => lzone_New.calls id m u b c z s me o a l id m u b c z s me o a l _ 0 W (new_ok id m u b c z s me o a l hk)
  have HN := Lib.hid hnew; have HK := Lib.hid (fun W => hck 0 W hk); have HRN := Lib.hid (fun W => rnew_any id m u b c z s me o a l W (by omega) (by omega)); have HI0 := Lib.hid (Geo.inv_new hk)
  clear hnew hck hr hb_
  have c60 : (60 : Int) < (n : Int) := by omega
  clear hn
  go_enter Try.func3, Try.ntmps3
  go_wp2_with first
    | (apply bx 2 #[.int .i64 id, .int .i64 m, .int .i64 u, .int .i64 b, .int .i64 c, .int .i64 z, .int .i64 s, .int .i64 me, .int .i64 o, .int .i64 a, .int .i64 l] 23; intro gC hg W1 hx hb; replace H := Lib.hid (H.out.made hx hb hg); clear hb hx hg; have cC := H.out.cell 0 rfl)
    | (go_at_call 11; refine (HN.out _).mono ?_; rintro e W2 ⟨v, rfl, hR, hb⟩; clear cC; obtain ⟨A1, k1, rfl⟩ := Kd.R_slice hR; simp only [List.length_replicate, List.length_nil] at hR; replace H := Lib.hid ((H.out.called hb).row (RowF k59 59 w.heap.size (.slice A1 z.toNat k1) (List.replicate z.toNat z59)) (Kd.R_lower (hR) H.out.below.size)); clear hR; clear hb; have cC := H.out.cell 0 rfl)
    | (apply bx 5 #[.int .i64 0, .int .i64 0, .int .i64 0, .int .i64 0, .int .i64 0, .int .i64 0, .int .i64 0, .int .i64 0, .int .i64 0, .int .i64 0, .int .i64 0, .slice none 0 0] 27; intro gT hg W3 hx hb; clear cC; replace H := Lib.hid (H.out.made hx hb hg); clear hb hx hg; have cT := H.out.cell 0 rfl; have cC := H.out.cell 1 rfl)
    | (have fT := H.out.froz 0 rfl; apply sv 27 5 gT 0 [.int .i64 id, .int .i64 m, .int .i64 u, .int .i64 b, .int .i64 c, .int .i64 z, .int .i64 s, .int .i64 me, .int .i64 o, .int .i64 a, .int .i64 l, .slice A1 z.toNat k1]; intro W4 hw; clear fT; clear cT cC; replace H := Lib.hid (H.out.putw 0 rfl hw rfl rfl); clear hw; have cT := H.out.cell 0 rfl; have cC := H.out.cell 1 rfl)
  clear cT cC
  refine start_ (n := 5) (S := fun W => (∀ j_, W.cell? ⟨gC, j_, none⟩ = (#[.int .i64 id, .int .i64 m, .int .i64 u, .int .i64 b, .int .i64 c, .int .i64 z, .int .i64 s, .int .i64 me, .int .i64 o, .int .i64 a, .int .i64 l] : Array Value)[j_]?)) (ds := []) (bq 5 0) (by kernel_rfl) rfl (by kernel_rfl) (H.out.drew.cell 1 rfl) (fun hHeld => ?_)
  refine with_tabW tab_revetmentlaw17_LzonePlays_2 bits_revetmentlaw17_LzonePlays_2 (fun HT_ HW_ => ?_)
  have zH := H.out.drew
  generalize W4.drew = W5 at zH hHeld ⊢
  replace H := Lib.hid zH; clear zH
  apply pu 0 20 (bq 5 1) HT_
  apply tw 2 22 (bq 5 5) HT_ HW_ hHeld
  apply on 1 (some 21) (bq 5 7) HT_; intro K hK
  refine gs Try.func12 #[.int .i64 0] ?_
  refine (code_any _ _).mono ?_
  rintro e W6 ⟨rfl, hb⟩
  refine ⟨_, rfl, ?_⟩
  replace H := Lib.hid (H.out.called hb)
  clear hb
  refine hK.out _ _ (H.out.cell 1 rfl) (fun hHeld => ?_)
  clear hK K
  apply nm 0
  apply on 3 (some 23) (bq 5 15) HT_; intro K hK
  refine gs Try.func13 #[.agg #[.int .i64 id, .int .i64 m, .int .i64 u, .int .i64 b, .int .i64 c, .int .i64 z, .int .i64 s, .int .i64 me, .int .i64 o, .int .i64 a, .int .i64 l]] ?_
  refine (HK.out _).mono ?_
  rintro e W7 ⟨rfl, hb⟩
  refine ⟨_, rfl, ?_⟩
  replace H := Lib.hid (H.out.called hb)
  clear hb
  refine hK.out _ _ (H.out.cell 1 rfl) (fun hHeld => ?_)
  clear hK K
  apply nm 0
  apply pu 4 24 (bq 5 31) HT_
  refine done_ (done_of HT_.out (by kernel_rfl)) ?_
  have cT := H.out.cell 0 rfl
  have cC := H.out.cell 1 rfl
  have tok1 : True := trivial
  go_wp2_with first
    | (go_at_call 12; have _t := tok1; refine (code_any _ _).mono ?_; rintro e W8 ⟨rfl, hb⟩; clear cT cC; replace H := Lib.hid (H.out.called hb); clear hb; clear tok1; have cT := H.out.cell 0 rfl; have cC := H.out.cell 1 rfl)
  have tok2 : True := trivial
  go_wp2_with first
    | (go_at_call 12; have _t := tok2; refine (code_any _ _).mono ?_; rintro e W9 ⟨rfl, hb⟩; clear cT cC; replace H := Lib.hid (H.out.called hb); clear hb; clear tok2; have cT := H.out.cell 0 rfl; have cC := H.out.cell 1 rfl)
    | (go_at_call 14; refine (live_any _).mono ?_; rintro e W10 ⟨rfl, hb⟩; clear cT cC; replace H := Lib.hid (H.out.called hb); clear hb; have cT := H.out.cell 0 rfl; have cC := H.out.cell 1 rfl)
  go_ret
  exact ⟨rfl, H.out.below⟩
set_option maxHeartbeats 4000000 in
set_option maxRecDepth 100000 in
theorem plays_go (id m u b c z s me o a l : Int) (Aa : Option Addr) (ca : Nat) (xs : List S40) (w : World) (hr : Kd.C k40 w Aa xs.length xs) (hc : xs.length ≤ ca) (hk : checkC id m u b c z s me o a l = 0) (h60 : ¬ 60 < xs.length) :
    Calls Try.prog 3 #[.agg #[.int .i64 id, .int .i64 m, .int .i64 u, .int .i64 b, .int .i64 c, .int .i64 z, .int .i64 s, .int .i64 me, .int .i64 o, .int .i64 a, .int .i64 l], .slice Aa xs.length ca] w fun e w' => e = .returned (.bool true) ∧ Below w.heap.size w w' := by
  have H := Lib.hid (Pk.start w)
  obtain ⟨n, hn⟩ : ∃ n, n = xs.length := ⟨_, rfl⟩
  rw [← hn] at hr ⊢
  have HX := Lib.hid hr
  have hck := fun (r : Int) (W : World) (e : checkC id m u b c z s me o a l = r) => revetmentref07_Check.calls id m u b c z s me o a l r W (by unfold revetmentref07_Check.f; rw [e])
  have hb_ := okC_bd (checkC_ok hk).1
  have hnew := fun W => lzone_New.calls id m u b c z s me o a l id m u b c z s me o a l _ 0 W (new_ok id m u b c z s me o a l hk)
  have HN := Lib.hid hnew; have HK := Lib.hid (fun W => hck 0 W hk); have HRN := Lib.hid (fun W => rnew_any id m u b c z s me o a l W (by omega) (by omega)); have HI0 := Lib.hid (Geo.inv_new hk)
  clear hnew hck hr hb_
  have c60 : ¬ (60 : Int) < (n : Int) := by omega
  have Hn := Lib.hid hn
  clear hn
  go_enter Try.func3, Try.ntmps3
  go_wp2_with first
    | (apply bx 2 #[.int .i64 id, .int .i64 m, .int .i64 u, .int .i64 b, .int .i64 c, .int .i64 z, .int .i64 s, .int .i64 me, .int .i64 o, .int .i64 a, .int .i64 l] 23; intro gC hg W1 hx hb; replace H := Lib.hid (H.out.made hx hb hg); clear hb hx hg; have cC := H.out.cell 0 rfl)
    | (go_at_call 11; refine (HN.out _).mono ?_; rintro e W2 ⟨v, rfl, hR, hb⟩; clear cC; obtain ⟨A1, k1, rfl⟩ := Kd.R_slice hR; simp only [List.length_replicate, List.length_nil] at hR; replace H := Lib.hid ((H.out.called hb).row (RowF k59 59 w.heap.size (.slice A1 z.toNat k1) (List.replicate z.toNat z59)) (Kd.R_lower (hR) H.out.below.size)); clear hR; clear hb; have cC := H.out.cell 0 rfl)
    | (apply bx 5 #[.int .i64 0, .int .i64 0, .int .i64 0, .int .i64 0, .int .i64 0, .int .i64 0, .int .i64 0, .int .i64 0, .int .i64 0, .int .i64 0, .int .i64 0, .slice none 0 0] 27; intro gT hg W3 hx hb; clear cC; replace H := Lib.hid (H.out.made hx hb hg); clear hb hx hg; have cT := H.out.cell 0 rfl; have cC := H.out.cell 1 rfl)
    | (have fT := H.out.froz 0 rfl; apply sv 27 5 gT 0 [.int .i64 id, .int .i64 m, .int .i64 u, .int .i64 b, .int .i64 c, .int .i64 z, .int .i64 s, .int .i64 me, .int .i64 o, .int .i64 a, .int .i64 l, .slice A1 z.toNat k1]; intro W4 hw; clear fT; clear cT cC; replace H := Lib.hid (H.out.putw 0 rfl hw rfl rfl); clear hw; have cT := H.out.cell 0 rfl; have cC := H.out.cell 1 rfl)
  clear cT cC
  refine start_ (n := 5) (S := fun W => (∀ j_, W.cell? ⟨gC, j_, none⟩ = (#[.int .i64 id, .int .i64 m, .int .i64 u, .int .i64 b, .int .i64 c, .int .i64 z, .int .i64 s, .int .i64 me, .int .i64 o, .int .i64 a, .int .i64 l] : Array Value)[j_]?)) (ds := []) (bq 5 0) (by kernel_rfl) rfl (by kernel_rfl) (H.out.drew.cell 1 rfl) (fun hHeld => ?_)
  refine with_tabW tab_revetmentlaw17_LzonePlays_2 bits_revetmentlaw17_LzonePlays_2 (fun HT_ HW_ => ?_)
  have zH := H.out.drew
  generalize W4.drew = W5 at zH hHeld ⊢
  replace H := Lib.hid zH; clear zH
  apply pu 0 20 (bq 5 1) HT_
  apply tw 2 22 (bq 5 5) HT_ HW_ hHeld
  apply on 1 (some 21) (bq 5 7) HT_; intro K hK
  refine gs Try.func12 #[.int .i64 0] ?_
  refine (code_any _ _).mono ?_
  rintro e W6 ⟨rfl, hb⟩
  refine ⟨_, rfl, ?_⟩
  replace H := Lib.hid (H.out.called hb)
  clear hb
  refine hK.out _ _ (H.out.cell 1 rfl) (fun hHeld => ?_)
  clear hK K
  apply nm 0
  apply on 3 (some 23) (bq 5 15) HT_; intro K hK
  refine gs Try.func13 #[.agg #[.int .i64 id, .int .i64 m, .int .i64 u, .int .i64 b, .int .i64 c, .int .i64 z, .int .i64 s, .int .i64 me, .int .i64 o, .int .i64 a, .int .i64 l]] ?_
  refine (HK.out _).mono ?_
  rintro e W7 ⟨rfl, hb⟩
  refine ⟨_, rfl, ?_⟩
  replace H := Lib.hid (H.out.called hb)
  clear hb
  refine hK.out _ _ (H.out.cell 1 rfl) (fun hHeld => ?_)
  clear hK K
  apply nm 0
  apply pu 4 24 (bq 5 31) HT_
  refine done_ (done_of HT_.out (by kernel_rfl)) ?_
  have cT := H.out.cell 0 rfl
  have cC := H.out.cell 1 rfl
  have tok1 : True := trivial
  go_wp2_with first
    | (go_at_call 12; have _t := tok1; refine (code_any _ _).mono ?_; rintro e W8 ⟨rfl, hb⟩; clear cT cC; replace H := Lib.hid (H.out.called hb); clear hb; clear tok1; have cT := H.out.cell 0 rfl; have cC := H.out.cell 1 rfl)
  go_wp2_with first
    | (go_at_call 15; refine (HRN.out _).mono ?_; rintro e W9 ⟨A2, k2, rfl, hS, hb⟩; clear cT cC; replace H := Lib.hid ((H.out.called hb).row (RowF k59 59 w.heap.size (.slice A2 z.toNat k2) (List.replicate z.toNat z59)) (Kd.R_lower (hS) H.out.below.size)); clear hS; clear hb; have cT := H.out.cell 0 rfl; have cC := H.out.cell 1 rfl)
    | (apply bx 7 #[.int .i64 0, .int .i64 0, .int .i64 0, .int .i64 0, .int .i64 0, .int .i64 0, .int .i64 0, .int .i64 0, .int .i64 0, .int .i64 0, .int .i64 0, .slice none 0 0] 35; intro gQ hg W10 hx hb; clear cT cC; replace H := Lib.hid (H.out.made hx hb hg); clear hb hx hg; have cQ := H.out.cell 0 rfl; have cT := H.out.cell 1 rfl; have cC := H.out.cell 2 rfl)
    | (have fQ := H.out.froz 0 rfl; apply sv 35 7 gQ 0 [.int .i64 id, .int .i64 m, .int .i64 u, .int .i64 b, .int .i64 c, .int .i64 z, .int .i64 s, .int .i64 me, .int .i64 o, .int .i64 a, .int .i64 l, .slice A2 z.toNat k2]; intro W11 hw; clear fQ; clear cQ cT cC; replace H := Lib.hid (H.out.putw 0 rfl hw rfl rfl); clear hw; have cQ := H.out.cell 0 rfl; have cT := H.out.cell 1 rfl; have cC := H.out.cell 2 rfl)
  have hzl : (List.replicate z.toNat z59).length = z.toNat := List.length_replicate ..
  go_loopw [8] (fun v8 wr => ∃ (j : Nat) (L : List S59) (A : Option Addr) (k : Nat) (A3 : Option Addr) (k3 : Nat), v8 = .int .i64 j ∧ j ≤ n ∧ Hid (Geo.Inv id m u b c z s me o a l L) ∧ Hid (Pk w wr [⟨gQ, 35, #[.int .i64 id, .int .i64 m, .int .i64 u, .int .i64 b, .int .i64 c, .int .i64 z, .int .i64 s, .int .i64 me, .int .i64 o, .int .i64 a, .int .i64 l, .slice A3 L.length k3]⟩, ⟨gT, 27, #[.int .i64 id, .int .i64 m, .int .i64 u, .int .i64 b, .int .i64 c, .int .i64 z, .int .i64 s, .int .i64 me, .int .i64 o, .int .i64 a, .int .i64 l, .slice A L.length k]⟩, ⟨gC, 23, #[.int .i64 id, .int .i64 m, .int .i64 u, .int .i64 b, .int .i64 c, .int .i64 z, .int .i64 s, .int .i64 me, .int .i64 o, .int .i64 a, .int .i64 l]⟩] [RowF k59 59 w.heap.size (.slice A3 L.length k3) L, RowF k59 59 w.heap.size (.slice A L.length k) L])) (fun v8 _ => ((n : Int) - intOf v8).toNat)
  case atStart => exact ⟨0, _, A1, k1, A2, k2, rfl, by omega, HI0, Lib.hid (by rw [hzl]; exact H.out)⟩
  case round =>
    clear H cQ cT cC hzl
    obtain ⟨j, L, A, k, A3, k3, rfl, hj, HI, H⟩ := hrel
    by_cases hlt : j < n
    · have c1 : (j : Int) < (n : Int) := by omega
      obtain ⟨ad, e, -⟩ := at_T40 (Kd.C_below HX.out H.out.below) (j : Int) (by omega) (by omega)
      subst e
      have q1 : (0 : Int) ≤ (j : Int) := by omega
      have hle := (Kd.R_reads' (H.out.fact 1 rfl : Kd.R k59 59 wr w.heap.size (fun _ => True) (.slice A L.length k) L)).2.1; have hle3 := (Kd.R_reads' (H.out.fact 0 rfl : Kd.R k59 59 wr w.heap.size (fun _ => True) (.slice A3 L.length k3) L)).2.1
      have hlen := rightZ_len HI.out.1
      have hbz := okC_bd (checkC_ok hlen.1).1
      have hl64 : L.length ≤ 64 := hlen.2.2.1
      have hpos : ¬ (L.length : Int) = 0 := by have := hlen.2.1; omega
      clear hlen hbz
      have hdo := fun W (h : Kd.C k59 W A L.length L) => does_any id m u b c z s me o a l A k L (rd_T40 xs j) W h hle
      have hsh := fun W (h : Kd.C k59 W A3 L.length L) => should_any id m u b c z s me o a l A3 k3 L (rd_T40 xs j) W h hle3 (by omega)
      have hst := @Geo.inv_does id m u b c z s me o a l L (rd_T40 xs j) HI.out
      have hEn := @doesZ_none id m u b c z s me o a l L (rd_T40 xs j)
      have hon : (rd_T40 xs j).f0 = 1 → (doesZ id m u b c z s me o a l L (rd_T40 xs j)).1 = some L := fun h => by unfold doesZ; rw [if_neg (by omega), if_pos h]
      generalize doesZ id m u b c z s me o a l L (rd_T40 xs j) = rE at hdo hsh hst hEn hon
      obtain ⟨r, E⟩ := rE
      dsimp only at hdo hsh hst hEn hon
      have HD := Lib.hid hdo; have HS := Lib.hid hsh; have HST := Lib.hid hst; have HEN := Lib.hid hEn; have HON := Lib.hid hon; clear hdo hsh hst hEn hon hle hle3
      have cQ := H.out.cell 0 rfl
      have cT := H.out.cell 1 rfl
      have cC := H.out.cell 2 rfl
      go_wp2
      clear cQ cT cC
      refine start_ (n := 12) (S := fun W => (∀ j_, W.cell? ⟨gT, j_, none⟩ = (#[.int .i64 id, .int .i64 m, .int .i64 u, .int .i64 b, .int .i64 c, .int .i64 z, .int .i64 s, .int .i64 me, .int .i64 o, .int .i64 a, .int .i64 l, .slice A L.length k] : Array Value)[j_]?) ∧ (W.cell? (ad.add (j * 4)) = some (.int .i64 (rd_T40 xs j).f0) ∧ W.cell? ⟨(ad.add (j * 4)).block, (ad.add (j * 4)).off + 1, none⟩ = some (.int .i64 (rd_T40 xs j).f1) ∧ W.cell? ⟨(ad.add (j * 4)).block, (ad.add (j * 4)).off + 2, none⟩ = some (.int .i64 (rd_T40 xs j).f2) ∧ W.cell? ⟨(ad.add (j * 4)).block, (ad.add (j * 4)).off + 3, none⟩ = some (.int .i64 (rd_T40 xs j).f3))) (ds := []) (bq 12 0) (by kernel_rfl) rfl (by kernel_rfl) ⟨H.out.drew.cell 1 rfl, act_at2 (Kd.C_below HX.out (H.out.drew).below) j hlt⟩ (fun hHeld => ?_)
      refine with_tabW tab_revetmentlaw17_LzonePlays_10 bits_revetmentlaw17_LzonePlays_10 (fun HT_ HW_ => ?_)
      have zH := H.out.drew
      generalize wr.drew = W31 at zH hHeld ⊢
      replace H := Lib.hid zH; clear zH
      apply tw 0 54 (bq 12 1) HT_ HW_ hHeld
      apply pu 1 55 (bq 12 3) HT_
      apply pu 2 56 (bq 12 7) HT_
      apply pu 3 57 (bq 12 15) HT_
      apply tw 4 58 (bq 12 31) HT_ HW_ hHeld
      have b0 := Lib.hid (Below.refl W31.heap.size W31)
      refine join_ (σ := Int × Int × Int × Int × Int × Int × Int × Int × Int × Int × Int × Option Addr × Nat × Nat × Nat) 2 (bq 12 1023) (fun y => [(59, .tuple #[tabV y.1 y.2.1 y.2.2.1 y.2.2.2.1 y.2.2.2.2.1 y.2.2.2.2.2.1 y.2.2.2.2.2.2.1 y.2.2.2.2.2.2.2.1 y.2.2.2.2.2.2.2.2.1 y.2.2.2.2.2.2.2.2.2.1 y.2.2.2.2.2.2.2.2.2.2.1 (.slice y.2.2.2.2.2.2.2.2.2.2.2.1 y.2.2.2.2.2.2.2.2.2.2.2.2.1 y.2.2.2.2.2.2.2.2.2.2.2.2.2.1), .int .i64 E]), (53, .tuple #[tabV y.1 y.2.1 y.2.2.1 y.2.2.2.1 y.2.2.2.2.1 y.2.2.2.2.2.1 y.2.2.2.2.2.2.1 y.2.2.2.2.2.2.2.1 y.2.2.2.2.2.2.2.2.1 y.2.2.2.2.2.2.2.2.2.1 y.2.2.2.2.2.2.2.2.2.2.1 (.slice y.2.2.2.2.2.2.2.2.2.2.2.1 y.2.2.2.2.2.2.2.2.2.2.2.2.1 y.2.2.2.2.2.2.2.2.2.2.2.2.2.1), .int .i64 E]), (60, tabV y.1 y.2.1 y.2.2.1 y.2.2.2.1 y.2.2.2.2.1 y.2.2.2.2.2.1 y.2.2.2.2.2.2.1 y.2.2.2.2.2.2.2.1 y.2.2.2.2.2.2.2.2.1 y.2.2.2.2.2.2.2.2.2.1 y.2.2.2.2.2.2.2.2.2.2.1 (.slice y.2.2.2.2.2.2.2.2.2.2.2.1 y.2.2.2.2.2.2.2.2.2.2.2.2.1 y.2.2.2.2.2.2.2.2.2.2.2.2.2.1)), (61, .int .i64 E), (9, .pointer (some ⟨y.2.2.2.2.2.2.2.2.2.2.2.2.2.2, 0, none⟩))]) (fun y W => ((∀ j_, W.cell? ⟨gT, j_, none⟩ = (#[.int .i64 id, .int .i64 m, .int .i64 u, .int .i64 b, .int .i64 c, .int .i64 z, .int .i64 s, .int .i64 me, .int .i64 o, .int .i64 a, .int .i64 l, .slice A L.length k] : Array Value)[j_]?) ∧ (W.cell? (ad.add (j * 4)) = some (.int .i64 (rd_T40 xs j).f0) ∧ W.cell? ⟨(ad.add (j * 4)).block, (ad.add (j * 4)).off + 1, none⟩ = some (.int .i64 (rd_T40 xs j).f1) ∧ W.cell? ⟨(ad.add (j * 4)).block, (ad.add (j * 4)).off + 2, none⟩ = some (.int .i64 (rd_T40 xs j).f2) ∧ W.cell? ⟨(ad.add (j * 4)).block, (ad.add (j * 4)).off + 3, none⟩ = some (.int .i64 (rd_T40 xs j).f3))) ∧ Below W31.heap.size W31 W ∧ W.heap[y.2.2.2.2.2.2.2.2.2.2.2.2.2.2]? = some (.cells #[.int .i64 0, .int .i64 0, .int .i64 0, .int .i64 0, .int .i64 0, .int .i64 0, .int .i64 0, .int .i64 0, .int .i64 0, .int .i64 0, .int .i64 0, .slice none 0 0] 27 (0, 0)) ∧ W31.heap.size ≤ y.2.2.2.2.2.2.2.2.2.2.2.2.2.2 ∧ (TdF id m u b c z s me o a l r L (.slice A L.length k) w.heap.size (tabV y.1 y.2.1 y.2.2.1 y.2.2.2.1 y.2.2.2.2.1 y.2.2.2.2.2.1 y.2.2.2.2.2.2.1 y.2.2.2.2.2.2.2.1 y.2.2.2.2.2.2.2.2.1 y.2.2.2.2.2.2.2.2.2.1 y.2.2.2.2.2.2.2.2.2.2.1 (.slice y.2.2.2.2.2.2.2.2.2.2.2.1 y.2.2.2.2.2.2.2.2.2.2.2.2.1 y.2.2.2.2.2.2.2.2.2.2.2.2.2.1))).P W) ?_ ?_
      rotate_left
      · intro hCont
        refine two_ (i := 5) (j := 9) (Ni := some 59) (Nj := some 9) (bq 12 63) (bq 12 543) rfl rfl rfl rfl (two_of HT_.out (by kernel_rfl)) (by decide) (by decide) (fun K hK => ?_) (fun K hK => ?_)
        · refine gs Try.func16 #[tabV id m u b c z s me o a l (.slice A L.length k), actV (rd_T40 xs j)] ?_
          refine (HD.out _ (Kd.R_reads' (H.out.fact 1 rfl)).2.2).mono ?_
          rintro e W32 ⟨v, rfl, hT, hb⟩
          refine ⟨_, rfl, ?_⟩
          obtain ⟨x0, x1, x2, x3, x4, x5, x6, x7, x8, x9, x10, Ax, nx, kx, rfl⟩ := TabD_open hT
          replace H := Lib.hid ((H.out.called hb).row (TdF id m u b c z s me o a l r L (.slice A L.length k) w.heap.size (tabV x0 x1 x2 x3 x4 x5 x6 x7 x8 x9 x10 (.slice Ax nx kx))) (TabD_lower hT H.out.below.size))
          replace b0 := Lib.hid (below_step b0.out hb)
          clear hT
          clear hb
          refine hK.out _ _ ⟨H.out.cell 1 rfl, act_at2 (Kd.C_below HX.out H.out.below) j hlt⟩ (fun hHeld => ?_)
          clear hK K
          apply nm 0
          apply pu 6 53 (bq 12 127) HT_
          apply pu 7 60 (bq 12 255) HT_
          apply pu 8 61 (bq 12 511) HT_
          apply on 9 (some 9) (bq 12 1023) HT_; intro K hK
          have cQ := H.out.cell 0 rfl
          have cT := H.out.cell 1 rfl
          have cC := H.out.cell 2 rfl
          apply bxs 9 #[.int .i64 0, .int .i64 0, .int .i64 0, .int .i64 0, .int .i64 0, .int .i64 0, .int .i64 0, .int .i64 0, .int .i64 0, .int .i64 0, .int .i64 0, .slice none 0 0] 27
          intro gU hg W33 hx hb
          clear cQ cT cC
          have GU := Lib.hid (Nat.le_trans b0.out.size hg)
          replace H := Lib.hid (H.out.made hx hb hg)
          replace b0 := Lib.hid (below_step b0.out hb)
          clear hb hx hg
          refine hK.out _ _ ⟨H.out.cell 2 rfl, act_at2 (Kd.C_below HX.out H.out.below) j hlt⟩ (fun hHeld => ?_)
          clear hK K
          apply nm 0
          exact norm_ (by simp only [putAll, Act.put, List.setIfInBounds_toArray, List.set_cons_zero, List.set_cons_succ]) (hCont (x0, x1, x2, x3, x4, x5, x6, x7, x8, x9, x10, Ax, nx, kx, gU) _ ⟨hHeld, b0.out, H.out.at_ 0 rfl, GU.out, H.out.fact 0 rfl⟩)
        · have cQ := H.out.cell 0 rfl
          have cT := H.out.cell 1 rfl
          have cC := H.out.cell 2 rfl
          apply bxs 9 #[.int .i64 0, .int .i64 0, .int .i64 0, .int .i64 0, .int .i64 0, .int .i64 0, .int .i64 0, .int .i64 0, .int .i64 0, .int .i64 0, .int .i64 0, .slice none 0 0] 27
          intro gU hg W32 hx hb
          clear cQ cT cC
          have GU := Lib.hid (Nat.le_trans b0.out.size hg)
          replace H := Lib.hid (H.out.made hx hb hg)
          replace b0 := Lib.hid (below_step b0.out hb)
          clear hb hx hg
          refine hK.out _ _ ⟨H.out.cell 2 rfl, act_at2 (Kd.C_below HX.out H.out.below) j hlt⟩ (fun hHeld => ?_)
          clear hK K
          apply nm 0
          apply on 5 (some 59) (bq 12 575) HT_; intro K hK
          refine gs Try.func16 #[tabV id m u b c z s me o a l (.slice A L.length k), actV (rd_T40 xs j)] ?_
          refine (HD.out _ (Kd.R_reads' (H.out.fact 1 rfl)).2.2).mono ?_
          rintro e W33 ⟨v, rfl, hT, hb⟩
          refine ⟨_, rfl, ?_⟩
          obtain ⟨x0, x1, x2, x3, x4, x5, x6, x7, x8, x9, x10, Ax, nx, kx, rfl⟩ := TabD_open hT
          replace H := Lib.hid ((H.out.called hb).row (TdF id m u b c z s me o a l r L (.slice A L.length k) w.heap.size (tabV x0 x1 x2 x3 x4 x5 x6 x7 x8 x9 x10 (.slice Ax nx kx))) (TabD_lower hT H.out.below.size))
          replace b0 := Lib.hid (below_step b0.out hb)
          clear hT
          clear hb
          refine hK.out _ _ ⟨H.out.cell 2 rfl, act_at2 (Kd.C_below HX.out H.out.below) j hlt⟩ (fun hHeld => ?_)
          clear hK K
          apply nm 0
          apply pu 6 53 (bq 12 639) HT_
          apply pu 7 60 (bq 12 767) HT_
          apply pu 8 61 (bq 12 1023) HT_
          exact norm_ (by simp only [putAll, Act.put, List.setIfInBounds_toArray, List.set_cons_zero, List.set_cons_succ]) (hCont (x0, x1, x2, x3, x4, x5, x6, x7, x8, x9, x10, Ax, nx, kx, gU) _ ⟨hHeld, b0.out, H.out.at_ 0 rfl, GU.out, H.out.fact 0 rfl⟩)
      rintro ⟨x0, x1, x2, x3, x4, x5, x6, x7, x8, x9, x10, Ax, nx, kx, gU⟩ W84 ⟨hHeld, hb, hU, hGU, hrDU⟩
      (try dsimp only at hHeld hU hGU hrDU ⊢)
      replace H := Lib.hid (H.out.join hb hU hGU)
      replace H := Lib.hid (H.out.row (TdF id m u b c z s me o a l r L (.slice A L.length k) w.heap.size (tabV x0 x1 x2 x3 x4 x5 x6 x7 x8 x9 x10 (.slice Ax nx kx))) hrDU)
      clear b0 hb hU hGU hrDU
      refine norm_ (a' := ?_) ?_ ?_
      rotate_left
      · simp only [putAll, Act.put, List.setIfInBounds_toArray, List.set_cons_zero, List.set_cons_succ]
        rfl
      apply on 10 none (bq 12 2047) HT_; intro K hK
      have cU := H.out.cell 0 rfl
      have cQ := H.out.cell 1 rfl
      have cT := H.out.cell 2 rfl
      have cC := H.out.cell 3 rfl
      have fU := H.out.froz 0 rfl
      apply svs 27 9 gU 0 [.int .i64 x0, .int .i64 x1, .int .i64 x2, .int .i64 x3, .int .i64 x4, .int .i64 x5, .int .i64 x6, .int .i64 x7, .int .i64 x8, .int .i64 x9, .int .i64 x10, .slice Ax nx kx]
      intro W85 hw
      clear fU
      clear cU cQ cT cC
      replace H := Lib.hid (H.out.putw 0 rfl hw rfl rfl)
      clear hw
      refine hK.out _ _ ⟨H.out.cell 2 rfl, act_at2 (Kd.C_below HX.out H.out.below) j hlt⟩ (fun hHeld => ?_)
      clear hK K
      apply pu 11 10 (bq 12 4095) HT_
      refine done_ (done_of HT_.out (by kernel_rfl)) ?_
      have cU := H.out.cell 0 rfl
      have cQ := H.out.cell 1 rfl
      have cT := H.out.cell 2 rfl
      have cC := H.out.cell 3 rfl
      go_wp2
      clear cU cQ cT cC
      refine start_ (n := 12) (S := fun W => (∀ j_, W.cell? ⟨gQ, j_, none⟩ = (#[.int .i64 id, .int .i64 m, .int .i64 u, .int .i64 b, .int .i64 c, .int .i64 z, .int .i64 s, .int .i64 me, .int .i64 o, .int .i64 a, .int .i64 l, .slice A3 L.length k3] : Array Value)[j_]?) ∧ (W.cell? (ad.add (j * 4)) = some (.int .i64 (rd_T40 xs j).f0) ∧ W.cell? ⟨(ad.add (j * 4)).block, (ad.add (j * 4)).off + 1, none⟩ = some (.int .i64 (rd_T40 xs j).f1) ∧ W.cell? ⟨(ad.add (j * 4)).block, (ad.add (j * 4)).off + 2, none⟩ = some (.int .i64 (rd_T40 xs j).f2) ∧ W.cell? ⟨(ad.add (j * 4)).block, (ad.add (j * 4)).off + 3, none⟩ = some (.int .i64 (rd_T40 xs j).f3))) (ds := []) (bq 12 0) (by kernel_rfl) rfl (by kernel_rfl) ⟨H.out.drew.cell 1 rfl, act_at2 (Kd.C_below HX.out (H.out.drew).below) j hlt⟩ (fun hHeld => ?_)
      refine with_tabW tab_revetmentlaw17_LzonePlays_11 bits_revetmentlaw17_LzonePlays_11 (fun HT_ HW_ => ?_)
      have zH := H.out.drew
      generalize W85.drew = W86 at zH hHeld ⊢
      replace H := Lib.hid zH; clear zH
      apply tw 0 63 (bq 12 1) HT_ HW_ hHeld
      apply pu 1 64 (bq 12 3) HT_
      apply pu 2 65 (bq 12 7) HT_
      apply pu 3 66 (bq 12 15) HT_
      apply tw 4 67 (bq 12 31) HT_ HW_ hHeld
      have b0 := Lib.hid (Below.refl W86.heap.size W86)
      refine join_ (σ := Int × Int × Int × Int × Int × Int × Int × Int × Int × Int × Int × Option Addr × Nat × Nat × Nat) 2 (bq 12 1023) (fun y => [(68, .tuple #[tabV y.1 y.2.1 y.2.2.1 y.2.2.2.1 y.2.2.2.2.1 y.2.2.2.2.2.1 y.2.2.2.2.2.2.1 y.2.2.2.2.2.2.2.1 y.2.2.2.2.2.2.2.2.1 y.2.2.2.2.2.2.2.2.2.1 y.2.2.2.2.2.2.2.2.2.2.1 (.slice y.2.2.2.2.2.2.2.2.2.2.2.1 y.2.2.2.2.2.2.2.2.2.2.2.2.1 y.2.2.2.2.2.2.2.2.2.2.2.2.2.1), .int .i64 E]), (62, .tuple #[tabV y.1 y.2.1 y.2.2.1 y.2.2.2.1 y.2.2.2.2.1 y.2.2.2.2.2.1 y.2.2.2.2.2.2.1 y.2.2.2.2.2.2.2.1 y.2.2.2.2.2.2.2.2.1 y.2.2.2.2.2.2.2.2.2.1 y.2.2.2.2.2.2.2.2.2.2.1 (.slice y.2.2.2.2.2.2.2.2.2.2.2.1 y.2.2.2.2.2.2.2.2.2.2.2.2.1 y.2.2.2.2.2.2.2.2.2.2.2.2.2.1), .int .i64 E]), (69, tabV y.1 y.2.1 y.2.2.1 y.2.2.2.1 y.2.2.2.2.1 y.2.2.2.2.2.1 y.2.2.2.2.2.2.1 y.2.2.2.2.2.2.2.1 y.2.2.2.2.2.2.2.2.1 y.2.2.2.2.2.2.2.2.2.1 y.2.2.2.2.2.2.2.2.2.2.1 (.slice y.2.2.2.2.2.2.2.2.2.2.2.1 y.2.2.2.2.2.2.2.2.2.2.2.2.1 y.2.2.2.2.2.2.2.2.2.2.2.2.2.1)), (70, .int .i64 E), (11, .pointer (some ⟨y.2.2.2.2.2.2.2.2.2.2.2.2.2.2, 0, none⟩))]) (fun y W => ((∀ j_, W.cell? ⟨gQ, j_, none⟩ = (#[.int .i64 id, .int .i64 m, .int .i64 u, .int .i64 b, .int .i64 c, .int .i64 z, .int .i64 s, .int .i64 me, .int .i64 o, .int .i64 a, .int .i64 l, .slice A3 L.length k3] : Array Value)[j_]?) ∧ (W.cell? (ad.add (j * 4)) = some (.int .i64 (rd_T40 xs j).f0) ∧ W.cell? ⟨(ad.add (j * 4)).block, (ad.add (j * 4)).off + 1, none⟩ = some (.int .i64 (rd_T40 xs j).f1) ∧ W.cell? ⟨(ad.add (j * 4)).block, (ad.add (j * 4)).off + 2, none⟩ = some (.int .i64 (rd_T40 xs j).f2) ∧ W.cell? ⟨(ad.add (j * 4)).block, (ad.add (j * 4)).off + 3, none⟩ = some (.int .i64 (rd_T40 xs j).f3))) ∧ Below W86.heap.size W86 W ∧ W.heap[y.2.2.2.2.2.2.2.2.2.2.2.2.2.2]? = some (.cells #[.int .i64 0, .int .i64 0, .int .i64 0, .int .i64 0, .int .i64 0, .int .i64 0, .int .i64 0, .int .i64 0, .int .i64 0, .int .i64 0, .int .i64 0, .slice none 0 0] 35 (0, 0)) ∧ W86.heap.size ≤ y.2.2.2.2.2.2.2.2.2.2.2.2.2.2 ∧ (TdF id m u b c z s me o a l r L (.slice A3 L.length k3) w.heap.size (tabV y.1 y.2.1 y.2.2.1 y.2.2.2.1 y.2.2.2.2.1 y.2.2.2.2.2.1 y.2.2.2.2.2.2.1 y.2.2.2.2.2.2.2.1 y.2.2.2.2.2.2.2.2.1 y.2.2.2.2.2.2.2.2.2.1 y.2.2.2.2.2.2.2.2.2.2.1 (.slice y.2.2.2.2.2.2.2.2.2.2.2.1 y.2.2.2.2.2.2.2.2.2.2.2.2.1 y.2.2.2.2.2.2.2.2.2.2.2.2.2.1))).P W) ?_ ?_
      rotate_left
      · intro hCont
        refine two_ (i := 5) (j := 9) (Ni := some 68) (Nj := some 11) (bq 12 63) (bq 12 543) rfl rfl rfl rfl (two_of HT_.out (by kernel_rfl)) (by decide) (by decide) (fun K hK => ?_) (fun K hK => ?_)
        · refine gs Try.func17 #[tabV id m u b c z s me o a l (.slice A3 L.length k3), actV (rd_T40 xs j)] ?_
          refine (HS.out _ (Kd.R_reads' (H.out.fact 1 rfl)).2.2).mono ?_
          rintro e W87 ⟨v, rfl, hT, hb⟩
          refine ⟨_, rfl, ?_⟩
          obtain ⟨y0, y1, y2, y3, y4, y5, y6, y7, y8, y9, y10, Ay, ny, ky, rfl⟩ := TabD_open hT
          replace H := Lib.hid ((H.out.called hb).row (TdF id m u b c z s me o a l r L (.slice A3 L.length k3) w.heap.size (tabV y0 y1 y2 y3 y4 y5 y6 y7 y8 y9 y10 (.slice Ay ny ky))) (TabD_lower hT H.out.below.size))
          replace b0 := Lib.hid (below_step b0.out hb)
          clear hT
          clear hb
          refine hK.out _ _ ⟨H.out.cell 1 rfl, act_at2 (Kd.C_below HX.out H.out.below) j hlt⟩ (fun hHeld => ?_)
          clear hK K
          apply nm 0
          apply pu 6 62 (bq 12 127) HT_
          apply pu 7 69 (bq 12 255) HT_
          apply pu 8 70 (bq 12 511) HT_
          apply on 9 (some 11) (bq 12 1023) HT_; intro K hK
          have cU := H.out.cell 0 rfl
          have cQ := H.out.cell 1 rfl
          have cT := H.out.cell 2 rfl
          have cC := H.out.cell 3 rfl
          apply bxs 11 #[.int .i64 0, .int .i64 0, .int .i64 0, .int .i64 0, .int .i64 0, .int .i64 0, .int .i64 0, .int .i64 0, .int .i64 0, .int .i64 0, .int .i64 0, .slice none 0 0] 35
          intro gV hg W88 hx hb
          clear cU cQ cT cC
          have GV := Lib.hid (Nat.le_trans b0.out.size hg)
          replace H := Lib.hid (H.out.made hx hb hg)
          replace b0 := Lib.hid (below_step b0.out hb)
          clear hb hx hg
          refine hK.out _ _ ⟨H.out.cell 2 rfl, act_at2 (Kd.C_below HX.out H.out.below) j hlt⟩ (fun hHeld => ?_)
          clear hK K
          apply nm 0
          exact norm_ (by simp only [putAll, Act.put, List.setIfInBounds_toArray, List.set_cons_zero, List.set_cons_succ]) (hCont (y0, y1, y2, y3, y4, y5, y6, y7, y8, y9, y10, Ay, ny, ky, gV) _ ⟨hHeld, b0.out, H.out.at_ 0 rfl, GV.out, H.out.fact 0 rfl⟩)
        · have cU := H.out.cell 0 rfl
          have cQ := H.out.cell 1 rfl
          have cT := H.out.cell 2 rfl
          have cC := H.out.cell 3 rfl
          apply bxs 11 #[.int .i64 0, .int .i64 0, .int .i64 0, .int .i64 0, .int .i64 0, .int .i64 0, .int .i64 0, .int .i64 0, .int .i64 0, .int .i64 0, .int .i64 0, .slice none 0 0] 35
          intro gV hg W87 hx hb
          clear cU cQ cT cC
          have GV := Lib.hid (Nat.le_trans b0.out.size hg)
          replace H := Lib.hid (H.out.made hx hb hg)
          replace b0 := Lib.hid (below_step b0.out hb)
          clear hb hx hg
          refine hK.out _ _ ⟨H.out.cell 2 rfl, act_at2 (Kd.C_below HX.out H.out.below) j hlt⟩ (fun hHeld => ?_)
          clear hK K
          apply nm 0
          apply on 5 (some 68) (bq 12 575) HT_; intro K hK
          refine gs Try.func17 #[tabV id m u b c z s me o a l (.slice A3 L.length k3), actV (rd_T40 xs j)] ?_
          refine (HS.out _ (Kd.R_reads' (H.out.fact 1 rfl)).2.2).mono ?_
          rintro e W88 ⟨v, rfl, hT, hb⟩
          refine ⟨_, rfl, ?_⟩
          obtain ⟨y0, y1, y2, y3, y4, y5, y6, y7, y8, y9, y10, Ay, ny, ky, rfl⟩ := TabD_open hT
          replace H := Lib.hid ((H.out.called hb).row (TdF id m u b c z s me o a l r L (.slice A3 L.length k3) w.heap.size (tabV y0 y1 y2 y3 y4 y5 y6 y7 y8 y9 y10 (.slice Ay ny ky))) (TabD_lower hT H.out.below.size))
          replace b0 := Lib.hid (below_step b0.out hb)
          clear hT
          clear hb
          refine hK.out _ _ ⟨H.out.cell 2 rfl, act_at2 (Kd.C_below HX.out H.out.below) j hlt⟩ (fun hHeld => ?_)
          clear hK K
          apply nm 0
          apply pu 6 62 (bq 12 639) HT_
          apply pu 7 69 (bq 12 767) HT_
          apply pu 8 70 (bq 12 1023) HT_
          exact norm_ (by simp only [putAll, Act.put, List.setIfInBounds_toArray, List.set_cons_zero, List.set_cons_succ]) (hCont (y0, y1, y2, y3, y4, y5, y6, y7, y8, y9, y10, Ay, ny, ky, gV) _ ⟨hHeld, b0.out, H.out.at_ 0 rfl, GV.out, H.out.fact 0 rfl⟩)
      rintro ⟨y0, y1, y2, y3, y4, y5, y6, y7, y8, y9, y10, Ay, ny, ky, gV⟩ W139 ⟨hHeld, hb, hV, hGV, hrDV⟩
      (try dsimp only at hHeld hV hGV hrDV ⊢)
      replace H := Lib.hid (H.out.join hb hV hGV)
      replace H := Lib.hid (H.out.row (TdF id m u b c z s me o a l r L (.slice A3 L.length k3) w.heap.size (tabV y0 y1 y2 y3 y4 y5 y6 y7 y8 y9 y10 (.slice Ay ny ky))) hrDV)
      clear b0 hb hV hGV hrDV
      refine norm_ (a' := ?_) ?_ ?_
      rotate_left
      · simp only [putAll, Act.put, List.setIfInBounds_toArray, List.set_cons_zero, List.set_cons_succ]
        rfl
      apply on 10 none (bq 12 2047) HT_; intro K hK
      have cV := H.out.cell 0 rfl
      have cU := H.out.cell 1 rfl
      have cQ := H.out.cell 2 rfl
      have cT := H.out.cell 3 rfl
      have cC := H.out.cell 4 rfl
      have fV := H.out.froz 0 rfl
      apply svs 35 11 gV 0 [.int .i64 y0, .int .i64 y1, .int .i64 y2, .int .i64 y3, .int .i64 y4, .int .i64 y5, .int .i64 y6, .int .i64 y7, .int .i64 y8, .int .i64 y9, .int .i64 y10, .slice Ay ny ky]
      intro W140 hw
      clear fV
      clear cV cU cQ cT cC
      replace H := Lib.hid (H.out.putw 0 rfl hw rfl rfl)
      clear hw
      refine hK.out _ _ ⟨H.out.cell 2 rfl, act_at2 (Kd.C_below HX.out H.out.below) j hlt⟩ (fun hHeld => ?_)
      clear hK K
      apply pu 11 12 (bq 12 4095) HT_
      refine done_ (done_of HT_.out (by kernel_rfl)) ?_
      have cV := H.out.cell 0 rfl
      have cU := H.out.cell 1 rfl
      have cQ := H.out.cell 2 rfl
      have cT := H.out.cell 3 rfl
      have cC := H.out.cell 4 rfl
      clear cV cU cQ cT cC
      by_cases hE : E = 0
      · subst hE
        obtain ⟨L2, e1, hI2⟩ := HST.out rfl
        subst e1
        have HI2 := Lib.hid hI2; have HRT := Lib.hid hI2.1; have HML := Lib.hid (show L2.length ≤ 1000000 by have := (rightZ_len hI2.1).2.2.1; omega)
        clear hI2 HST HEN HON
        obtain ⟨A4, k4, hv, hR⟩ := TabD_some (H.out.fact 1 rfl) (H.out.fact 3 rfl)
        obtain ⟨rfl, rfl, rfl, rfl, rfl, rfl, rfl, rfl, rfl, rfl, rfl, rfl, rfl, rfl⟩ := tab_inj hv.symm
        replace H := Lib.hid ((H.out).row (RowF k59 59 w.heap.size (.slice A4 L2.length k4) L2) (hR))
        clear hR
        obtain ⟨A5, k5, hv, hR⟩ := TabD_some (H.out.fact 1 rfl) (H.out.fact 3 rfl)
        obtain ⟨rfl, rfl, rfl, rfl, rfl, rfl, rfl, rfl, rfl, rfl, rfl, rfl, rfl, rfl⟩ := tab_inj hv.symm
        replace H := Lib.hid ((H.out).row (RowF k59 59 w.heap.size (.slice A5 L2.length k5) L2) (hR))
        clear hR
        have cV := H.out.cell 0 rfl
        have cU := H.out.cell 1 rfl
        have cQ := H.out.cell 2 rfl
        have cT := H.out.cell 3 rfl
        have cC := H.out.cell 4 rfl
        go_wp2
        clear cV cU cQ cT cC
        refine start_ (n := 4) (S := fun W => (∀ j_, W.cell? ⟨gU, j_, none⟩ = (#[.int .i64 id, .int .i64 m, .int .i64 u, .int .i64 b, .int .i64 c, .int .i64 z, .int .i64 s, .int .i64 me, .int .i64 o, .int .i64 a, .int .i64 l, .slice A4 L2.length k4] : Array Value)[j_]?) ∧ (∀ j_, W.cell? ⟨gV, j_, none⟩ = (#[.int .i64 id, .int .i64 m, .int .i64 u, .int .i64 b, .int .i64 c, .int .i64 z, .int .i64 s, .int .i64 me, .int .i64 o, .int .i64 a, .int .i64 l, .slice A5 L2.length k5] : Array Value)[j_]?)) (ds := []) (bq 4 0) (by kernel_rfl) rfl (by kernel_rfl) ⟨H.out.drew.cell 1 rfl, H.out.drew.cell 0 rfl⟩ (fun hHeld => ?_)
        refine with_tabW tab_revetmentlaw17_LzonePlays_15 bits_revetmentlaw17_LzonePlays_15 (fun HT_ HW_ => ?_)
        have zH := H.out.drew
        generalize W140.drew = W141 at zH hHeld ⊢
        replace H := Lib.hid zH; clear zH
        apply tw 0 76 (bq 4 1) HT_ HW_ hHeld
        apply tw 1 77 (bq 4 3) HT_ HW_ hHeld
        apply on 2 none (bq 4 7) HT_; intro K hK
        have cV := H.out.cell 0 rfl
        have cU := H.out.cell 1 rfl
        have cQ := H.out.cell 2 rfl
        have cT := H.out.cell 3 rfl
        have cC := H.out.cell 4 rfl
        have fT := H.out.froz 3 rfl
        apply svs 27 5 gT 0 [.int .i64 id, .int .i64 m, .int .i64 u, .int .i64 b, .int .i64 c, .int .i64 z, .int .i64 s, .int .i64 me, .int .i64 o, .int .i64 a, .int .i64 l, .slice A4 L2.length k4]
        intro W142 hw
        clear fT
        clear cV cU cQ cT cC
        replace H := Lib.hid (H.out.putw 3 rfl hw rfl rfl)
        clear hw
        refine hK.out _ _ ⟨H.out.cell 1 rfl, H.out.cell 0 rfl⟩ (fun hHeld => ?_)
        clear hK K
        apply on 3 none (bq 4 15) HT_; intro K hK
        have cV := H.out.cell 0 rfl
        have cU := H.out.cell 1 rfl
        have cQ := H.out.cell 2 rfl
        have cT := H.out.cell 3 rfl
        have cC := H.out.cell 4 rfl
        have fQ := H.out.froz 2 rfl
        apply svs 35 7 gQ 0 [.int .i64 id, .int .i64 m, .int .i64 u, .int .i64 b, .int .i64 c, .int .i64 z, .int .i64 s, .int .i64 me, .int .i64 o, .int .i64 a, .int .i64 l, .slice A5 L2.length k5]
        intro W143 hw
        clear fQ
        clear cV cU cQ cT cC
        replace H := Lib.hid (H.out.putw 2 rfl hw rfl rfl)
        clear hw
        refine hK.out _ _ ⟨H.out.cell 1 rfl, H.out.cell 0 rfl⟩ (fun hHeld => ?_)
        clear hK K
        refine done_ (done_of HT_.out (by kernel_rfl)) ?_
        have cV := H.out.cell 0 rfl
        have cU := H.out.cell 1 rfl
        have cQ := H.out.cell 2 rfl
        have cT := H.out.cell 3 rfl
        have cC := H.out.cell 4 rfl
        clear cV cU cQ cT cC
        have g1_ := (Kd.R_reads' (H.out.fact 1 rfl : Kd.R k59 59 W143 w.heap.size (fun _ => True) (.slice A4 L2.length k4) L2)).2.1; have g2_ := (Kd.R_reads' (H.out.fact 0 rfl : Kd.R k59 59 W143 w.heap.size (fun _ => True) (.slice A5 L2.length k5) L2)).2.1
        have hrz := fun W h => rightZ_any id m u b c z s me o a l A4 k4 L2 W h g1_
        rw [HRT.out] at hrz
        have HRZ := Lib.hid hrz; clear hrz
        have cV := H.out.cell 0 rfl
        have cU := H.out.cell 1 rfl
        have cQ := H.out.cell 2 rfl
        have cT := H.out.cell 3 rfl
        have cC := H.out.cell 4 rfl
        go_wp2_with first
          | (go_at_call 18; refine (counts_any id m u b c z s me o a l A4 k4 L2 _ (Kd.R_reads' (H.out.fact 1 rfl)).2.2 g1_).mono ?_; rintro e W144 ⟨rfl, hb⟩; clear cV cU cQ cT cC; replace H := Lib.hid (H.out.called hb); clear hb; have cV := H.out.cell 0 rfl; have cU := H.out.cell 1 rfl; have cQ := H.out.cell 2 rfl; have cT := H.out.cell 3 rfl; have cC := H.out.cell 4 rfl)
          | (go_at_call 19; refine (same_any L2 A4 k4 A5 k5 _ (Kd.R_reads' (H.out.fact 1 rfl)).2.2 g1_ (Kd.R_reads' (H.out.fact 0 rfl)).2.2 g2_ HML.out).mono ?_; rintro e W145 ⟨rfl, hb⟩; clear cV cU cQ cT cC; replace H := Lib.hid (H.out.called hb); clear hb; have cV := H.out.cell 0 rfl; have cU := H.out.cell 1 rfl; have cQ := H.out.cell 2 rfl; have cT := H.out.cell 3 rfl; have cC := H.out.cell 4 rfl)
          | (go_at_call 20; (with_reducible refine (rcount_any id m u b c z s me o a l A5 k5 L2 1 1 _ (Kd.R_reads' (H.out.fact 0 rfl)).2.2 g2_).mono ?_); rintro e W146 ⟨rfl, hb⟩; clear cV cU cQ cT cC; replace H := Lib.hid (H.out.called hb); clear hb; have cV := H.out.cell 0 rfl; have cU := H.out.cell 1 rfl; have cQ := H.out.cell 2 rfl; have cT := H.out.cell 3 rfl; have cC := H.out.cell 4 rfl)
          | (go_at_call 20; (with_reducible refine (rcount_any id m u b c z s me o a l A5 k5 L2 1 2 _ (Kd.R_reads' (H.out.fact 0 rfl)).2.2 g2_).mono ?_); rintro e W147 ⟨rfl, hb⟩; clear cV cU cQ cT cC; replace H := Lib.hid (H.out.called hb); clear hb; have cV := H.out.cell 0 rfl; have cU := H.out.cell 1 rfl; have cQ := H.out.cell 2 rfl; have cT := H.out.cell 3 rfl; have cC := H.out.cell 4 rfl)
          | (go_at_call 21; refine (HRZ.out _ (Kd.R_reads' (H.out.fact 1 rfl)).2.2).mono ?_; rintro e W148 ⟨rfl, hb⟩; clear cV cU cQ cT cC; replace H := Lib.hid (H.out.called hb); clear hb; have cV := H.out.cell 0 rfl; have cU := H.out.cell 1 rfl; have cQ := H.out.cell 2 rfl; have cT := H.out.cell 3 rfl; have cC := H.out.cell 4 rfl)
        all_goals
          have H2 : Pk w W148 [⟨gQ, 35, #[.int .i64 id, .int .i64 m, .int .i64 u, .int .i64 b, .int .i64 c, .int .i64 z, .int .i64 s, .int .i64 me, .int .i64 o, .int .i64 a, .int .i64 l, .slice A5 L2.length k5]⟩, ⟨gT, 27, #[.int .i64 id, .int .i64 m, .int .i64 u, .int .i64 b, .int .i64 c, .int .i64 z, .int .i64 s, .int .i64 me, .int .i64 o, .int .i64 a, .int .i64 l, .slice A4 L2.length k4]⟩, ⟨gC, 23, #[.int .i64 id, .int .i64 m, .int .i64 u, .int .i64 b, .int .i64 c, .int .i64 z, .int .i64 s, .int .i64 me, .int .i64 o, .int .i64 a, .int .i64 l]⟩] [RowF k59 59 w.heap.size (.slice A5 L2.length k5) L2, RowF k59 59 w.heap.size (.slice A4 L2.length k4) L2] := (H.out.refs (fs' := [RowF k59 59 w.heap.size (.slice A5 L2.length k5) L2, RowF k59 59 w.heap.size (.slice A4 L2.length k4) L2]) (by intro f hf; rcases List.mem_cons.1 hf with rfl | hf; exact H.out.fact 0 rfl; rcases List.mem_cons.1 hf with rfl | hf; exact H.out.fact 1 rfl; cases hf)).tail.tail
          exact ⟨⟨j + 1, L2, A4, k4, A5, k5, rfl, by omega, HI2, Lib.hid H2⟩, by simp only [intOf]; push_cast; omega⟩
      by_cases hd1 : (rd_T40 xs j).f0 = 1
      · have eb : (E == 0) = false := beq_eq_false_iff_ne.mpr hE; have eb2 : (E != 0) = true := bne_iff_ne.mpr hE
        have HI2 := HI; have HRT := Lib.hid HI.out.1; have HML := Lib.hid (show L.length ≤ 1000000 by omega)
        have db : ((rd_T40 xs j).f0 != 1) = false := bne_eq_false_iff_eq.mpr hd1; have db2 : ((rd_T40 xs j).f0 == 1) = true := beq_iff_eq.mpr hd1
        clear hd1
        have g1_ := (Kd.R_reads' (H.out.fact 3 rfl : Kd.R k59 59 W140 w.heap.size (fun _ => True) (.slice A L.length k) L)).2.1; have g2_ := (Kd.R_reads' (H.out.fact 2 rfl : Kd.R k59 59 W140 w.heap.size (fun _ => True) (.slice A3 L.length k3) L)).2.1
        have hrz := fun W h => rightZ_any id m u b c z s me o a l A k L W h g1_
        rw [HRT.out] at hrz
        have HRZ := Lib.hid hrz; clear hrz
        have cV := H.out.cell 0 rfl
        have cU := H.out.cell 1 rfl
        have cQ := H.out.cell 2 rfl
        have cT := H.out.cell 3 rfl
        have cC := H.out.cell 4 rfl
        have ac := act_at2 (Kd.C_below HX.out H.out.below) j hlt
        go_wp2_with first
          | (go_at_call 18; refine (counts_any id m u b c z s me o a l A k L _ (Kd.R_reads' (H.out.fact 3 rfl)).2.2 g1_).mono ?_; rintro e W141 ⟨rfl, hb⟩; clear cV cU cQ cT cC ac; replace H := Lib.hid (H.out.called hb); clear hb; have cV := H.out.cell 0 rfl; have cU := H.out.cell 1 rfl; have cQ := H.out.cell 2 rfl; have cT := H.out.cell 3 rfl; have cC := H.out.cell 4 rfl; have ac := act_at2 (Kd.C_below HX.out H.out.below) j hlt)
          | (go_at_call 19; refine (same_any L A k A3 k3 _ (Kd.R_reads' (H.out.fact 3 rfl)).2.2 g1_ (Kd.R_reads' (H.out.fact 2 rfl)).2.2 g2_ HML.out).mono ?_; rintro e W142 ⟨rfl, hb⟩; clear cV cU cQ cT cC ac; replace H := Lib.hid (H.out.called hb); clear hb; have cV := H.out.cell 0 rfl; have cU := H.out.cell 1 rfl; have cQ := H.out.cell 2 rfl; have cT := H.out.cell 3 rfl; have cC := H.out.cell 4 rfl; have ac := act_at2 (Kd.C_below HX.out H.out.below) j hlt)
          | (go_at_call 20; (with_reducible refine (rcount_any id m u b c z s me o a l A3 k3 L 1 1 _ (Kd.R_reads' (H.out.fact 2 rfl)).2.2 g2_).mono ?_); rintro e W143 ⟨rfl, hb⟩; clear cV cU cQ cT cC ac; replace H := Lib.hid (H.out.called hb); clear hb; have cV := H.out.cell 0 rfl; have cU := H.out.cell 1 rfl; have cQ := H.out.cell 2 rfl; have cT := H.out.cell 3 rfl; have cC := H.out.cell 4 rfl; have ac := act_at2 (Kd.C_below HX.out H.out.below) j hlt)
          | (go_at_call 20; (with_reducible refine (rcount_any id m u b c z s me o a l A3 k3 L 1 2 _ (Kd.R_reads' (H.out.fact 2 rfl)).2.2 g2_).mono ?_); rintro e W144 ⟨rfl, hb⟩; clear cV cU cQ cT cC ac; replace H := Lib.hid (H.out.called hb); clear hb; have cV := H.out.cell 0 rfl; have cU := H.out.cell 1 rfl; have cQ := H.out.cell 2 rfl; have cT := H.out.cell 3 rfl; have cC := H.out.cell 4 rfl; have ac := act_at2 (Kd.C_below HX.out H.out.below) j hlt)
          | (go_at_call 21; refine (HRZ.out _ (Kd.R_reads' (H.out.fact 3 rfl)).2.2).mono ?_; rintro e W145 ⟨rfl, hb⟩; clear cV cU cQ cT cC ac; replace H := Lib.hid (H.out.called hb); clear hb; have cV := H.out.cell 0 rfl; have cU := H.out.cell 1 rfl; have cQ := H.out.cell 2 rfl; have cT := H.out.cell 3 rfl; have cC := H.out.cell 4 rfl; have ac := act_at2 (Kd.C_below HX.out H.out.below) j hlt)
        all_goals
          have H2 : Pk w W145 [⟨gQ, 35, #[.int .i64 id, .int .i64 m, .int .i64 u, .int .i64 b, .int .i64 c, .int .i64 z, .int .i64 s, .int .i64 me, .int .i64 o, .int .i64 a, .int .i64 l, .slice A3 L.length k3]⟩, ⟨gT, 27, #[.int .i64 id, .int .i64 m, .int .i64 u, .int .i64 b, .int .i64 c, .int .i64 z, .int .i64 s, .int .i64 me, .int .i64 o, .int .i64 a, .int .i64 l, .slice A L.length k]⟩, ⟨gC, 23, #[.int .i64 id, .int .i64 m, .int .i64 u, .int .i64 b, .int .i64 c, .int .i64 z, .int .i64 s, .int .i64 me, .int .i64 o, .int .i64 a, .int .i64 l]⟩] [RowF k59 59 w.heap.size (.slice A3 L.length k3) L, RowF k59 59 w.heap.size (.slice A L.length k) L] := (H.out.refs (fs' := [RowF k59 59 w.heap.size (.slice A3 L.length k3) L, RowF k59 59 w.heap.size (.slice A L.length k) L]) (by intro f hf; rcases List.mem_cons.1 hf with rfl | hf; exact H.out.fact 2 rfl; rcases List.mem_cons.1 hf with rfl | hf; exact H.out.fact 3 rfl; cases hf)).tail.tail
          exact ⟨⟨j + 1, L, A, k, A3, k3, rfl, by omega, HI2, Lib.hid H2⟩, by simp only [intOf]; push_cast; omega⟩
      · have eb : (E == 0) = false := beq_eq_false_iff_ne.mpr hE; have eb2 : (E != 0) = true := bne_iff_ne.mpr hE
        have HI2 := HI; have HRT := Lib.hid HI.out.1; have HML := Lib.hid (show L.length ≤ 1000000 by omega)
        have hr1 := HEN.out hE hd1
        subst hr1
        have hv := TabD_none (H.out.fact 1 rfl)
        obtain ⟨rfl, rfl, rfl, rfl, rfl, rfl, rfl, rfl, rfl, rfl, rfl, rfl, rfl, rfl⟩ := tab_inj hv.symm
        have g1_ := (Kd.R_reads' (H.out.fact 3 rfl : Kd.R k59 59 W140 w.heap.size (fun _ => True) (.slice A L.length k) L)).2.1; have g2_ := (Kd.R_reads' (H.out.fact 2 rfl : Kd.R k59 59 W140 w.heap.size (fun _ => True) (.slice A3 L.length k3) L)).2.1
        have hrz := fun W h => rightZ_any id m u b c z s me o a l A k L W h g1_
        rw [HRT.out] at hrz
        have HRZ := Lib.hid hrz; clear hrz
        have cV := H.out.cell 0 rfl
        have cU := H.out.cell 1 rfl
        have cQ := H.out.cell 2 rfl
        have cT := H.out.cell 3 rfl
        have cC := H.out.cell 4 rfl
        have ac := act_at2 (Kd.C_below HX.out H.out.below) j hlt
        go_wp2_with first
          | (go_at_call 18; refine (counts_any id m u b c z s me o a l A k L _ (Kd.R_reads' (H.out.fact 3 rfl)).2.2 g1_).mono ?_; rintro e W141 ⟨rfl, hb⟩; clear cV cU cQ cT cC ac; replace H := Lib.hid (H.out.called hb); clear hb; have cV := H.out.cell 0 rfl; have cU := H.out.cell 1 rfl; have cQ := H.out.cell 2 rfl; have cT := H.out.cell 3 rfl; have cC := H.out.cell 4 rfl; have ac := act_at2 (Kd.C_below HX.out H.out.below) j hlt)
          | (go_at_call 19; refine (same_any L A k A3 k3 _ (Kd.R_reads' (H.out.fact 3 rfl)).2.2 g1_ (Kd.R_reads' (H.out.fact 2 rfl)).2.2 g2_ HML.out).mono ?_; rintro e W142 ⟨rfl, hb⟩; clear cV cU cQ cT cC ac; replace H := Lib.hid (H.out.called hb); clear hb; have cV := H.out.cell 0 rfl; have cU := H.out.cell 1 rfl; have cQ := H.out.cell 2 rfl; have cT := H.out.cell 3 rfl; have cC := H.out.cell 4 rfl; have ac := act_at2 (Kd.C_below HX.out H.out.below) j hlt)
          | (go_at_call 20; (with_reducible refine (rcount_any id m u b c z s me o a l A3 k3 L 1 1 _ (Kd.R_reads' (H.out.fact 2 rfl)).2.2 g2_).mono ?_); rintro e W143 ⟨rfl, hb⟩; clear cV cU cQ cT cC ac; replace H := Lib.hid (H.out.called hb); clear hb; have cV := H.out.cell 0 rfl; have cU := H.out.cell 1 rfl; have cQ := H.out.cell 2 rfl; have cT := H.out.cell 3 rfl; have cC := H.out.cell 4 rfl; have ac := act_at2 (Kd.C_below HX.out H.out.below) j hlt)
          | (go_at_call 20; (with_reducible refine (rcount_any id m u b c z s me o a l A3 k3 L 1 2 _ (Kd.R_reads' (H.out.fact 2 rfl)).2.2 g2_).mono ?_); rintro e W144 ⟨rfl, hb⟩; clear cV cU cQ cT cC ac; replace H := Lib.hid (H.out.called hb); clear hb; have cV := H.out.cell 0 rfl; have cU := H.out.cell 1 rfl; have cQ := H.out.cell 2 rfl; have cT := H.out.cell 3 rfl; have cC := H.out.cell 4 rfl; have ac := act_at2 (Kd.C_below HX.out H.out.below) j hlt)
          | (go_at_call 21; refine (HRZ.out _ (Kd.R_reads' (H.out.fact 3 rfl)).2.2).mono ?_; rintro e W145 ⟨rfl, hb⟩; clear cV cU cQ cT cC ac; replace H := Lib.hid (H.out.called hb); clear hb; have cV := H.out.cell 0 rfl; have cU := H.out.cell 1 rfl; have cQ := H.out.cell 2 rfl; have cT := H.out.cell 3 rfl; have cC := H.out.cell 4 rfl; have ac := act_at2 (Kd.C_below HX.out H.out.below) j hlt)
        all_goals
          have H2 : Pk w W145 [⟨gQ, 35, #[.int .i64 id, .int .i64 m, .int .i64 u, .int .i64 b, .int .i64 c, .int .i64 z, .int .i64 s, .int .i64 me, .int .i64 o, .int .i64 a, .int .i64 l, .slice A3 L.length k3]⟩, ⟨gT, 27, #[.int .i64 id, .int .i64 m, .int .i64 u, .int .i64 b, .int .i64 c, .int .i64 z, .int .i64 s, .int .i64 me, .int .i64 o, .int .i64 a, .int .i64 l, .slice A L.length k]⟩, ⟨gC, 23, #[.int .i64 id, .int .i64 m, .int .i64 u, .int .i64 b, .int .i64 c, .int .i64 z, .int .i64 s, .int .i64 me, .int .i64 o, .int .i64 a, .int .i64 l]⟩] [RowF k59 59 w.heap.size (.slice A3 L.length k3) L, RowF k59 59 w.heap.size (.slice A L.length k) L] := (H.out.refs (fs' := [RowF k59 59 w.heap.size (.slice A3 L.length k3) L, RowF k59 59 w.heap.size (.slice A L.length k) L]) (by intro f hf; rcases List.mem_cons.1 hf with rfl | hf; exact H.out.fact 2 rfl; rcases List.mem_cons.1 hf with rfl | hf; exact H.out.fact 3 rfl; cases hf)).tail.tail
          exact ⟨⟨j + 1, L, A, k, A3, k3, rfl, by omega, HI2, Lib.hid H2⟩, by simp only [intOf]; push_cast; omega⟩
    · have c1 : ¬ (j : Int) < (n : Int) := by omega
      have cQ := H.out.cell 0 rfl
      have cT := H.out.cell 1 rfl
      have cC := H.out.cell 2 rfl
      go_wp2_with first
        | (go_at_call 14; refine (live_any _).mono ?_; rintro e W31 ⟨rfl, hb⟩; clear cQ cT cC; replace H := Lib.hid (H.out.called hb); clear hb; have cQ := H.out.cell 0 rfl; have cT := H.out.cell 1 rfl; have cC := H.out.cell 2 rfl)
      go_ret
      exact ⟨rfl, H.out.below⟩
theorem plays_gen (id m u b c z s me o a l : Int) (Aa : Option Addr) (ca : Nat) (xs : List S40) (w : World) (hr : Kd.C k40 w Aa xs.length xs) (hc : xs.length ≤ ca) :
    Calls Try.prog 3 #[.agg #[.int .i64 id, .int .i64 m, .int .i64 u, .int .i64 b, .int .i64 c, .int .i64 z, .int .i64 s, .int .i64 me, .int .i64 o, .int .i64 a, .int .i64 l], .slice Aa xs.length ca] w fun e w' => e = .returned (.bool true) ∧ Below w.heap.size w w' := by
  by_cases hk : checkC id m u b c z s me o a l = 0
  · by_cases h60 : 60 < xs.length
    · exact plays_much id m u b c z s me o a l Aa ca xs w hr hc hk h60
    · exact plays_go id m u b c z s me o a l Aa ca xs w hr hc hk h60
  · exact plays_no id m u b c z s me o a l Aa ca xs w hr hc hk
end Go.Proofs.Ytgckcaoncjhgbaa
namespace Go.Proofs.Ytgckcaoncjhgbaa
open Go.RowKit Go.Proofs.Ytgckcaoncjhgbaa.PL Go.Proofs.YtgckcaoncjhgbaaW.PrintWords Go.Proofs.YtgckcaoncjhgbaaW.PrintLast
set_option linter.unusedVariables false
set_option linter.unusedSimpArgs false
namespace PL
/-- The law as a function: true. -/
def revetmentlaw17_LzonePlays.f (id m u b c z s me o a l : Int) (xs : List S40) : Option Bool := some true
theorem revetmentlaw17_LzonePlays.calls (id m u b c z s me o a l : Int) (A1 : Option Addr) (c1 : Nat) (xs : List S40) (w : World) (hr1 : Kd.C k40 w A1 xs.length xs) (hc1 : xs.length ≤ c1) (h : revetmentlaw17_LzonePlays.f id m u b c z s me o a l xs = some true) :
    Calls Try.prog 3 #[.agg #[.int .i64 id, .int .i64 m, .int .i64 u, .int .i64 b, .int .i64 c, .int .i64 z, .int .i64 s, .int .i64 me, .int .i64 o, .int .i64 a, .int .i64 l], .slice A1 xs.length c1] w fun e w' => e = .returned (.bool true) ∧ Below w.heap.size w w' :=
  plays_gen id m u b c z s me o a l A1 c1 xs w hr1 hc1
end PL
theorem Geo.lzonePlays_true (id m u b c z s me o a l : Int) (xs : List S40) : revetmentlaw17_LzonePlays.f id m u b c z s me o a l xs = some true := rfl
end Go.Proofs.Ytgckcaoncjhgbaa
