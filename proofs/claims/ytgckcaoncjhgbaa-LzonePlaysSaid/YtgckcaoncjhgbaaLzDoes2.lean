/- revetmentlaw17.does: Read, no call; all calls. -/
import Derived.WalkKit
import Derived.WalkSpells
import Derived.WalkLawsBesides
import Derived.Lib.Hide
import Derived.Test.YtgckcaoncjhgbaaLzDoes
namespace Go.Proofs.Ytgckcaoncjhgbaa
open Go.RowKit Go.Proofs.Ytgckcaoncjhgbaa.PL Go.Proofs.YtgckcaoncjhgbaaW.PrintWords Go.Proofs.YtgckcaoncjhgbaaW.PrintLast
set_option linter.unusedVariables false
set_option linter.unusedSimpArgs false
def T16_6 : Bool × List (List Nat × List Nat) := (true, [([], []), ([], []), ([], []), ([2], [2]), ([], []), ([4], [4]), ([], []), ([6], [6]), ([1, 3, 5, 7], [1, 3, 5, 7]), ([8, 8], [8]), ([0, 9, 0], [0]), ([9, 10, 0, 1, 2, 3, 4, 5, 6, 7, 8, 9, 10], [9])])
theorem tab16_6 : rtab .any (opsOf Try.f16 6) = T16_6 := by kernel_rfl
theorem bits16_6 : waitsOk T16_6.2 [0, 0, 0, 4, 0, 16, 0, 64, 254, 510, 1023, 2047] = true := by kernel_rfl
abbrev tcTA (g h : Nat) (q0 q1 q2 q3 q4 q5 q6 q7 q8 q9 q10 : Int) (v : Value) (d i p k : Int) (W : World) : Prop := W.cell? ⟨g, 0, none⟩ = some (.int .i64 q0) ∧ W.cell? ⟨g, 1, none⟩ = some (.int .i64 q1) ∧ W.cell? ⟨g, 2, none⟩ = some (.int .i64 q2) ∧ W.cell? ⟨g, 3, none⟩ = some (.int .i64 q3) ∧ W.cell? ⟨g, 4, none⟩ = some (.int .i64 q4) ∧ W.cell? ⟨g, 5, none⟩ = some (.int .i64 q5) ∧ W.cell? ⟨g, 6, none⟩ = some (.int .i64 q6) ∧ W.cell? ⟨g, 7, none⟩ = some (.int .i64 q7) ∧ W.cell? ⟨g, 8, none⟩ = some (.int .i64 q8) ∧ W.cell? ⟨g, 9, none⟩ = some (.int .i64 q9) ∧ W.cell? ⟨g, 10, none⟩ = some (.int .i64 q10) ∧ W.cell? ⟨g, 11, none⟩ = some v ∧ W.cell? ⟨h, 0, none⟩ = some (.int .i64 d) ∧ W.cell? ⟨h, 1, none⟩ = some (.int .i64 i) ∧ W.cell? ⟨h, 2, none⟩ = some (.int .i64 p) ∧ W.cell? ⟨h, 3, none⟩ = some (.int .i64 k)
theorem tcTA_of {g h : Nat} {q0 q1 q2 q3 q4 q5 q6 q7 q8 q9 q10 : Int} {v : Value} {d i p k : Int} {W : World} (e : W.heap[g]? = some (tabO q0 q1 q2 q3 q4 q5 q6 q7 q8 q9 q10 v)) (f : W.heap[h]? = some (actO d i p k)) : tcTA g h q0 q1 q2 q3 q4 q5 q6 q7 q8 q9 q10 v d i p k W :=
  ⟨(blk_cell e 0).trans rfl, (blk_cell e 1).trans rfl, (blk_cell e 2).trans rfl, (blk_cell e 3).trans rfl, (blk_cell e 4).trans rfl, (blk_cell e 5).trans rfl, (blk_cell e 6).trans rfl, (blk_cell e 7).trans rfl, (blk_cell e 8).trans rfl, (blk_cell e 9).trans rfl, (blk_cell e 10).trans rfl, (blk_cell e 11).trans rfl, (blk_cell f 0).trans rfl, (blk_cell f 1).trans rfl, (blk_cell f 2).trans rfl, (blk_cell f 3).trans rfl⟩
set_option maxHeartbeats 4000000 in
set_option maxRecDepth 100000 in
theorem does_Read (id m u b c z s me o a l : Int) (A0 : Option Addr) (c0 : Nat) (L : List S59) (i p k : Int) (w : World) (hr0 : Kd.C k59 w A0 L.length L) (hc0 : L.length ≤ c0) :
    Calls Try.prog 16 #[tabV id m u b c z s me o a l (.slice A0 L.length c0), .agg #[.int .i64 1, .int .i64 i, .int .i64 p, .int .i64 k]] w fun e w' => ∃ v, e = .returned (.tuple #[v, .int .i64 (((some L, readZ id m u b c z s me o a l L i p k) : Option (List S59) × Int)).2]) ∧ TabD id m u b c z s me o a l (((some L, readZ id m u b c z s me o a l L i p k) : Option (List S59) × Int)).1 L (.slice A0 L.length c0) w.heap.size w' v ∧ Below w.heap.size w w' := by
  have hW := fun W h => read_any id m u b c z s me o a l A0 c0 L i p k W h hc0
  generalize readZ id m u b c z s me o a l L i p k = E at hW ⊢
  obtain ⟨n, hn⟩ : ∃ n, n = L.length := ⟨_, rfl⟩
  rw [← hn] at hW hr0 hc0 ⊢
  have HR := Lib.hid hr0; have HW := Lib.hid hW; have Hn := Lib.hid hn; have HC0 := Lib.hid hc0; clear hr0 hW hn hc0
  have H3x := al3 w (tabO id m u b c z s me o a l (.slice A0 n c0)) (actO 1 i p k) (tabO 0 0 0 0 0 0 0 0 0 0 0 (.slice none 0 0))
  obtain ⟨t0, t1, t2, t3, t4, t5, t6, t7, t8, t9, t10, t11⟩ := cz12 H3x.1
  clear H3x
  have H := al4 w (tabO id m u b c z s me o a l (.slice A0 n c0)) (actO 1 i p k) (tabO 0 0 0 0 0 0 0 0 0 0 0 (.slice none 0 0)) (tabO id m u b c z s me o a l (.slice A0 n c0))
  have H0 := Lib.hid H.1; have H1 := Lib.hid H.2.1; have H2 := Lib.hid H.2.2.1; have H3 := Lib.hid H.2.2.2.1; have HB0 := Lib.hid H.2.2.2.2; clear H
  obtain ⟨s0, s1, s2, s3, s4, s5, s6, s7, s8, s9, s10, s11⟩ := cz12 H0.out
  obtain ⟨a0, a1, a2, a3⟩ := cz4 H1.out
  have h23 : w.heap.size + 1 + 1 ≠ w.heap.size + 1 + 1 + 1 := by omega
  have h32 : w.heap.size + 1 + 1 + 1 ≠ w.heap.size + 1 + 1 := by omega
  have hge : w.heap.size ≤ w.heap.size + 1 + 1 := by omega
  have hgf : w.heap.size ≤ w.heap.size + 1 + 1 + 1 := by omega
  go_enter Try.func16, Try.ntmps16
  go_wp2
  refine start_ (n := 12) (S := (tcTA w.heap.size (w.heap.size + 1) id m u b c z s me o a l (.slice A0 n c0) 1 i p k)) (ds := []) (bq 12 0) (by kernel_rfl) rfl (by kernel_rfl) (tcTA_of (blk_drew H0.out) (blk_drew H1.out)) (fun hHeld => ?_)
  refine with_tabW tab16_6 bits16_6 (fun HT_ HW_ => ?_)
  apply tu 0 26 (bq 12 1) HT_ HW_ hHeld
  apply tu 1 27 (bq 12 3) HT_ HW_ hHeld
  apply pu 2 28 (bq 12 7) HT_
  apply pu 4 30 (bq 12 23) HT_
  apply pu 6 32 (bq 12 87) HT_
  apply tu 3 29 (bq 12 95) HT_ HW_ hHeld
  apply tu 5 31 (bq 12 127) HT_ HW_ hHeld
  apply tu 7 33 (bq 12 255) HT_ HW_ hHeld
  refine one_ (i := 8) (N := some 34) (bq 12 511) rfl rfl (one_of HT_.out (by kernel_rfl)) (by decide) (fun K hK => ?_)
  refine gs Try.func57 #[tabV id m u b c z s me o a l (.slice A0 n c0), .int .i64 i, .int .i64 p, .int .i64 k] ?_
  refine (HW.out _ (Kd.C_drew (Kd.C_below HR.out HB0.out))).mono ?_
  rintro e w5 ⟨rfl, hb⟩
  refine ⟨_, rfl, ?_⟩
  have K5 := Lib.hid (blk_below (blk_drew H0.out) hb); have A5 := Lib.hid (blk_below (blk_drew H1.out) hb); have G5 := Lib.hid (blk_below (blk_drew H2.out) hb); have HB5 := Lib.hid (below_step (below_drew1 HB0.out) hb); clear hb
  refine hK.out _ _ (tcTA_of K5.out A5.out) (fun hHeld => ?_)
  clear hK K
  apply nm 0
  refine one_ (i := 9) (N := some 35) (bq 12 1023) rfl rfl (one_of HT_.out (by kernel_rfl)) (by decide) (fun K hK => ?_)
  refine gs Try.func12 #[.int .i64 E] ?_
  refine (code_any _ _).mono ?_
  rintro e w6 ⟨rfl, hb⟩
  refine ⟨_, rfl, ?_⟩
  have K6 := Lib.hid (blk_below K5.out hb); have A6 := Lib.hid (blk_below A5.out hb); have G6 := Lib.hid (blk_below G5.out hb); have HB6 := Lib.hid (below_step HB5.out hb); clear hb
  refine hK.out _ _ (tcTA_of K6.out A6.out) (fun hHeld => ?_)
  clear hK K
  apply nm 0
  refine one_ (i := 10) (N := none) (bq 12 2047) rfl rfl (one_of HT_.out (by kernel_rfl)) (by decide) (fun K hK => ?_)
  obtain ⟨g0, g1, g2, g3, g4, g5, g6, g7, g8, g9, g10, g11⟩ := cz12 G6.out
  obtain ⟨gf0, gf1, gf2, gf3, gf4, gf5, gf6, gf7, gf8, gf9, gf10, gf11⟩ := fz12 G6.out
  refine skip_ (w1 := ?_) (by rfl) rfl ?_ ?_
  rotate_left
  · go_simp
    rfl
  refine hK.out _ _ (tcTA_of (far12 K6.out (by omega)) (far12 A6.out (by omega))) (fun hHeld => ?_)
  clear hK K
  apply pu 11 5 (bq 12 4095) HT_
  refine done_ (done_of HT_.out (by kernel_rfl)) ?_
  go_wp2
  refine bodyPost_ret (results_ct rfl _ _ (w.heap.size + 1 + 1) 27 #[.int .i64 id, .int .i64 m, .int .i64 u, .int .i64 b, .int .i64 c, .int .i64 z, .int .i64 s, .int .i64 me, .int .i64 o, .int .i64 a, .int .i64 l, .slice A0 n c0] (0, 0) _ rfl (put12 G6.out) Try.underlying27 rfl (by kernel_rfl)) rfl ?_
  exact ⟨_, rfl, .inr ⟨rfl, rfl⟩, bl12 HB6.out hge⟩

set_option maxHeartbeats 4000000 in
set_option maxRecDepth 100000 in
theorem does_none (id m u b c z s me o a l : Int) (A0 : Option Addr) (c0 : Nat) (L : List S59) (d i p k : Int) (e0 : ¬ d = 0) (e1 : ¬ d = 1) (e2 : ¬ d = 2) (e3 : ¬ d = 3) (e4 : ¬ d = 4) (e5 : ¬ d = 5) (w : World) (hr0 : Kd.C k59 w A0 L.length L) (hc0 : L.length ≤ c0) :
    Calls Try.prog 16 #[tabV id m u b c z s me o a l (.slice A0 L.length c0), .agg #[.int .i64 d, .int .i64 i, .int .i64 p, .int .i64 k]] w fun e w' => ∃ v, e = .returned (.tuple #[v, .int .i64 (((some L, 0) : Option (List S59) × Int)).2]) ∧ TabD id m u b c z s me o a l (((some L, 0) : Option (List S59) × Int)).1 L (.slice A0 L.length c0) w.heap.size w' v ∧ Below w.heap.size w w' := by
  have hW : True := trivial
  obtain ⟨n, hn⟩ : ∃ n, n = L.length := ⟨_, rfl⟩
  rw [← hn] at hr0 hc0 ⊢
  have HR := Lib.hid hr0; have HW := Lib.hid hW; have Hn := Lib.hid hn; have HC0 := Lib.hid hc0; clear hr0 hW hn hc0
  have H3x := al3 w (tabO id m u b c z s me o a l (.slice A0 n c0)) (actO d i p k) (tabO 0 0 0 0 0 0 0 0 0 0 0 (.slice none 0 0))
  obtain ⟨t0, t1, t2, t3, t4, t5, t6, t7, t8, t9, t10, t11⟩ := cz12 H3x.1
  clear H3x
  have H := al4 w (tabO id m u b c z s me o a l (.slice A0 n c0)) (actO d i p k) (tabO 0 0 0 0 0 0 0 0 0 0 0 (.slice none 0 0)) (tabO id m u b c z s me o a l (.slice A0 n c0))
  have H0 := Lib.hid H.1; have H1 := Lib.hid H.2.1; have H2 := Lib.hid H.2.2.1; have H3 := Lib.hid H.2.2.2.1; have HB0 := Lib.hid H.2.2.2.2; clear H
  obtain ⟨s0, s1, s2, s3, s4, s5, s6, s7, s8, s9, s10, s11⟩ := cz12 H0.out
  obtain ⟨a0, a1, a2, a3⟩ := cz4 H1.out
  have h23 : w.heap.size + 1 + 1 ≠ w.heap.size + 1 + 1 + 1 := by omega
  have h32 : w.heap.size + 1 + 1 + 1 ≠ w.heap.size + 1 + 1 := by omega
  have hge : w.heap.size ≤ w.heap.size + 1 + 1 := by omega
  have hgf : w.heap.size ≤ w.heap.size + 1 + 1 + 1 := by omega
  have b0 : (d == 0) = false := beq_eq_false_iff_ne.mpr e0; have b1 : (d == 1) = false := beq_eq_false_iff_ne.mpr e1; have b2 : (d == 2) = false := beq_eq_false_iff_ne.mpr e2; have b3 : (d == 3) = false := beq_eq_false_iff_ne.mpr e3; have b4 : (d == 4) = false := beq_eq_false_iff_ne.mpr e4; have b5 : (d == 5) = false := beq_eq_false_iff_ne.mpr e5
  go_enter Try.func16, Try.ntmps16
  go_wp2
  refine start_ (n := 5) (S := (tcT (w.heap.size + 1 + 1 + 1) id m u b c z s me o a l (.slice A0 n c0))) (ds := []) (bq 5 0) (by kernel_rfl) rfl (by kernel_rfl) (tcT_of (blk_drew H3.out)) (fun hHeld => ?_)
  refine with_tabW tab16_15 bits16_15 (fun HT_ HW_ => ?_)
  apply tu 0 72 (bq 5 1) HT_ HW_ hHeld
  apply pu 1 73 (bq 5 3) HT_
  refine one_ (i := 2) (N := some 74) (bq 5 7) rfl rfl (one_of HT_.out (by kernel_rfl)) (by decide) (fun K hK => ?_)
  refine gs Try.func12 #[.int .i64 0] ?_
  refine (code_any _ _).mono ?_
  rintro e w6 ⟨rfl, hb⟩
  refine ⟨_, rfl, ?_⟩
  have G6 := Lib.hid (blk_below (blk_drew H2.out) hb); have X6 := Lib.hid (blk_below (blk_drew H3.out) hb); have HB6 := Lib.hid (below_step (below_drew1 HB0.out) hb); clear hb
  refine hK.out _ _ (tcT_of X6.out) (fun hHeld => ?_)
  clear hK K
  apply nm 0
  refine one_ (i := 3) (N := none) (bq 5 15) rfl rfl (one_of HT_.out (by kernel_rfl)) (by decide) (fun K hK => ?_)
  obtain ⟨g0, g1, g2, g3, g4, g5, g6, g7, g8, g9, g10, g11⟩ := cz12 G6.out
  obtain ⟨gf0, gf1, gf2, gf3, gf4, gf5, gf6, gf7, gf8, gf9, gf10, gf11⟩ := fz12 G6.out
  refine skip_ (w1 := ?_) (by rfl) rfl ?_ ?_
  rotate_left
  · go_simp
    rfl
  refine hK.out _ _ (tcT_of (far12 X6.out h32)) (fun hHeld => ?_)
  clear hK K
  apply pu 4 5 (bq 5 31) HT_
  refine done_ (done_of HT_.out (by kernel_rfl)) ?_
  go_wp2
  refine bodyPost_ret (results_ct rfl _ _ (w.heap.size + 1 + 1) 27 #[.int .i64 id, .int .i64 m, .int .i64 u, .int .i64 b, .int .i64 c, .int .i64 z, .int .i64 s, .int .i64 me, .int .i64 o, .int .i64 a, .int .i64 l, .slice A0 n c0] (0, 0) _ rfl (put12 G6.out) Try.underlying27 rfl (by kernel_rfl)) rfl ?_
  exact ⟨_, rfl, .inr ⟨rfl, rfl⟩, bl12 HB6.out hge⟩

/-- What a call answers, by its number. -/
def doesZ (id m u b c z s me o a l : Int) (L : List S59) (x : S40) : Option (List S59) × Int :=
  if x.f0 = 0 then writeZ id m u b c z s me o a l L x.f1 x.f2 x.f3 else if x.f0 = 1 then (some L, readZ id m u b c z s me o a l L x.f1 x.f2 x.f3) else if x.f0 = 2 then resetZ id m u b c z s me o a l L x.f1 else if x.f0 = 3 then finishZ id m u b c z s me o a l L x.f1 else if x.f0 = 4 then openZ id m u b c z s me o a l L x.f1 else if x.f0 = 5 then closeZ id m u b c z s me o a l L x.f1 else (some L, 0)
theorem does_any (id m u b c z s me o a l : Int) (A0 : Option Addr) (c0 : Nat) (L : List S59) (x : S40) (w : World) (hr0 : Kd.C k59 w A0 L.length L) (hc0 : L.length ≤ c0) :
    Calls Try.prog 16 #[tabV id m u b c z s me o a l (.slice A0 L.length c0), actV x] w fun e w' => ∃ v, e = .returned (.tuple #[v, .int .i64 (doesZ id m u b c z s me o a l L x).2]) ∧ TabD id m u b c z s me o a l (doesZ id m u b c z s me o a l L x).1 L (.slice A0 L.length c0) w.heap.size w' v ∧ Below w.heap.size w w' := by
  obtain ⟨d, i, p, k⟩ := x
  unfold doesZ
  dsimp only
  by_cases e0 : d = 0
  · subst e0; rw [if_pos rfl]; exact does_Write id m u b c z s me o a l A0 c0 L i p k w hr0 hc0
  rw [if_neg e0]
  by_cases e1 : d = 1
  · subst e1; rw [if_pos rfl]; exact does_Read id m u b c z s me o a l A0 c0 L i p k w hr0 hc0
  rw [if_neg e1]
  by_cases e2 : d = 2
  · subst e2; rw [if_pos rfl]; exact does_Reset id m u b c z s me o a l A0 c0 L i p k w hr0 hc0
  rw [if_neg e2]
  by_cases e3 : d = 3
  · subst e3; rw [if_pos rfl]; exact does_Finish id m u b c z s me o a l A0 c0 L i p k w hr0 hc0
  rw [if_neg e3]
  by_cases e4 : d = 4
  · subst e4; rw [if_pos rfl]; exact does_Open id m u b c z s me o a l A0 c0 L i p k w hr0 hc0
  rw [if_neg e4]
  by_cases e5 : d = 5
  · subst e5; rw [if_pos rfl]; exact does_Close id m u b c z s me o a l A0 c0 L i p k w hr0 hc0
  rw [if_neg e5]
  exact does_none id m u b c z s me o a l A0 c0 L d i p k e0 e1 e2 e3 e4 e5 w hr0 hc0
end Go.Proofs.Ytgckcaoncjhgbaa
