/- The walk of revetmentlaw17.LzoneAny. -/
import Derived.WalkKit
import Derived.WalkSpells
import Derived.WalkLawsBesides
import Derived.Lib.Hide
import Derived.Test.YtlellnmpogimlaaLzShould
import Derived.Test.YtlellnmpogimlaaPLx15
namespace Go.Proofs.Ytlellnmpogimlaa
-- revetmentref17_Same.calls
open Go.RowKit Go.Proofs.Ytlellnmpogimlaa.PL Go.Proofs.YtlellnmpogimlaaW.PrintWords Go.Proofs.YtlellnmpogimlaaW.PrintLast
set_option linter.unusedVariables false
set_option linter.unusedSimpArgs false
theorem same_any (M : List S57) (A1 : Option Addr) (k1 : Nat) (A3 : Option Addr) (k3 : Nat) (W : World) (h1 : Kd.C k57 W A1 M.length M) (g1 : M.length ≤ k1) (h3 : Kd.C k57 W A3 M.length M) (g3 : M.length ≤ k3) (hl : M.length ≤ 1000000) :
    Calls Try.prog 13 #[.slice A1 M.length k1, .slice A3 M.length k3] W fun e w' => e = .returned (.bool true) ∧ Below W.heap.size W w' := by
  refine (revetmentref17_Same.calls (M.length + 1) A1 k1 M A3 k3 M true W h1 g1 h3 g3 ?_).mono ?_
  · unfold revetmentref17_Same.f
    rw [if_pos rfl]
    have := Geo.same_loop M hl M.length 0 (M.length + 1) (by omega) (by omega)
    exact this
  · rintro e w' ⟨rfl, nd, rfl⟩
    exact ⟨rfl, pw_below_drewN (Below.refl _ _) nd⟩
/-- The zones of a table that is an answer, read. -/
theorem TabD_read {id m u b c z s me o a l : Int} {r : Option (List S57)} {L : List S57} {A : Option Addr} {k base : Nat} {W : World} {v : Value} (h : TabD id m u b c z s me o a l r L (.slice A L.length k) base W v) (hC : Kd.C k57 W A L.length L) (hk : L.length ≤ k) :
    ∃ (q0 q1 q2 q3 q4 q5 q6 q7 q8 q9 q10 : Int) (A' : Option Addr) (k' : Nat), v = tabV q0 q1 q2 q3 q4 q5 q6 q7 q8 q9 q10 (.slice A' (r.getD []).length k') ∧ (r.getD []).length ≤ k' ∧ Kd.C k57 W A' (r.getD []).length (r.getD []) := by
  rcases h with (⟨rfl, rfl⟩ | ⟨L', y, rfl, rfl, h2⟩) | ⟨rfl, rfl⟩
  · exact ⟨0, 0, 0, 0, 0, 0, 0, 0, 0, 0, 0, none, 0, rfl, Nat.le_refl _, (Kd.R_reads' (Kd.R_nil k57 57 W 0 (fun _ => True))).2.2⟩
  · obtain ⟨A', k', rfl, hle, hC2⟩ := Kd.R_reads h2
    exact ⟨_, _, _, _, _, _, _, _, _, _, _, A', k', rfl, hle, hC2⟩
  · exact ⟨_, _, _, _, _, _, _, _, _, _, _, A, k, rfl, hk, hC⟩
theorem getD_set (L : List S57) (i : Nat) (y : S57) : ((some (L.set i y)).getD []).length ≤ L.length := by rw [Option.getD_some, List.length_set]; exact Nat.le_refl _
theorem doesZ_len (id m u b c z s me o a l : Int) (L : List S57) (x : S47) : ((doesZ id m u b c z s me o a l L x).1.getD []).length ≤ L.length := by
  have hn : ((none : Option (List S57)).getD []).length ≤ L.length := Nat.zero_le _
  unfold doesZ
  split
  · unfold writeZ; repeat' split
    all_goals first | exact hn | exact getD_set _ _ _
  split
  · exact Nat.le_refl _
  split
  · unfold resetZ; repeat' split
    all_goals first | exact hn | exact getD_set _ _ _
  split
  · unfold finishZ; repeat' split
    all_goals first | exact hn | exact getD_set _ _ _
  split
  · unfold openZ; repeat' split
    all_goals first | exact hn | exact getD_set _ _ _
  split
  · unfold closeZ; repeat' split
    all_goals first | exact hn | exact getD_set _ _ _
  exact Nat.le_refl _
abbrev cfO (id m u b c z s me o a l : Int) : Obj := .cells #[.int .i64 id, .int .i64 m, .int .i64 u, .int .i64 b, .int .i64 c, .int .i64 z, .int .i64 s, .int .i64 me, .int .i64 o, .int .i64 a, .int .i64 l] 23
/-- What the block of settings holds. -/
abbrev cfS (g : Nat) (id m u b c z s me o a l : Int) (W : World) : Prop := W.cell? ⟨g, 0, none⟩ = some (.int .i64 id) ∧ W.cell? ⟨g, 1, none⟩ = some (.int .i64 m) ∧ W.cell? ⟨g, 2, none⟩ = some (.int .i64 u) ∧ W.cell? ⟨g, 3, none⟩ = some (.int .i64 b) ∧ W.cell? ⟨g, 4, none⟩ = some (.int .i64 c) ∧ W.cell? ⟨g, 5, none⟩ = some (.int .i64 z) ∧ W.cell? ⟨g, 6, none⟩ = some (.int .i64 s) ∧ W.cell? ⟨g, 7, none⟩ = some (.int .i64 me) ∧ W.cell? ⟨g, 8, none⟩ = some (.int .i64 o) ∧ W.cell? ⟨g, 9, none⟩ = some (.int .i64 a) ∧ W.cell? ⟨g, 10, none⟩ = some (.int .i64 l)
theorem cfS_of {g : Nat} {id m u b c z s me o a l : Int} {W : World} (h : W.heap[g]? = some (cfO id m u b c z s me o a l)) : cfS g id m u b c z s me o a l W := cz11 h
/-- What the blocks of two tables hold. -/
abbrev tcTT (g h : Nat) (id m u b c z s me o a l : Int) (v : Value) (W : World) : Prop := W.cell? ⟨g, 0, none⟩ = some (.int .i64 id) ∧ W.cell? ⟨g, 1, none⟩ = some (.int .i64 m) ∧ W.cell? ⟨g, 2, none⟩ = some (.int .i64 u) ∧ W.cell? ⟨g, 3, none⟩ = some (.int .i64 b) ∧ W.cell? ⟨g, 4, none⟩ = some (.int .i64 c) ∧ W.cell? ⟨g, 5, none⟩ = some (.int .i64 z) ∧ W.cell? ⟨g, 6, none⟩ = some (.int .i64 s) ∧ W.cell? ⟨g, 7, none⟩ = some (.int .i64 me) ∧ W.cell? ⟨g, 8, none⟩ = some (.int .i64 o) ∧ W.cell? ⟨g, 9, none⟩ = some (.int .i64 a) ∧ W.cell? ⟨g, 10, none⟩ = some (.int .i64 l) ∧ W.cell? ⟨g, 11, none⟩ = some (v) ∧ W.cell? ⟨h, 0, none⟩ = some (.int .i64 id) ∧ W.cell? ⟨h, 1, none⟩ = some (.int .i64 m) ∧ W.cell? ⟨h, 2, none⟩ = some (.int .i64 u) ∧ W.cell? ⟨h, 3, none⟩ = some (.int .i64 b) ∧ W.cell? ⟨h, 4, none⟩ = some (.int .i64 c) ∧ W.cell? ⟨h, 5, none⟩ = some (.int .i64 z) ∧ W.cell? ⟨h, 6, none⟩ = some (.int .i64 s) ∧ W.cell? ⟨h, 7, none⟩ = some (.int .i64 me) ∧ W.cell? ⟨h, 8, none⟩ = some (.int .i64 o) ∧ W.cell? ⟨h, 9, none⟩ = some (.int .i64 a) ∧ W.cell? ⟨h, 10, none⟩ = some (.int .i64 l) ∧ W.cell? ⟨h, 11, none⟩ = some (v)
theorem tcTT_of {g h : Nat} {id m u b c z s me o a l : Int} {v : Value} {W : World} (e : W.heap[g]? = some (tabO id m u b c z s me o a l v)) (f : W.heap[h]? = some (rtabO id m u b c z s me o a l v)) : tcTT g h id m u b c z s me o a l v W :=
  ⟨(blk_cell e 0).trans rfl, (blk_cell e 1).trans rfl, (blk_cell e 2).trans rfl, (blk_cell e 3).trans rfl, (blk_cell e 4).trans rfl, (blk_cell e 5).trans rfl, (blk_cell e 6).trans rfl, (blk_cell e 7).trans rfl, (blk_cell e 8).trans rfl, (blk_cell e 9).trans rfl, (blk_cell e 10).trans rfl, (blk_cell e 11).trans rfl, (blk_cell f 0).trans rfl, (blk_cell f 1).trans rfl, (blk_cell f 2).trans rfl, (blk_cell f 3).trans rfl, (blk_cell f 4).trans rfl, (blk_cell f 5).trans rfl, (blk_cell f 6).trans rfl, (blk_cell f 7).trans rfl, (blk_cell f 8).trans rfl, (blk_cell f 9).trans rfl, (blk_cell f 10).trans rfl, (blk_cell f 11).trans rfl⟩
def T5_3 : Bool × List (List Nat × List Nat) := (true, [([], []), ([], []), ([0, 1], [0, 1]), ([], []), ([], []), ([3, 4], [3, 4]), ([], []), ([], []), ([6, 2, 0, 1, 2, 6, 7], [2, 6]), ([7, 5, 8, 0, 1, 2, 3, 4, 5, 6, 7, 8], [5, 7])])
theorem tab5_3 : rtab .any (opsOf Try.f5 3) = T5_3 := by kernel_rfl
theorem bits5_3 : waitsOk T5_3.2 [0, 0, 3, 0, 0, 24, 0, 0, 199, 511] = true := by kernel_rfl
def T5_4 : Bool × List (List Nat × List Nat) := (true, [([], []), ([0], [0]), ([], []), ([2, 1], [2]), ([1, 3], [1, 3])])
theorem tab5_4 : rtab .any (opsOf Try.f5 4) = T5_4 := by kernel_rfl
theorem bits5_4 : waitsOk T5_4.2 [0, 1, 0, 7, 15] = true := by kernel_rfl
set_option maxHeartbeats 4000000 in
set_option maxRecDepth 100000 in
theorem any_walk (id m u b c z s me o a l : Int) (A0 : Option Addr) (c0 : Nat) (L : List S57) (x : S47) (w : World) (hr : Kd.C k57 w A0 L.length L) (hc : L.length ≤ c0) :
    Calls Try.prog 5 #[.agg #[.int .i64 id, .int .i64 m, .int .i64 u, .int .i64 b, .int .i64 c, .int .i64 z, .int .i64 s, .int .i64 me, .int .i64 o, .int .i64 a, .int .i64 l], .slice A0 L.length c0, actV x] w fun e w' => e = .returned (.bool true) ∧ Below w.heap.size w w' := by
  obtain ⟨n, hn⟩ : ∃ n, n = L.length := ⟨_, rfl⟩
  have hrz := fun W h => rightZ_any id m u b c z s me o a l A0 c0 L W h hc
  have hrr := fun (hl : L.length ≤ 1000000) W h => rright_any id m u b c z s me o a l A0 c0 L W h hc hl
  have hd := fun W h => does_any id m u b c z s me o a l A0 c0 L x W h hc
  have hs := fun (hl : L.length ≤ 1000000) W h => should_any id m u b c z s me o a l A0 c0 L x W h hc hl
  have hml := doesZ_len id m u b c z s me o a l L x
  obtain ⟨d, i, p, k⟩ := x
  generalize rightZ id m u b c z s me o a l L = RB at hrz hrr
  generalize doesZ id m u b c z s me o a l L ⟨d, i, p, k⟩ = rE at hd hs hml
  obtain ⟨r, E⟩ := rE
  dsimp only at hd hs hml
  obtain ⟨M, hM⟩ : ∃ M, M = r.getD [] := ⟨_, rfl⟩
  rw [← hM] at hml
  have HM := Lib.hid hM; clear hM
  by_cases h80 : 80 < (L.length : Int)
  · rw [← hn] at h80 ⊢
    clear hn hrz hrr hd hs
    have H := al2 w (cfO id m u b c z s me o a l) (actO d i p k)
    have H0 := Lib.hid H.1; have H1 := Lib.hid H.2.1; have HB0 := Lib.hid H.2.2; clear H
    go_enter Try.func5, Try.ntmps5
    go_wp2_with first
      | (go_at_call 7; refine (live_any _).mono ?_; rintro e w9 ⟨rfl, hb⟩; have HB9 := Lib.hid (below_step HB0.out hb); clear hb)
    go_ret
    exact ⟨rfl, HB9.out⟩
  have hl : L.length ≤ 1000000 := by omega
  have hrr := hrr hl
  have hs := hs hl
  have HML := Lib.hid (show M.length ≤ 1000000 by omega)
  rw [← hn] at hr hc hrz hrr hd hs h80 ⊢
  have HX := Lib.hid hr; have Hn := Lib.hid hn; have HRZ := Lib.hid hrz; have HRR := Lib.hid hrr; have HD := Lib.hid hd; have HS := Lib.hid hs
  clear hr hn hrz hrr hd hs hml hl
  have H := al2 w (cfO id m u b c z s me o a l) (actO d i p k)
  have H0 := Lib.hid H.1; have H1 := Lib.hid H.2.1; have HB0 := Lib.hid H.2.2; clear H
  by_cases hd1 : d = 1
  · subst hd1
    go_enter Try.func5, Try.ntmps5
    go_wp2
    refine start_ (n := 10) (S := fun W => cfS w.heap.size id m u b c z s me o a l W) (ds := []) (bq 10 0) (by kernel_rfl) rfl (by kernel_rfl) (cfS_of (blk_drew H0.out)) (fun hHeld => ?_)
    refine with_tabW tab5_3 bits5_3 (fun HT_ HW_ => ?_)
    apply tu 0 17 (bq 10 1) HT_ HW_ hHeld
    apply pu 1 18 (bq 10 3) HT_
    apply pu 2 19 (bq 10 7) HT_
    apply tu 3 20 (bq 10 15) HT_ HW_ hHeld
    apply pu 4 21 (bq 10 31) HT_
    apply pu 5 22 (bq 10 63) HT_
    refine join_ (σ := Nat × Nat) 2 (bq 10 255) (fun y => [(7, .pointer (some ⟨y.1, 0, none⟩)), (8, .pointer (some ⟨y.2, 0, none⟩))]) (fun y W => (cfS w.heap.size id m u b c z s me o a l W) ∧ W.heap[w.heap.size]? = some (cfO id m u b c z s me o a l) ∧ W.heap[w.heap.size + 1]? = some (actO 1 i p k) ∧ W.heap[y.1]? = some (tabO 0 0 0 0 0 0 0 0 0 0 0 (.slice none 0 0)) ∧ W.heap[y.2]? = some (rtabO 0 0 0 0 0 0 0 0 0 0 0 (.slice none 0 0)) ∧ y.1 ≠ y.2 ∧ w.heap.size ≠ y.1 ∧ w.heap.size + 1 ≠ y.1 ∧ w.heap.size ≤ y.1 ∧ w.heap.size ≠ y.2 ∧ w.heap.size + 1 ≠ y.2 ∧ w.heap.size ≤ y.2 ∧ Below w.heap.size w W) ?_ ?_
    rotate_left
    · intro hCont
      refine two_ (i := 6) (j := 7) (Ni := some 7) (Nj := some 8) (bq 10 127) (bq 10 191) rfl rfl rfl rfl (two_of HT_.out (by kernel_rfl)) (by decide) (by decide) (fun K hK => ?_) (fun K hK => ?_)
      · refine box_step ?hg (N := 7) ?hd (cs := #[.int .i64 0, .int .i64 0, .int .i64 0, .int .i64 0, .int .i64 0, .int .i64 0, .int .i64 0, .int .i64 0, .int .i64 0, .int .i64 0, .int .i64 0, .slice none 0 0]) (t := 27) ?hr ?_; (case hd => rfl); (case hg => rfl); (case hr => first | (go_simp; done) | (go_simp; rfl))
        intro g7 hgg7 w4 hbox hb
        have C4 := Lib.hid (blk_below (blk_drew H0.out) hb); have A4 := Lib.hid (blk_below (blk_drew H1.out) hb); have N74 := Lib.hid hbox; have Eg7 : Hid (w.heap.size ≠ g7) := Lib.hid (by rw [hgg7]; exact Nat.ne_of_lt (blk_lt (blk_drew H0.out))); have Dg7 : Hid (w.heap.size + 1 ≠ g7) := Lib.hid (by rw [hgg7]; exact Nat.ne_of_lt (blk_lt (blk_drew H1.out))); have Lg7 : Hid (w.heap.size ≤ g7) := Lib.hid (by rw [hgg7]; exact (below_drew1 HB0.out).size); have HB4 := Lib.hid (below_step (below_drew1 HB0.out) hb); clear hb hbox hgg7
        refine hK.out _ _ (cfS_of C4.out) (fun hHeld => ?_)
        clear hK K
        apply nm 0
        refine one_ (i := 7) (N := some 8) (bq 10 255) rfl rfl (one_of HT_.out (by kernel_rfl)) (by decide) (fun K hK => ?_)
        refine box_step ?hg (N := 8) ?hd (cs := #[.int .i64 0, .int .i64 0, .int .i64 0, .int .i64 0, .int .i64 0, .int .i64 0, .int .i64 0, .int .i64 0, .int .i64 0, .int .i64 0, .int .i64 0, .slice none 0 0]) (t := 34) ?hr ?_; (case hd => rfl); (case hg => rfl); (case hr => first | (go_simp; done) | (go_simp; rfl))
        intro g8 hgg8 w5 hbox hb
        have C5 := Lib.hid (blk_below C4.out hb); have A5 := Lib.hid (blk_below A4.out hb); have N7 := Lib.hid (blk_below N74.out hb); have N8 := Lib.hid hbox; have Eg8 : Hid (w.heap.size ≠ g8) := Lib.hid (by rw [hgg8]; exact Nat.ne_of_lt (blk_lt C4.out)); have Dg8 : Hid (w.heap.size + 1 ≠ g8) := Lib.hid (by rw [hgg8]; exact Nat.ne_of_lt (blk_lt A4.out)); have Lg8 : Hid (w.heap.size ≤ g8) := Lib.hid (by rw [hgg8]; exact HB4.out.size); have E78 : Hid (g7 ≠ g8) := Lib.hid (by rw [hgg8]; exact Nat.ne_of_lt (blk_lt N74.out)); have HB5 := Lib.hid (below_step HB4.out hb); clear hb hbox hgg8
        refine hK.out _ _ (cfS_of C5.out) (fun hHeld => ?_)
        clear hK K
        apply nm 0
        exact norm_ (by simp only [putAll, Act.put, List.setIfInBounds_toArray, List.set_cons_zero, List.set_cons_succ]) (hCont (g7, g8) _ ⟨hHeld, C5.out, A5.out, N7.out, N8.out, E78.out, Eg7.out, Dg7.out, Lg7.out, Eg8.out, Dg8.out, Lg8.out, HB5.out⟩)
      · refine box_step ?hg (N := 8) ?hd (cs := #[.int .i64 0, .int .i64 0, .int .i64 0, .int .i64 0, .int .i64 0, .int .i64 0, .int .i64 0, .int .i64 0, .int .i64 0, .int .i64 0, .int .i64 0, .slice none 0 0]) (t := 34) ?hr ?_; (case hd => rfl); (case hg => rfl); (case hr => first | (go_simp; done) | (go_simp; rfl))
        intro g8 hgg8 w4 hbox hb
        have C4 := Lib.hid (blk_below (blk_drew H0.out) hb); have A4 := Lib.hid (blk_below (blk_drew H1.out) hb); have N84 := Lib.hid hbox; have Eg8 : Hid (w.heap.size ≠ g8) := Lib.hid (by rw [hgg8]; exact Nat.ne_of_lt (blk_lt (blk_drew H0.out))); have Dg8 : Hid (w.heap.size + 1 ≠ g8) := Lib.hid (by rw [hgg8]; exact Nat.ne_of_lt (blk_lt (blk_drew H1.out))); have Lg8 : Hid (w.heap.size ≤ g8) := Lib.hid (by rw [hgg8]; exact (below_drew1 HB0.out).size); have HB4 := Lib.hid (below_step (below_drew1 HB0.out) hb); clear hb hbox hgg8
        refine hK.out _ _ (cfS_of C4.out) (fun hHeld => ?_)
        clear hK K
        apply nm 0
        refine one_ (i := 6) (N := some 7) (bq 10 255) rfl rfl (one_of HT_.out (by kernel_rfl)) (by decide) (fun K hK => ?_)
        refine box_step ?hg (N := 7) ?hd (cs := #[.int .i64 0, .int .i64 0, .int .i64 0, .int .i64 0, .int .i64 0, .int .i64 0, .int .i64 0, .int .i64 0, .int .i64 0, .int .i64 0, .int .i64 0, .slice none 0 0]) (t := 27) ?hr ?_; (case hd => rfl); (case hg => rfl); (case hr => first | (go_simp; done) | (go_simp; rfl))
        intro g7 hgg7 w5 hbox hb
        have C5 := Lib.hid (blk_below C4.out hb); have A5 := Lib.hid (blk_below A4.out hb); have N8 := Lib.hid (blk_below N84.out hb); have N7 := Lib.hid hbox; have Eg7 : Hid (w.heap.size ≠ g7) := Lib.hid (by rw [hgg7]; exact Nat.ne_of_lt (blk_lt C4.out)); have Dg7 : Hid (w.heap.size + 1 ≠ g7) := Lib.hid (by rw [hgg7]; exact Nat.ne_of_lt (blk_lt A4.out)); have Lg7 : Hid (w.heap.size ≤ g7) := Lib.hid (by rw [hgg7]; exact HB4.out.size); have E78 : Hid (g7 ≠ g8) := Lib.hid (by rw [hgg7]; exact Nat.ne_of_gt (blk_lt N84.out)); have HB5 := Lib.hid (below_step HB4.out hb); clear hb hbox hgg7
        refine hK.out _ _ (cfS_of C5.out) (fun hHeld => ?_)
        clear hK K
        apply nm 0
        exact norm_ (by simp only [putAll, Act.put, List.setIfInBounds_toArray, List.set_cons_zero, List.set_cons_succ]) (hCont (g7, g8) _ ⟨hHeld, C5.out, A5.out, N7.out, N8.out, E78.out, Eg7.out, Dg7.out, Lg7.out, Eg8.out, Dg8.out, Lg8.out, HB5.out⟩)
    rintro ⟨g7, g8⟩ w3 ⟨hHeld, h0, h1, h2, h3, e78, e7, d7, l7, e8, d8, l8, h4⟩
    dsimp only at h2 h3 e78 e7 d7 l7 e8 d8 l8
    have C3 := Lib.hid h0; have A3 := Lib.hid h1; have N7 := Lib.hid h2; have N8 := Lib.hid h3; have HB3 := Lib.hid h4; clear h0 h1 h2 h3 h4
    have e87 := e78.symm
    refine norm_ (a' := ?_) ?_ ?_
    rotate_left
    · simp only [putAll, Act.put, List.setIfInBounds_toArray, List.set_cons_zero, List.set_cons_succ]
      rfl
    refine one_ (i := 8) (N := none) (bq 10 511) rfl rfl (one_of HT_.out (by kernel_rfl)) (by decide) (fun K hK => ?_)
    obtain ⟨a0, a1, a2, a3, a4, a5, a6, a7, a8, a9, a10, a11⟩ := cz12 N7.out
    obtain ⟨af0, af1, af2, af3, af4, af5, af6, af7, af8, af9, af10, af11⟩ := fz12 N7.out
    refine skip_ (w1 := ?_) (by rfl) rfl ?_ ?_
    rotate_left
    · go_simp
      rfl
    have C8 := far12 (y0 := .int .i64 id) (y1 := .int .i64 m) (y2 := .int .i64 u) (y3 := .int .i64 b) (y4 := .int .i64 c) (y5 := .int .i64 z) (y6 := .int .i64 s) (y7 := .int .i64 me) (y8 := .int .i64 o) (y9 := .int .i64 a) (y10 := .int .i64 l) (y11 := .slice A0 n c0) C3.out e7; have A8 := far12 (y0 := .int .i64 id) (y1 := .int .i64 m) (y2 := .int .i64 u) (y3 := .int .i64 b) (y4 := .int .i64 c) (y5 := .int .i64 z) (y6 := .int .i64 s) (y7 := .int .i64 me) (y8 := .int .i64 o) (y9 := .int .i64 a) (y10 := .int .i64 l) (y11 := .slice A0 n c0) A3.out d7; have M7 := put12 (y0 := .int .i64 id) (y1 := .int .i64 m) (y2 := .int .i64 u) (y3 := .int .i64 b) (y4 := .int .i64 c) (y5 := .int .i64 z) (y6 := .int .i64 s) (y7 := .int .i64 me) (y8 := .int .i64 o) (y9 := .int .i64 a) (y10 := .int .i64 l) (y11 := .slice A0 n c0) N7.out; have M8 := far12 (y0 := .int .i64 id) (y1 := .int .i64 m) (y2 := .int .i64 u) (y3 := .int .i64 b) (y4 := .int .i64 c) (y5 := .int .i64 z) (y6 := .int .i64 s) (y7 := .int .i64 me) (y8 := .int .i64 o) (y9 := .int .i64 a) (y10 := .int .i64 l) (y11 := .slice A0 n c0) N8.out e87; have B8 := bl12 (y0 := .int .i64 id) (y1 := .int .i64 m) (y2 := .int .i64 u) (y3 := .int .i64 b) (y4 := .int .i64 c) (y5 := .int .i64 z) (y6 := .int .i64 s) (y7 := .int .i64 me) (y8 := .int .i64 o) (y9 := .int .i64 a) (y10 := .int .i64 l) (y11 := .slice A0 n c0) HB3.out l7
    generalize ((((((((((((w3.setCell ⟨g7, 0, none⟩ (.int .i64 id)).setCell ⟨g7, 1, none⟩ (.int .i64 m)).setCell ⟨g7, 2, none⟩ (.int .i64 u)).setCell ⟨g7, 3, none⟩ (.int .i64 b)).setCell ⟨g7, 4, none⟩ (.int .i64 c)).setCell ⟨g7, 5, none⟩ (.int .i64 z)).setCell ⟨g7, 6, none⟩ (.int .i64 s)).setCell ⟨g7, 7, none⟩ (.int .i64 me)).setCell ⟨g7, 8, none⟩ (.int .i64 o)).setCell ⟨g7, 9, none⟩ (.int .i64 a)).setCell ⟨g7, 10, none⟩ (.int .i64 l)).setCell ⟨g7, 11, none⟩ (.slice A0 n c0)) = w8 at C8 A8 M7 M8 B8 ⊢
    replace C3 := Lib.hid C8; replace A3 := Lib.hid A8; replace N7 := Lib.hid M7; replace N8 := Lib.hid M8; replace HB3 := Lib.hid B8; clear C8 A8 M7 M8 B8
    refine hK.out _ _ (cfS_of C3.out) (fun hHeld => ?_)
    clear hK K
    refine one_ (i := 9) (N := none) (bq 10 1023) rfl rfl (one_of HT_.out (by kernel_rfl)) (by decide) (fun K hK => ?_)
    obtain ⟨b0, b1, b2, b3, b4, b5, b6, b7, b8, b9, b10, b11⟩ := cz12 N8.out
    obtain ⟨bf0, bf1, bf2, bf3, bf4, bf5, bf6, bf7, bf8, bf9, bf10, bf11⟩ := fz12 N8.out
    refine skip_ (w1 := ?_) (by rfl) rfl ?_ ?_
    rotate_left
    · go_simp
      rfl
    have C8 := far12 (y0 := .int .i64 id) (y1 := .int .i64 m) (y2 := .int .i64 u) (y3 := .int .i64 b) (y4 := .int .i64 c) (y5 := .int .i64 z) (y6 := .int .i64 s) (y7 := .int .i64 me) (y8 := .int .i64 o) (y9 := .int .i64 a) (y10 := .int .i64 l) (y11 := .slice A0 n c0) C3.out e8; have A8 := far12 (y0 := .int .i64 id) (y1 := .int .i64 m) (y2 := .int .i64 u) (y3 := .int .i64 b) (y4 := .int .i64 c) (y5 := .int .i64 z) (y6 := .int .i64 s) (y7 := .int .i64 me) (y8 := .int .i64 o) (y9 := .int .i64 a) (y10 := .int .i64 l) (y11 := .slice A0 n c0) A3.out d8; have M7 := far12 (y0 := .int .i64 id) (y1 := .int .i64 m) (y2 := .int .i64 u) (y3 := .int .i64 b) (y4 := .int .i64 c) (y5 := .int .i64 z) (y6 := .int .i64 s) (y7 := .int .i64 me) (y8 := .int .i64 o) (y9 := .int .i64 a) (y10 := .int .i64 l) (y11 := .slice A0 n c0) N7.out e78; have M8 := put12 (y0 := .int .i64 id) (y1 := .int .i64 m) (y2 := .int .i64 u) (y3 := .int .i64 b) (y4 := .int .i64 c) (y5 := .int .i64 z) (y6 := .int .i64 s) (y7 := .int .i64 me) (y8 := .int .i64 o) (y9 := .int .i64 a) (y10 := .int .i64 l) (y11 := .slice A0 n c0) N8.out; have B8 := bl12 (y0 := .int .i64 id) (y1 := .int .i64 m) (y2 := .int .i64 u) (y3 := .int .i64 b) (y4 := .int .i64 c) (y5 := .int .i64 z) (y6 := .int .i64 s) (y7 := .int .i64 me) (y8 := .int .i64 o) (y9 := .int .i64 a) (y10 := .int .i64 l) (y11 := .slice A0 n c0) HB3.out l8
    generalize ((((((((((((w8.setCell ⟨g8, 0, none⟩ (.int .i64 id)).setCell ⟨g8, 1, none⟩ (.int .i64 m)).setCell ⟨g8, 2, none⟩ (.int .i64 u)).setCell ⟨g8, 3, none⟩ (.int .i64 b)).setCell ⟨g8, 4, none⟩ (.int .i64 c)).setCell ⟨g8, 5, none⟩ (.int .i64 z)).setCell ⟨g8, 6, none⟩ (.int .i64 s)).setCell ⟨g8, 7, none⟩ (.int .i64 me)).setCell ⟨g8, 8, none⟩ (.int .i64 o)).setCell ⟨g8, 9, none⟩ (.int .i64 a)).setCell ⟨g8, 10, none⟩ (.int .i64 l)).setCell ⟨g8, 11, none⟩ (.slice A0 n c0)) = w10 at C8 A8 M7 M8 B8 ⊢
    replace C3 := Lib.hid C8; replace A3 := Lib.hid A8; replace N7 := Lib.hid M7; replace N8 := Lib.hid M8; replace HB3 := Lib.hid B8; clear C8 A8 M7 M8 B8
    refine hK.out _ _ (cfS_of C3.out) (fun hHeld => ?_)
    clear hK K
    refine done_ (done_of HT_.out (by kernel_rfl)) ?_
    go_wp2
    refine start_ (n := 5) (S := (tcTT g7 g8 id m u b c z s me o a l (.slice A0 n c0))) (ds := []) (bq 5 0) (by kernel_rfl) rfl (by kernel_rfl) (tcTT_of (blk_drew N7.out) (blk_drew N8.out)) (fun hHeld => ?_)
    refine with_tabW tab5_4 bits5_4 (fun HT_ HW_ => ?_)
    apply tu 0 23 (bq 5 1) HT_ HW_ hHeld
    apply tu 2 25 (bq 5 5) HT_ HW_ hHeld
    refine one_ (i := 1) (N := some 24) (bq 5 7) rfl rfl (one_of HT_.out (by kernel_rfl)) (by decide) (fun K hK => ?_)
    refine gs Try.func19 #[tabV id m u b c z s me o a l (.slice A0 n c0)] ?_
    refine (HRZ.out _ (Kd.C_below HX.out (below_drew1 HB3.out))).mono ?_
    rintro e w4 ⟨rfl, hb⟩
    refine ⟨_, rfl, ?_⟩
    have N74 := Lib.hid (blk_below (blk_drew N7.out) hb); have N84 := Lib.hid (blk_below (blk_drew N8.out) hb); have C4 := Lib.hid (blk_below (blk_drew C3.out) hb); have A4 := Lib.hid (blk_below (blk_drew A3.out) hb); have HB4 := Lib.hid (below_step (below_drew1 HB3.out) hb); clear hb
    refine hK.out _ _ (tcTT_of N74.out N84.out) (fun hHeld => ?_)
    clear hK K
    apply nm 0
    refine one_ (i := 3) (N := some 26) (bq 5 15) rfl rfl (one_of HT_.out (by kernel_rfl)) (by decide) (fun K hK => ?_)
    refine gs Try.func20 #[tabV id m u b c z s me o a l (.slice A0 n c0)] ?_
    refine (HRR.out _ (Kd.C_below HX.out HB4.out)).mono ?_
    rintro e w5 ⟨rfl, hb⟩
    refine ⟨_, rfl, ?_⟩
    have N75 := Lib.hid (blk_below N74.out hb); have N85 := Lib.hid (blk_below N84.out hb); have C5 := Lib.hid (blk_below C4.out hb); have A5 := Lib.hid (blk_below A4.out hb); have HB5 := Lib.hid (below_step HB4.out hb); clear hb
    refine hK.out _ _ (tcTT_of N75.out N85.out) (fun hHeld => ?_)
    clear hK K
    apply nm 0
    apply pu 4 27 (bq 5 31) HT_
    refine done_ (done_of HT_.out (by kernel_rfl)) ?_
    obtain ⟨y0, y1, y2, y3, y4, y5, y6, y7, y8, y9, y10, y11⟩ := cz12 N75.out
    obtain ⟨z0, z1, z2, z3, z4, z5, z6, z7, z8, z9, z10, z11⟩ := cz12 N85.out
    obtain ⟨a50, a51, a52, a53⟩ := cz4 A5.out
    go_wp2_with first
      | (go_at_call 16; refine (HD.out _ (Kd.C_below HX.out HB5.out)).mono ?_; rintro e w6 ⟨v, rfl, hT, hb⟩; rw [Hn.out] at hT; obtain ⟨q0, q1, q2, q3, q4, q5, q6, q7, q8, q9, q10, A1, k1, rfl, hle1, hC1⟩ := TabD_read hT (Hn.out ▸ Kd.C_below (Kd.C_below HX.out HB5.out) hb) (Hn.out ▸ hc); rw [← HM.out] at hle1 hC1 ⊢; have U6 := Lib.hid (blk_new w6 (tabO q0 q1 q2 q3 q4 q5 q6 q7 q8 q9 q10 (.slice A1 M.length k1))); have HU6 := Lib.hid (Kd.C_alloc hC1 (tabO q0 q1 q2 q3 q4 q5 q6 q7 q8 q9 q10 (.slice A1 M.length k1))); have N6 := Lib.hid (blk_alloc (blk_below N85.out hb) (tabO q0 q1 q2 q3 q4 q5 q6 q7 q8 q9 q10 (.slice A1 M.length k1))); have A6 := Lib.hid (blk_alloc (blk_below A5.out hb) (tabO q0 q1 q2 q3 q4 q5 q6 q7 q8 q9 q10 (.slice A1 M.length k1))); have HB6 := Lib.hid (below_alloc (below_step HB5.out hb) (tabO q0 q1 q2 q3 q4 q5 q6 q7 q8 q9 q10 (.slice A1 M.length k1))); clear hT hb hC1; obtain ⟨n0, n1, n2, n3, n4, n5, n6, n7, n8, n9, n10, n11⟩ := cz12 N6.out; obtain ⟨a60, a61, a62, a63⟩ := cz4 A6.out)
      | (go_at_call 17; refine (HS.out _ (Kd.C_below HX.out HB6.out)).mono ?_; rintro e w7 ⟨v, rfl, hT, hb⟩; rw [Hn.out] at hT; obtain ⟨r0, r1, r2, r3, r4, r5, r6, r7, r8, r9, r10, A3, k3, rfl, hle3, hC3⟩ := TabD_read hT (Hn.out ▸ Kd.C_below (Kd.C_below HX.out HB6.out) hb) (Hn.out ▸ hc); rw [← HM.out] at hle3 hC3 ⊢; have V7 := Lib.hid (blk_new w7 (rtabO r0 r1 r2 r3 r4 r5 r6 r7 r8 r9 r10 (.slice A3 M.length k3))); have HV7 := Lib.hid (Kd.C_alloc hC3 (rtabO r0 r1 r2 r3 r4 r5 r6 r7 r8 r9 r10 (.slice A3 M.length k3))); have U7 := Lib.hid (blk_alloc (blk_below U6.out hb) (rtabO r0 r1 r2 r3 r4 r5 r6 r7 r8 r9 r10 (.slice A3 M.length k3))); have HU7 := Lib.hid (Kd.C_alloc (Kd.C_below HU6.out hb) (rtabO r0 r1 r2 r3 r4 r5 r6 r7 r8 r9 r10 (.slice A3 M.length k3))); have A7 := Lib.hid (blk_alloc (blk_below A6.out hb) (rtabO r0 r1 r2 r3 r4 r5 r6 r7 r8 r9 r10 (.slice A3 M.length k3))); have HB7 := Lib.hid (below_alloc (below_step HB6.out hb) (rtabO r0 r1 r2 r3 r4 r5 r6 r7 r8 r9 r10 (.slice A3 M.length k3))); clear hT hb hC3; obtain ⟨v0, v1, v2, v3, v4, v5, v6, v7, v8, v9, v10, v11⟩ := cz12 V7.out; obtain ⟨u0, u1, u2, u3, u4, u5, u6, u7, u8, u9, u10, u11⟩ := cz12 U7.out; obtain ⟨a70, a71, a72, a73⟩ := cz4 A7.out)
      | (go_at_call 7; refine (live_any _).mono ?_; rintro e w9 ⟨rfl, hb⟩; have HB9 := Lib.hid (below_step HB7.out hb); clear hb)
    go_ret
    exact ⟨rfl, HB9.out⟩
  · have db : (d == 1) = false := beq_eq_false_iff_ne.mpr hd1
    go_enter Try.func5, Try.ntmps5
    go_wp2
    refine start_ (n := 10) (S := fun W => cfS w.heap.size id m u b c z s me o a l W) (ds := []) (bq 10 0) (by kernel_rfl) rfl (by kernel_rfl) (cfS_of (blk_drew H0.out)) (fun hHeld => ?_)
    refine with_tabW tab5_3 bits5_3 (fun HT_ HW_ => ?_)
    apply tu 0 17 (bq 10 1) HT_ HW_ hHeld
    apply pu 1 18 (bq 10 3) HT_
    apply pu 2 19 (bq 10 7) HT_
    apply tu 3 20 (bq 10 15) HT_ HW_ hHeld
    apply pu 4 21 (bq 10 31) HT_
    apply pu 5 22 (bq 10 63) HT_
    refine join_ (σ := Nat × Nat) 2 (bq 10 255) (fun y => [(7, .pointer (some ⟨y.1, 0, none⟩)), (8, .pointer (some ⟨y.2, 0, none⟩))]) (fun y W => (cfS w.heap.size id m u b c z s me o a l W) ∧ W.heap[w.heap.size]? = some (cfO id m u b c z s me o a l) ∧ W.heap[w.heap.size + 1]? = some (actO d i p k) ∧ W.heap[y.1]? = some (tabO 0 0 0 0 0 0 0 0 0 0 0 (.slice none 0 0)) ∧ W.heap[y.2]? = some (rtabO 0 0 0 0 0 0 0 0 0 0 0 (.slice none 0 0)) ∧ y.1 ≠ y.2 ∧ w.heap.size ≠ y.1 ∧ w.heap.size + 1 ≠ y.1 ∧ w.heap.size ≤ y.1 ∧ w.heap.size ≠ y.2 ∧ w.heap.size + 1 ≠ y.2 ∧ w.heap.size ≤ y.2 ∧ Below w.heap.size w W) ?_ ?_
    rotate_left
    · intro hCont
      refine two_ (i := 6) (j := 7) (Ni := some 7) (Nj := some 8) (bq 10 127) (bq 10 191) rfl rfl rfl rfl (two_of HT_.out (by kernel_rfl)) (by decide) (by decide) (fun K hK => ?_) (fun K hK => ?_)
      · refine box_step ?hg (N := 7) ?hd (cs := #[.int .i64 0, .int .i64 0, .int .i64 0, .int .i64 0, .int .i64 0, .int .i64 0, .int .i64 0, .int .i64 0, .int .i64 0, .int .i64 0, .int .i64 0, .slice none 0 0]) (t := 27) ?hr ?_; (case hd => rfl); (case hg => rfl); (case hr => first | (go_simp; done) | (go_simp; rfl))
        intro g7 hgg7 w4 hbox hb
        have C4 := Lib.hid (blk_below (blk_drew H0.out) hb); have A4 := Lib.hid (blk_below (blk_drew H1.out) hb); have N74 := Lib.hid hbox; have Eg7 : Hid (w.heap.size ≠ g7) := Lib.hid (by rw [hgg7]; exact Nat.ne_of_lt (blk_lt (blk_drew H0.out))); have Dg7 : Hid (w.heap.size + 1 ≠ g7) := Lib.hid (by rw [hgg7]; exact Nat.ne_of_lt (blk_lt (blk_drew H1.out))); have Lg7 : Hid (w.heap.size ≤ g7) := Lib.hid (by rw [hgg7]; exact (below_drew1 HB0.out).size); have HB4 := Lib.hid (below_step (below_drew1 HB0.out) hb); clear hb hbox hgg7
        refine hK.out _ _ (cfS_of C4.out) (fun hHeld => ?_)
        clear hK K
        apply nm 0
        refine one_ (i := 7) (N := some 8) (bq 10 255) rfl rfl (one_of HT_.out (by kernel_rfl)) (by decide) (fun K hK => ?_)
        refine box_step ?hg (N := 8) ?hd (cs := #[.int .i64 0, .int .i64 0, .int .i64 0, .int .i64 0, .int .i64 0, .int .i64 0, .int .i64 0, .int .i64 0, .int .i64 0, .int .i64 0, .int .i64 0, .slice none 0 0]) (t := 34) ?hr ?_; (case hd => rfl); (case hg => rfl); (case hr => first | (go_simp; done) | (go_simp; rfl))
        intro g8 hgg8 w5 hbox hb
        have C5 := Lib.hid (blk_below C4.out hb); have A5 := Lib.hid (blk_below A4.out hb); have N7 := Lib.hid (blk_below N74.out hb); have N8 := Lib.hid hbox; have Eg8 : Hid (w.heap.size ≠ g8) := Lib.hid (by rw [hgg8]; exact Nat.ne_of_lt (blk_lt C4.out)); have Dg8 : Hid (w.heap.size + 1 ≠ g8) := Lib.hid (by rw [hgg8]; exact Nat.ne_of_lt (blk_lt A4.out)); have Lg8 : Hid (w.heap.size ≤ g8) := Lib.hid (by rw [hgg8]; exact HB4.out.size); have E78 : Hid (g7 ≠ g8) := Lib.hid (by rw [hgg8]; exact Nat.ne_of_lt (blk_lt N74.out)); have HB5 := Lib.hid (below_step HB4.out hb); clear hb hbox hgg8
        refine hK.out _ _ (cfS_of C5.out) (fun hHeld => ?_)
        clear hK K
        apply nm 0
        exact norm_ (by simp only [putAll, Act.put, List.setIfInBounds_toArray, List.set_cons_zero, List.set_cons_succ]) (hCont (g7, g8) _ ⟨hHeld, C5.out, A5.out, N7.out, N8.out, E78.out, Eg7.out, Dg7.out, Lg7.out, Eg8.out, Dg8.out, Lg8.out, HB5.out⟩)
      · refine box_step ?hg (N := 8) ?hd (cs := #[.int .i64 0, .int .i64 0, .int .i64 0, .int .i64 0, .int .i64 0, .int .i64 0, .int .i64 0, .int .i64 0, .int .i64 0, .int .i64 0, .int .i64 0, .slice none 0 0]) (t := 34) ?hr ?_; (case hd => rfl); (case hg => rfl); (case hr => first | (go_simp; done) | (go_simp; rfl))
        intro g8 hgg8 w4 hbox hb
        have C4 := Lib.hid (blk_below (blk_drew H0.out) hb); have A4 := Lib.hid (blk_below (blk_drew H1.out) hb); have N84 := Lib.hid hbox; have Eg8 : Hid (w.heap.size ≠ g8) := Lib.hid (by rw [hgg8]; exact Nat.ne_of_lt (blk_lt (blk_drew H0.out))); have Dg8 : Hid (w.heap.size + 1 ≠ g8) := Lib.hid (by rw [hgg8]; exact Nat.ne_of_lt (blk_lt (blk_drew H1.out))); have Lg8 : Hid (w.heap.size ≤ g8) := Lib.hid (by rw [hgg8]; exact (below_drew1 HB0.out).size); have HB4 := Lib.hid (below_step (below_drew1 HB0.out) hb); clear hb hbox hgg8
        refine hK.out _ _ (cfS_of C4.out) (fun hHeld => ?_)
        clear hK K
        apply nm 0
        refine one_ (i := 6) (N := some 7) (bq 10 255) rfl rfl (one_of HT_.out (by kernel_rfl)) (by decide) (fun K hK => ?_)
        refine box_step ?hg (N := 7) ?hd (cs := #[.int .i64 0, .int .i64 0, .int .i64 0, .int .i64 0, .int .i64 0, .int .i64 0, .int .i64 0, .int .i64 0, .int .i64 0, .int .i64 0, .int .i64 0, .slice none 0 0]) (t := 27) ?hr ?_; (case hd => rfl); (case hg => rfl); (case hr => first | (go_simp; done) | (go_simp; rfl))
        intro g7 hgg7 w5 hbox hb
        have C5 := Lib.hid (blk_below C4.out hb); have A5 := Lib.hid (blk_below A4.out hb); have N8 := Lib.hid (blk_below N84.out hb); have N7 := Lib.hid hbox; have Eg7 : Hid (w.heap.size ≠ g7) := Lib.hid (by rw [hgg7]; exact Nat.ne_of_lt (blk_lt C4.out)); have Dg7 : Hid (w.heap.size + 1 ≠ g7) := Lib.hid (by rw [hgg7]; exact Nat.ne_of_lt (blk_lt A4.out)); have Lg7 : Hid (w.heap.size ≤ g7) := Lib.hid (by rw [hgg7]; exact HB4.out.size); have E78 : Hid (g7 ≠ g8) := Lib.hid (by rw [hgg7]; exact Nat.ne_of_gt (blk_lt N84.out)); have HB5 := Lib.hid (below_step HB4.out hb); clear hb hbox hgg7
        refine hK.out _ _ (cfS_of C5.out) (fun hHeld => ?_)
        clear hK K
        apply nm 0
        exact norm_ (by simp only [putAll, Act.put, List.setIfInBounds_toArray, List.set_cons_zero, List.set_cons_succ]) (hCont (g7, g8) _ ⟨hHeld, C5.out, A5.out, N7.out, N8.out, E78.out, Eg7.out, Dg7.out, Lg7.out, Eg8.out, Dg8.out, Lg8.out, HB5.out⟩)
    rintro ⟨g7, g8⟩ w3 ⟨hHeld, h0, h1, h2, h3, e78, e7, d7, l7, e8, d8, l8, h4⟩
    dsimp only at h2 h3 e78 e7 d7 l7 e8 d8 l8
    have C3 := Lib.hid h0; have A3 := Lib.hid h1; have N7 := Lib.hid h2; have N8 := Lib.hid h3; have HB3 := Lib.hid h4; clear h0 h1 h2 h3 h4
    have e87 := e78.symm
    refine norm_ (a' := ?_) ?_ ?_
    rotate_left
    · simp only [putAll, Act.put, List.setIfInBounds_toArray, List.set_cons_zero, List.set_cons_succ]
      rfl
    refine one_ (i := 8) (N := none) (bq 10 511) rfl rfl (one_of HT_.out (by kernel_rfl)) (by decide) (fun K hK => ?_)
    obtain ⟨a0, a1, a2, a3, a4, a5, a6, a7, a8, a9, a10, a11⟩ := cz12 N7.out
    obtain ⟨af0, af1, af2, af3, af4, af5, af6, af7, af8, af9, af10, af11⟩ := fz12 N7.out
    refine skip_ (w1 := ?_) (by rfl) rfl ?_ ?_
    rotate_left
    · go_simp
      rfl
    have C8 := far12 (y0 := .int .i64 id) (y1 := .int .i64 m) (y2 := .int .i64 u) (y3 := .int .i64 b) (y4 := .int .i64 c) (y5 := .int .i64 z) (y6 := .int .i64 s) (y7 := .int .i64 me) (y8 := .int .i64 o) (y9 := .int .i64 a) (y10 := .int .i64 l) (y11 := .slice A0 n c0) C3.out e7; have A8 := far12 (y0 := .int .i64 id) (y1 := .int .i64 m) (y2 := .int .i64 u) (y3 := .int .i64 b) (y4 := .int .i64 c) (y5 := .int .i64 z) (y6 := .int .i64 s) (y7 := .int .i64 me) (y8 := .int .i64 o) (y9 := .int .i64 a) (y10 := .int .i64 l) (y11 := .slice A0 n c0) A3.out d7; have M7 := put12 (y0 := .int .i64 id) (y1 := .int .i64 m) (y2 := .int .i64 u) (y3 := .int .i64 b) (y4 := .int .i64 c) (y5 := .int .i64 z) (y6 := .int .i64 s) (y7 := .int .i64 me) (y8 := .int .i64 o) (y9 := .int .i64 a) (y10 := .int .i64 l) (y11 := .slice A0 n c0) N7.out; have M8 := far12 (y0 := .int .i64 id) (y1 := .int .i64 m) (y2 := .int .i64 u) (y3 := .int .i64 b) (y4 := .int .i64 c) (y5 := .int .i64 z) (y6 := .int .i64 s) (y7 := .int .i64 me) (y8 := .int .i64 o) (y9 := .int .i64 a) (y10 := .int .i64 l) (y11 := .slice A0 n c0) N8.out e87; have B8 := bl12 (y0 := .int .i64 id) (y1 := .int .i64 m) (y2 := .int .i64 u) (y3 := .int .i64 b) (y4 := .int .i64 c) (y5 := .int .i64 z) (y6 := .int .i64 s) (y7 := .int .i64 me) (y8 := .int .i64 o) (y9 := .int .i64 a) (y10 := .int .i64 l) (y11 := .slice A0 n c0) HB3.out l7
    generalize ((((((((((((w3.setCell ⟨g7, 0, none⟩ (.int .i64 id)).setCell ⟨g7, 1, none⟩ (.int .i64 m)).setCell ⟨g7, 2, none⟩ (.int .i64 u)).setCell ⟨g7, 3, none⟩ (.int .i64 b)).setCell ⟨g7, 4, none⟩ (.int .i64 c)).setCell ⟨g7, 5, none⟩ (.int .i64 z)).setCell ⟨g7, 6, none⟩ (.int .i64 s)).setCell ⟨g7, 7, none⟩ (.int .i64 me)).setCell ⟨g7, 8, none⟩ (.int .i64 o)).setCell ⟨g7, 9, none⟩ (.int .i64 a)).setCell ⟨g7, 10, none⟩ (.int .i64 l)).setCell ⟨g7, 11, none⟩ (.slice A0 n c0)) = w8 at C8 A8 M7 M8 B8 ⊢
    replace C3 := Lib.hid C8; replace A3 := Lib.hid A8; replace N7 := Lib.hid M7; replace N8 := Lib.hid M8; replace HB3 := Lib.hid B8; clear C8 A8 M7 M8 B8
    refine hK.out _ _ (cfS_of C3.out) (fun hHeld => ?_)
    clear hK K
    refine one_ (i := 9) (N := none) (bq 10 1023) rfl rfl (one_of HT_.out (by kernel_rfl)) (by decide) (fun K hK => ?_)
    obtain ⟨b0, b1, b2, b3, b4, b5, b6, b7, b8, b9, b10, b11⟩ := cz12 N8.out
    obtain ⟨bf0, bf1, bf2, bf3, bf4, bf5, bf6, bf7, bf8, bf9, bf10, bf11⟩ := fz12 N8.out
    refine skip_ (w1 := ?_) (by rfl) rfl ?_ ?_
    rotate_left
    · go_simp
      rfl
    have C8 := far12 (y0 := .int .i64 id) (y1 := .int .i64 m) (y2 := .int .i64 u) (y3 := .int .i64 b) (y4 := .int .i64 c) (y5 := .int .i64 z) (y6 := .int .i64 s) (y7 := .int .i64 me) (y8 := .int .i64 o) (y9 := .int .i64 a) (y10 := .int .i64 l) (y11 := .slice A0 n c0) C3.out e8; have A8 := far12 (y0 := .int .i64 id) (y1 := .int .i64 m) (y2 := .int .i64 u) (y3 := .int .i64 b) (y4 := .int .i64 c) (y5 := .int .i64 z) (y6 := .int .i64 s) (y7 := .int .i64 me) (y8 := .int .i64 o) (y9 := .int .i64 a) (y10 := .int .i64 l) (y11 := .slice A0 n c0) A3.out d8; have M7 := far12 (y0 := .int .i64 id) (y1 := .int .i64 m) (y2 := .int .i64 u) (y3 := .int .i64 b) (y4 := .int .i64 c) (y5 := .int .i64 z) (y6 := .int .i64 s) (y7 := .int .i64 me) (y8 := .int .i64 o) (y9 := .int .i64 a) (y10 := .int .i64 l) (y11 := .slice A0 n c0) N7.out e78; have M8 := put12 (y0 := .int .i64 id) (y1 := .int .i64 m) (y2 := .int .i64 u) (y3 := .int .i64 b) (y4 := .int .i64 c) (y5 := .int .i64 z) (y6 := .int .i64 s) (y7 := .int .i64 me) (y8 := .int .i64 o) (y9 := .int .i64 a) (y10 := .int .i64 l) (y11 := .slice A0 n c0) N8.out; have B8 := bl12 (y0 := .int .i64 id) (y1 := .int .i64 m) (y2 := .int .i64 u) (y3 := .int .i64 b) (y4 := .int .i64 c) (y5 := .int .i64 z) (y6 := .int .i64 s) (y7 := .int .i64 me) (y8 := .int .i64 o) (y9 := .int .i64 a) (y10 := .int .i64 l) (y11 := .slice A0 n c0) HB3.out l8
    generalize ((((((((((((w8.setCell ⟨g8, 0, none⟩ (.int .i64 id)).setCell ⟨g8, 1, none⟩ (.int .i64 m)).setCell ⟨g8, 2, none⟩ (.int .i64 u)).setCell ⟨g8, 3, none⟩ (.int .i64 b)).setCell ⟨g8, 4, none⟩ (.int .i64 c)).setCell ⟨g8, 5, none⟩ (.int .i64 z)).setCell ⟨g8, 6, none⟩ (.int .i64 s)).setCell ⟨g8, 7, none⟩ (.int .i64 me)).setCell ⟨g8, 8, none⟩ (.int .i64 o)).setCell ⟨g8, 9, none⟩ (.int .i64 a)).setCell ⟨g8, 10, none⟩ (.int .i64 l)).setCell ⟨g8, 11, none⟩ (.slice A0 n c0)) = w10 at C8 A8 M7 M8 B8 ⊢
    replace C3 := Lib.hid C8; replace A3 := Lib.hid A8; replace N7 := Lib.hid M7; replace N8 := Lib.hid M8; replace HB3 := Lib.hid B8; clear C8 A8 M7 M8 B8
    refine hK.out _ _ (cfS_of C3.out) (fun hHeld => ?_)
    clear hK K
    refine done_ (done_of HT_.out (by kernel_rfl)) ?_
    go_wp2
    refine start_ (n := 5) (S := (tcTT g7 g8 id m u b c z s me o a l (.slice A0 n c0))) (ds := []) (bq 5 0) (by kernel_rfl) rfl (by kernel_rfl) (tcTT_of (blk_drew N7.out) (blk_drew N8.out)) (fun hHeld => ?_)
    refine with_tabW tab5_4 bits5_4 (fun HT_ HW_ => ?_)
    apply tu 0 23 (bq 5 1) HT_ HW_ hHeld
    apply tu 2 25 (bq 5 5) HT_ HW_ hHeld
    refine one_ (i := 1) (N := some 24) (bq 5 7) rfl rfl (one_of HT_.out (by kernel_rfl)) (by decide) (fun K hK => ?_)
    refine gs Try.func19 #[tabV id m u b c z s me o a l (.slice A0 n c0)] ?_
    refine (HRZ.out _ (Kd.C_below HX.out (below_drew1 HB3.out))).mono ?_
    rintro e w4 ⟨rfl, hb⟩
    refine ⟨_, rfl, ?_⟩
    have N74 := Lib.hid (blk_below (blk_drew N7.out) hb); have N84 := Lib.hid (blk_below (blk_drew N8.out) hb); have C4 := Lib.hid (blk_below (blk_drew C3.out) hb); have A4 := Lib.hid (blk_below (blk_drew A3.out) hb); have HB4 := Lib.hid (below_step (below_drew1 HB3.out) hb); clear hb
    refine hK.out _ _ (tcTT_of N74.out N84.out) (fun hHeld => ?_)
    clear hK K
    apply nm 0
    refine one_ (i := 3) (N := some 26) (bq 5 15) rfl rfl (one_of HT_.out (by kernel_rfl)) (by decide) (fun K hK => ?_)
    refine gs Try.func20 #[tabV id m u b c z s me o a l (.slice A0 n c0)] ?_
    refine (HRR.out _ (Kd.C_below HX.out HB4.out)).mono ?_
    rintro e w5 ⟨rfl, hb⟩
    refine ⟨_, rfl, ?_⟩
    have N75 := Lib.hid (blk_below N74.out hb); have N85 := Lib.hid (blk_below N84.out hb); have C5 := Lib.hid (blk_below C4.out hb); have A5 := Lib.hid (blk_below A4.out hb); have HB5 := Lib.hid (below_step HB4.out hb); clear hb
    refine hK.out _ _ (tcTT_of N75.out N85.out) (fun hHeld => ?_)
    clear hK K
    apply nm 0
    apply pu 4 27 (bq 5 31) HT_
    refine done_ (done_of HT_.out (by kernel_rfl)) ?_
    obtain ⟨y0, y1, y2, y3, y4, y5, y6, y7, y8, y9, y10, y11⟩ := cz12 N75.out
    obtain ⟨z0, z1, z2, z3, z4, z5, z6, z7, z8, z9, z10, z11⟩ := cz12 N85.out
    obtain ⟨a50, a51, a52, a53⟩ := cz4 A5.out
    go_wp2_with first
      | (go_at_call 16; refine (HD.out _ (Kd.C_below HX.out HB5.out)).mono ?_; rintro e w6 ⟨v, rfl, hT, hb⟩; rw [Hn.out] at hT; obtain ⟨q0, q1, q2, q3, q4, q5, q6, q7, q8, q9, q10, A1, k1, rfl, hle1, hC1⟩ := TabD_read hT (Hn.out ▸ Kd.C_below (Kd.C_below HX.out HB5.out) hb) (Hn.out ▸ hc); rw [← HM.out] at hle1 hC1 ⊢; have U6 := Lib.hid (blk_new w6 (tabO q0 q1 q2 q3 q4 q5 q6 q7 q8 q9 q10 (.slice A1 M.length k1))); have HU6 := Lib.hid (Kd.C_alloc hC1 (tabO q0 q1 q2 q3 q4 q5 q6 q7 q8 q9 q10 (.slice A1 M.length k1))); have N6 := Lib.hid (blk_alloc (blk_below N85.out hb) (tabO q0 q1 q2 q3 q4 q5 q6 q7 q8 q9 q10 (.slice A1 M.length k1))); have A6 := Lib.hid (blk_alloc (blk_below A5.out hb) (tabO q0 q1 q2 q3 q4 q5 q6 q7 q8 q9 q10 (.slice A1 M.length k1))); have HB6 := Lib.hid (below_alloc (below_step HB5.out hb) (tabO q0 q1 q2 q3 q4 q5 q6 q7 q8 q9 q10 (.slice A1 M.length k1))); clear hT hb hC1; obtain ⟨n0, n1, n2, n3, n4, n5, n6, n7, n8, n9, n10, n11⟩ := cz12 N6.out; obtain ⟨a60, a61, a62, a63⟩ := cz4 A6.out)
      | (go_at_call 17; refine (HS.out _ (Kd.C_below HX.out HB6.out)).mono ?_; rintro e w7 ⟨v, rfl, hT, hb⟩; rw [Hn.out] at hT; obtain ⟨r0, r1, r2, r3, r4, r5, r6, r7, r8, r9, r10, A3, k3, rfl, hle3, hC3⟩ := TabD_read hT (Hn.out ▸ Kd.C_below (Kd.C_below HX.out HB6.out) hb) (Hn.out ▸ hc); rw [← HM.out] at hle3 hC3 ⊢; have V7 := Lib.hid (blk_new w7 (rtabO r0 r1 r2 r3 r4 r5 r6 r7 r8 r9 r10 (.slice A3 M.length k3))); have HV7 := Lib.hid (Kd.C_alloc hC3 (rtabO r0 r1 r2 r3 r4 r5 r6 r7 r8 r9 r10 (.slice A3 M.length k3))); have U7 := Lib.hid (blk_alloc (blk_below U6.out hb) (rtabO r0 r1 r2 r3 r4 r5 r6 r7 r8 r9 r10 (.slice A3 M.length k3))); have HU7 := Lib.hid (Kd.C_alloc (Kd.C_below HU6.out hb) (rtabO r0 r1 r2 r3 r4 r5 r6 r7 r8 r9 r10 (.slice A3 M.length k3))); have A7 := Lib.hid (blk_alloc (blk_below A6.out hb) (rtabO r0 r1 r2 r3 r4 r5 r6 r7 r8 r9 r10 (.slice A3 M.length k3))); have HB7 := Lib.hid (below_alloc (below_step HB6.out hb) (rtabO r0 r1 r2 r3 r4 r5 r6 r7 r8 r9 r10 (.slice A3 M.length k3))); clear hT hb hC3; obtain ⟨v0, v1, v2, v3, v4, v5, v6, v7, v8, v9, v10, v11⟩ := cz12 V7.out; obtain ⟨u0, u1, u2, u3, u4, u5, u6, u7, u8, u9, u10, u11⟩ := cz12 U7.out; obtain ⟨a70, a71, a72, a73⟩ := cz4 A7.out)
      | (go_at_call 13; refine (same_any M A1 k1 A3 k3 _ HU7.out hle1 HV7.out hle3 HML.out).mono ?_; rintro e w8 ⟨rfl, hb⟩; have HB8 := Lib.hid (below_step HB7.out hb); clear hb)
      | (go_at_call 7; refine (live_any _).mono ?_; rintro e w9 ⟨rfl, hb⟩; have HB9 := Lib.hid (below_step HB8.out hb); clear hb)
    go_ret
    exact ⟨rfl, HB9.out⟩
end Go.Proofs.Ytlellnmpogimlaa
