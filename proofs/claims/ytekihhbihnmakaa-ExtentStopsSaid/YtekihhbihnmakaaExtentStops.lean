/- revetmentlaw41.ExtentStops: the law's walk: who stops gets no more runs, and those as they are. -/
import Derived.Test.YtekihhbihnmakaaRuns
import Derived.Test.YtekihhbihnmakaaRRuns
import Derived.Test.YtekihhbihnmakaaSmall0
import Derived.Test.YtekihhbihnmakaaPAx16
import Derived.Test.YtekihhbihnmakaaPAx22
import Derived.Test.YtekihhbihnmakaaPAx25
import Derived.Test.YtekihhbihnmakaaPAx800
import Derived.Test.YtekihhbihnmakaaPAx9
import Derived.Test.YtekihhbihnmakaaPAx900
namespace Go.Proofs.Ytekihhbihnmakaa
open Go.RowKit Go.Shelf Go.Proofs.Ytekihhbihnmakaa.PA Go.Proofs.YtekihhbihnmakaaW.PrintWords Go.Proofs.YtekihhbihnmakaaW.PrintLast Go.Proofs.Ytekihhbihnmakaa.Geo
attribute [local go_sem] Oper.semAt_some
set_option linter.unusedVariables false
set_option linter.unusedSimpArgs false
-- revetmentref07_Check.calls revetmentref07_Small.calls revetmentlaw41_live.calls revetmentref41_Same.calls extent_Runs.calls conf_Plain.calls
theorem live41_eq : revetmentlaw41_live.f = some true := by
  unfold revetmentlaw41_live.f conf_Plain.f
  simp only [Option.bind_some, extent_Runs.f]
  decide +kernel
theorem sameR_loop (x : List S45) (hx : (x.length : Int) ≤ 100000) (d : Nat) : ∀ (k j : Nat), j ≤ x.length → x.length - j = d → d < k → revetmentref41_Same.l0 k x x j = some true := by
  induction d with
  | zero =>
    intro k j hj hd hk
    obtain ⟨k, rfl⟩ : ∃ q, k = q + 1 := ⟨k - 1, by omega⟩
    simp only [revetmentref41_Same.l0]
    rw [if_neg (by omega)]
  | succ d ih =>
    intro k j hj hd hk
    obtain ⟨k, rfl⟩ : ∃ q, k = q + 1 := ⟨k - 1, by omega⟩
    simp only [revetmentref41_Same.l0]
    rw [if_pos (by omega), if_pos (by omega), if_pos (by omega), wr ⟨by omega, by omega⟩]
    simp only [beq_self_eq_true, Bool.not_true, Bool.or_self, Bool.false_eq_true, if_false]
    have := ih k (j + 1) (by omega) (by omega) (by omega)
    push_cast at this
    exact this
theorem sameR_ok (x : List S45) (hx : (x.length : Int) ≤ 100000) (k : Nat) (hk : x.length < k) : revetmentref41_Same.f k x x = some true := by
  unfold revetmentref41_Same.f
  rw [if_pos rfl]
  exact sameR_loop x hx x.length k 0 (by omega) (by omega) hk

set_option maxRecDepth 100000 in
set_option maxHeartbeats 4000000 in
theorem es_big (id m u b c z s me o a l : Int) (at1 n1 kk : Int) (w : World) (h : checkC id m u b c z s me o a l = 0) (hs : revetmentref07_Small.f id m u b c z s me o a l = some false) :
    Calls Try.prog 6 #[.agg #[.int .i64 id, .int .i64 m, .int .i64 u, .int .i64 b, .int .i64 c, .int .i64 z, .int .i64 s, .int .i64 me, .int .i64 o, .int .i64 a, .int .i64 l], .int .i64 at1, .int .i64 n1, .int .u8 kk] w fun e w' => e = .returned (.bool true) ∧ Below w.heap.size w w' := by
  obtain ⟨cc, hcc⟩ : ∃ cc : Int, cc = 0 := ⟨_, rfl⟩
  have HCC : Hid (revetmentref07_Check.f id m u b c z s me o a l = some cc) := Lib.hid (by unfold revetmentref07_Check.f; rw [h, hcc])
  have HSM := Lib.hid hs; clear hs h
  refine (callsIn_wide (n := 10)).1 ?_
  refine callsIn_of_wp_marks Try.func6 rfl trivial ?_ rfl
  simp only [Try.ntmps6, List.size_toArray, List.length_cons, List.length_nil, Nat.reduceAdd, Nat.reduceSub, Array.replicate_succ, Array.replicate_zero, List.push_toArray, List.append_toArray, List.nil_append, List.cons_append]
  have C0 := Lib.hid (blk_alloc (World.alloc_heap_new w (.cells #[.int .i64 id, .int .i64 m, .int .i64 u, .int .i64 b, .int .i64 c, .int .i64 z, .int .i64 s, .int .i64 me, .int .i64 o, .int .i64 a, .int .i64 l] 23)) (.cells #[.int .u8 kk] 5))
  have K0 := Lib.hid (show ((w.alloc (.cells #[.int .i64 id, .int .i64 m, .int .i64 u, .int .i64 b, .int .i64 c, .int .i64 z, .int .i64 s, .int .i64 me, .int .i64 o, .int .i64 a, .int .i64 l] 23)).alloc (.cells #[.int .u8 kk] 5)).heap[w.heap.size + 1]? = some (.cells #[.int .u8 kk] 5 (0, 0)) by have h := World.alloc_heap_new (w.alloc (.cells #[.int .i64 id, .int .i64 m, .int .i64 u, .int .i64 b, .int .i64 c, .int .i64 z, .int .i64 s, .int .i64 me, .int .i64 o, .int .i64 a, .int .i64 l] 23)) (.cells #[.int .u8 kk] 5); rwa [World.size_alloc] at h)
  have B0 := Lib.hid (((Below.refl _ w).alloc (Nat.le_refl _) (.cells #[.int .i64 id, .int .i64 m, .int .i64 u, .int .i64 b, .int .i64 c, .int .i64 z, .int .i64 s, .int .i64 me, .int .i64 o, .int .i64 a, .int .i64 l] 23)).alloc (by simp) (.cells #[.int .u8 kk] 5))
  obtain ⟨q0, q1, q2, q3, q4, q5, q6, q7, q8, q9, q10⟩ := cz11 C0.out
  have kq := Boxed.cell K0.out
  gi_wp2_with (first | (refine ⟨trivial, ?_⟩; gi_at_call 31; refine (callsIn_wide.2 (revetmentref07_Check.calls id m u b c z s me o a l cc _ HCC.out)).mono ?_; rintro e w1 ⟨rfl, hb1⟩; have C1 := Lib.hid (blk_below C0.out hb1); have K1 := Lib.hid (blk_below K0.out hb1); have B1 := Lib.hid (B0.out.trans (hb1.mono (by have := B0.out.size; simp at this ⊢; omega))); clear C0 K0 B0 hb1 q0 q1 q2 q3 q4 q5 q6 q7 q8 q9 q10 kq; have C0 := C1; have K0 := K1; have B0 := B1; clear C1 K1 B1; obtain ⟨q0, q1, q2, q3, q4, q5, q6, q7, q8, q9, q10⟩ := cz11 C0.out; have kq := Boxed.cell K0.out) | (refine ⟨trivial, ?_⟩; gi_at_call 33; refine (callsIn_wide.2 (revetmentref07_Small.calls id m u b c z s me o a l false _ HSM.out)).mono ?_; rintro e w1 ⟨rfl, hb1⟩; have C1 := Lib.hid (blk_below C0.out hb1); have K1 := Lib.hid (blk_below K0.out hb1); have B1 := Lib.hid (B0.out.trans (hb1.mono (by have := B0.out.size; simp at this ⊢; omega))); clear C0 K0 B0 hb1 q0 q1 q2 q3 q4 q5 q6 q7 q8 q9 q10 kq; have C0 := C1; have K0 := K1; have B0 := B1; clear C1 K1 B1; obtain ⟨q0, q1, q2, q3, q4, q5, q6, q7, q8, q9, q10⟩ := cz11 C0.out; have kq := Boxed.cell K0.out) | (refine ⟨trivial, ?_⟩; gi_at_call 34; refine (callsIn_wide.2 (revetmentlaw41_live.calls true _ live41_eq)).mono ?_; rintro e w1 ⟨rfl, hb1⟩; have C1 := Lib.hid (blk_below C0.out hb1); have K1 := Lib.hid (blk_below K0.out hb1); have B1 := Lib.hid (B0.out.trans (hb1.mono (by have := B0.out.size; simp at this ⊢; omega))); clear C0 K0 B0 hb1 q0 q1 q2 q3 q4 q5 q6 q7 q8 q9 q10 kq; have C0 := C1; have K0 := K1; have B0 := B1; clear C1 K1 B1; obtain ⟨q0, q1, q2, q3, q4, q5, q6, q7, q8, q9, q10⟩ := cz11 C0.out; have kq := Boxed.cell K0.out))
  exact ⟨_, results_tmp rfl _ _ _, rfl, B0.out⟩
theorem under_seq : Try.prog.underlying 42 = some (TypeDesc.func #[87] #[] false) := by kernel_rfl
theorem eqF_in (d : Nat) (w : World) (f : Fn) (a b : Array Value) : (Op.equalIn (d + 1) 42 (Value.func f a b) .nilFunc).run Try.prog w = .ok false w := by
  simp [Op.equalIn, run_underlying under_seq]
theorem eqF_op (w : World) (f : Fn) (a b : Array Value) : (Op.equal 42 (Value.func f a b) .nilFunc).run Try.prog w = .ok false w := eqF_in 9999 w f a b
theorem eqF_any (w : World) (f : Fn) (a b : Array Value) : (Go.binOp .eql 42 (Value.func f a b) .nilFunc).run Try.prog w = .ok (.bool false) w := by
  simp [go_sem, Go.binOp, eqF_op, Result.andThen]
attribute [local go_sem] eqF_any
theorem own_blk {β : Type} (i : Nat) (cs : Array Value) (t : TypeId) : Own (fun (_ : β) (W : World) => W.heap[i]? = some (.cells cs t (0, 0))) := by
  intro s A B row h hg hr
  exact (hg.block i (blk_lt h) (fun e => by obtain ⟨o1, ho, hc⟩ := hr _ e.symm; rw [h] at ho; cases ho; cases hc)).trans h
theorem ki_blk {B0 Bl i : Nat} {A B : World} {cs : Array Value} {t : TypeId} (h : A.heap[i]? = some (.cells cs t (0, 0))) (ht : t ≠ 45) (hi : KiR B0 Bl A B) : B.heap[i]? = some (.cells cs t (0, 0)) := by
  obtain ⟨k, _, hg, ⟨cs', hk⟩, _, _⟩ := hi
  exact blk_grown h hg (ne_blk h hk ht)
/-- What is held while the runs are collected: the box, the settings, the bound. -/
def HeldE (w : World) (Bl : Nat) (cv : Array Value) (kk : Int) (pre : List S45) (W : World) : Prop := HoldsR w.heap.size Bl pre W ∧ Below w.heap.size w W ∧ W.heap[w.heap.size]? = some (.cells cv 23 (0, 0)) ∧ W.heap[w.heap.size + 1]? = some (.cells #[.int .u8 kk] 5 (0, 0))
theorem heldE_own (w : World) (Bl : Nat) (cv : Array Value) (kk : Int) (B : Nat) (hB : w.heap.size ≤ B) : OwnFrom B (HeldE w Bl cv kk) :=
  OwnFrom.and (Own.from (holdsR_own _ _) _) (OwnFrom.and (ownFrom_below (Nat.le_refl _) hB) (OwnFrom.and (Own.from (own_blk _ _ _) _) (Own.from (own_blk _ _ _) _)))
theorem heldE_ki {w : World} {Bl : Nat} {cv : Array Value} {kk : Int} {B0 : Nat} (hB : w.heap.size ≤ B0) {pre : List S45} {A B : World} (h : HeldE w Bl cv kk pre A) (hi : KiR B0 Bl A B) : HeldE w Bl cv kk pre B :=
  ⟨holdsR_ki h.1 hi, by obtain ⟨k, hk, hg, _⟩ := hi; exact h.2.1.grown hg h.2.1.size (fun j e => by injection e with e; omega), ki_blk h.2.2.1 (by decide) hi, ki_blk h.2.2.2 (by decide) hi⟩
theorem all_boxes {w w1 w2 : World} {id m u b c z s me o a l at1 n1 kk : Int} (hc : w1.heap[w.heap.size]? = some (.cells #[.int .i64 id, .int .i64 m, .int .i64 u, .int .i64 b, .int .i64 c, .int .i64 z, .int .i64 s, .int .i64 me, .int .i64 o, .int .i64 a, .int .i64 l] 23 (0, 0))) (hk : w1.heap[w.heap.size + 1]? = some (.cells #[.int .u8 kk] 5 (0, 0))) (hb : Below w.heap.size w w1)
    (h : w2 = (((w1.alloc (.cells #[.slice none 0 0] 40)).alloc (.cells #[.int .i64 id, .int .i64 m, .int .i64 u, .int .i64 b, .int .i64 c, .int .i64 z, .int .i64 s, .int .i64 me, .int .i64 o, .int .i64 a, .int .i64 l] 23)).alloc (.cells #[.int .i64 at1] 3)).alloc (.cells #[.int .i64 n1] 3)) :
    w2.heap[w1.heap.size]? = some (.cells #[.slice none 0 0] 40 (0, 0)) ∧ w2.heap[w1.heap.size + 1]? = some (.cells #[.int .i64 id, .int .i64 m, .int .i64 u, .int .i64 b, .int .i64 c, .int .i64 z, .int .i64 s, .int .i64 me, .int .i64 o, .int .i64 a, .int .i64 l] 23 (0, 0)) ∧ w2.heap[w1.heap.size + 1 + 1]? = some (.cells #[.int .i64 at1] 3 (0, 0)) ∧ w2.heap[w1.heap.size + 1 + 1 + 1]? = some (.cells #[.int .i64 n1] 3 (0, 0)) ∧
      w2.heap[w.heap.size]? = some (.cells #[.int .i64 id, .int .i64 m, .int .i64 u, .int .i64 b, .int .i64 c, .int .i64 z, .int .i64 s, .int .i64 me, .int .i64 o, .int .i64 a, .int .i64 l] 23 (0, 0)) ∧ w2.heap[w.heap.size + 1]? = some (.cells #[.int .u8 kk] 5 (0, 0)) ∧ Below w.heap.size w w2 := by
  have hs := hb.size
  refine ⟨?_, ?_, ?_, ?_, ?_, ?_, ?_⟩
  · rw [h]; exact blk_alloc (blk_alloc (blk_alloc (World.alloc_heap_new w1 _) _) _) _
  · rw [h]; have := World.alloc_heap_new (w1.alloc (.cells #[.slice none 0 0] 40)) (.cells #[.int .i64 id, .int .i64 m, .int .i64 u, .int .i64 b, .int .i64 c, .int .i64 z, .int .i64 s, .int .i64 me, .int .i64 o, .int .i64 a, .int .i64 l] 23); rw [World.size_alloc] at this; exact blk_alloc (blk_alloc this _) _
  · rw [h]; have := World.alloc_heap_new ((w1.alloc (.cells #[.slice none 0 0] 40)).alloc (.cells #[.int .i64 id, .int .i64 m, .int .i64 u, .int .i64 b, .int .i64 c, .int .i64 z, .int .i64 s, .int .i64 me, .int .i64 o, .int .i64 a, .int .i64 l] 23)) (.cells #[.int .i64 at1] 3); rw [World.size_alloc, World.size_alloc] at this; exact blk_alloc this _
  · rw [h]; have := World.alloc_heap_new (((w1.alloc (.cells #[.slice none 0 0] 40)).alloc (.cells #[.int .i64 id, .int .i64 m, .int .i64 u, .int .i64 b, .int .i64 c, .int .i64 z, .int .i64 s, .int .i64 me, .int .i64 o, .int .i64 a, .int .i64 l] 23)).alloc (.cells #[.int .i64 at1] 3)) (.cells #[.int .i64 n1] 3); rw [World.size_alloc, World.size_alloc, World.size_alloc] at this; exact this
  · rw [h]; exact blk_alloc (blk_alloc (blk_alloc (blk_alloc hc _) _) _) _
  · rw [h]; exact blk_alloc (blk_alloc (blk_alloc (blk_alloc hk _) _) _) _
  · rw [h]; exact (((hb.alloc hs _).alloc (by simp; omega) _).alloc (by simp; omega) _).alloc (by simp; omega) _
theorem blk_kept {base Bl i n : Nat} {Wb wq : World} {v : Value} {xs : List Value} {x : S45} {cs : Array Value} {t : TypeId} (h : Wb.heap[i]? = some (.cells cs t (0, 0))) (hv : Boxed Wb Bl 40 v) (hown : Wb.ownsRow base 45 4 v n xs) (hgrow : (Wb.alloc (.cells #[.int .i64 x.f0, .int .i64 x.f1, .int .i64 x.f2, .int .i64 x.f3] 45)).grownBy wq v.ownBlock) (v' : Value)
    (ht : t ≠ 45 := by decide) (ht2 : t ≠ 40 := by decide) : (wq.setCell ⟨Bl, 0, none⟩ v').heap[i]? = some (.cells cs t (0, 0)) := by
  have hv1 : Boxed wq Bl 40 v := (hv.alloc _).kept hgrow (hv.not_row (by decide) hown)
  have e2 := blk_grown (blk_alloc h (.cells #[.int .i64 x.f0, .int .i64 x.f1, .int .i64 x.f2, .int .i64 x.f3] 45)) hgrow (fun e' => by
    obtain ⟨cells, hc⟩ := own_typed hown i e'.symm
    rw [hc] at h; injection h with h; injection h with _ e3
    exact ht e3.symm)
  exact set_other e2 hv1 ht2 _ _
set_option maxRecDepth 100000 in
set_option maxHeartbeats 4000000 in
theorem es_rest (id m u b c z s me o a l : Int) (at1 n1 kk : Int) (hk0 : 0 ≤ kk) (hk1 : kk ≤ 255) (w : World) (hs : checkC id m u b c z s me o a l = 0 → revetmentref07_Small.f id m u b c z s me o a l = some true) :
    Calls Try.prog 6 #[.agg #[.int .i64 id, .int .i64 m, .int .i64 u, .int .i64 b, .int .i64 c, .int .i64 z, .int .i64 s, .int .i64 me, .int .i64 o, .int .i64 a, .int .i64 l], .int .i64 at1, .int .i64 n1, .int .u8 kk] w fun e w' => e = .returned (.bool true) ∧ Below w.heap.size w w' := by
  obtain ⟨cc, hcc⟩ : ∃ cc : Int, cc = checkC id m u b c z s me o a l := ⟨_, rfl⟩
  have HCC : Hid (revetmentref07_Check.f id m u b c z s me o a l = some cc) := Lib.hid (by unfold revetmentref07_Check.f; rw [hcc])
  refine (callsIn_wide (n := 10)).1 ?_
  refine callsIn_of_wp_marks Try.func6 rfl trivial ?_ rfl
  simp only [Try.ntmps6, List.size_toArray, List.length_cons, List.length_nil, Nat.reduceAdd, Nat.reduceSub, Array.replicate_succ, Array.replicate_zero, List.push_toArray, List.append_toArray, List.nil_append, List.cons_append]
  have C0 := Lib.hid (blk_alloc (World.alloc_heap_new w (.cells #[.int .i64 id, .int .i64 m, .int .i64 u, .int .i64 b, .int .i64 c, .int .i64 z, .int .i64 s, .int .i64 me, .int .i64 o, .int .i64 a, .int .i64 l] 23)) (.cells #[.int .u8 kk] 5))
  have K0 := Lib.hid (show ((w.alloc (.cells #[.int .i64 id, .int .i64 m, .int .i64 u, .int .i64 b, .int .i64 c, .int .i64 z, .int .i64 s, .int .i64 me, .int .i64 o, .int .i64 a, .int .i64 l] 23)).alloc (.cells #[.int .u8 kk] 5)).heap[w.heap.size + 1]? = some (.cells #[.int .u8 kk] 5 (0, 0)) by have h := World.alloc_heap_new (w.alloc (.cells #[.int .i64 id, .int .i64 m, .int .i64 u, .int .i64 b, .int .i64 c, .int .i64 z, .int .i64 s, .int .i64 me, .int .i64 o, .int .i64 a, .int .i64 l] 23)) (.cells #[.int .u8 kk] 5); rwa [World.size_alloc] at h)
  have B0 := Lib.hid (((Below.refl _ w).alloc (Nat.le_refl _) (.cells #[.int .i64 id, .int .i64 m, .int .i64 u, .int .i64 b, .int .i64 c, .int .i64 z, .int .i64 s, .int .i64 me, .int .i64 o, .int .i64 a, .int .i64 l] 23)).alloc (by simp) (.cells #[.int .u8 kk] 5))
  obtain ⟨q0, q1, q2, q3, q4, q5, q6, q7, q8, q9, q10⟩ := cz11 C0.out
  have kq := Boxed.cell K0.out
  by_cases h : checkC id m u b c z s me o a l = 0
  · have HSM := Lib.hid (hs h); clear hs
    rw [h] at hcc
    clear h
    gi_wp2_with (first | (refine ⟨trivial, ?_⟩; gi_at_call 31; refine (callsIn_wide.2 (revetmentref07_Check.calls id m u b c z s me o a l cc _ HCC.out)).mono ?_; rintro e w1 ⟨rfl, hb1⟩; have C1 := Lib.hid (blk_below C0.out hb1); have K1 := Lib.hid (blk_below K0.out hb1); have B1 := Lib.hid (B0.out.trans (hb1.mono (by have := B0.out.size; simp at this ⊢; omega))); clear C0 K0 B0 hb1 q0 q1 q2 q3 q4 q5 q6 q7 q8 q9 q10 kq; have C0 := C1; have K0 := K1; have B0 := B1; clear C1 K1 B1; obtain ⟨q0, q1, q2, q3, q4, q5, q6, q7, q8, q9, q10⟩ := cz11 C0.out; have kq := Boxed.cell K0.out) | (refine ⟨trivial, ?_⟩; gi_at_call 33; refine (callsIn_wide.2 (revetmentref07_Small.calls id m u b c z s me o a l true _ HSM.out)).mono ?_; rintro e w1 ⟨rfl, hb1⟩; have C1 := Lib.hid (blk_below C0.out hb1); have K1 := Lib.hid (blk_below K0.out hb1); have B1 := Lib.hid (B0.out.trans (hb1.mono (by have := B0.out.size; simp at this ⊢; omega))); clear C0 K0 B0 hb1 q0 q1 q2 q3 q4 q5 q6 q7 q8 q9 q10 kq; have C0 := C1; have K0 := K1; have B0 := B1; clear C1 K1 B1; obtain ⟨q0, q1, q2, q3, q4, q5, q6, q7, q8, q9, q10⟩ := cz11 C0.out; have kq := Boxed.cell K0.out; obtain ⟨b0, b1, b2, b3, b4, b5, b6, b7, b8, b9, b10⟩ := cz11 (blk_alloc C0.out (.cells #[.slice none 0 0] 40))) | (refine ⟨trivial, ?_⟩; gi_at_call 35; refine (all_in _ id m u b c z s me o a l at1 n1 _).mono ?_; rintro e w2 ⟨rfl, hw2⟩; obtain ⟨L1, D1, A1, N1, C1, K1, B1⟩ := all_boxes C0.out K0.out B0.out hw2; have K1L := K0; have L0 := Lib.hid L1; have D0 := Lib.hid D1; have A0 := Lib.hid A1; have N0 := Lib.hid N1; have C2 := Lib.hid C1; have K2 := Lib.hid K1; have B2 := Lib.hid B1; clear L1 D1 A1 N1 C1 K1 B1 C0 K0 B0 hw2 b0 b1 b2 b3 b4 b5 b6 b7 b8 b9 b10 q0 q1 q2 q3 q4 q5 q6 q7 q8 q9 q10 kq) | (refine ⟨trivial, ?_⟩; gi_at_call 34; refine (callsIn_wide.2 (revetmentlaw41_live.calls true _ live41_eq)).mono ?_; rintro e w3 ⟨rfl, hb3⟩; have L3 := Lib.hid (blk_below L0.out hb3); have D3 := Lib.hid (blk_below D0.out hb3); have A3 := Lib.hid (blk_below A0.out hb3); have N3 := Lib.hid (blk_below N0.out hb3); have C3 := Lib.hid (blk_below C2.out hb3); have K3 := Lib.hid (blk_below K2.out hb3); have B3 := Lib.hid (B2.out.trans (hb3.mono B2.out.size)); clear L0 D0 A0 N0 C2 K2 B2 hb3))
    obtain ⟨Bl, hBl⟩ : ∃ Bl, Bl = w1.heap.size := ⟨_, rfl⟩
    rw [← hBl] at L3 D3 A3 N3 ⊢
    have HBW : Hid (w.heap.size + 1 < Bl) := Lib.hid (by have := blk_lt K1L.out; omega)
    clear hBl
    have KWR : Hid (IntKind.i64.wrap kk = kk) := Lib.hid ((i64_w _).trans (Geo.wr ⟨by omega, by omega⟩))
    have HLN := Lib.hid (runsF_len id m u b c z s me o a l at1 n1)
    refine range_R rfl (by decide) (gf := 76) (lb := #[.pointer (some ⟨Bl + 1, 0, none⟩), .pointer (some ⟨Bl + 1 + 1, 0, none⟩), .pointer (some ⟨Bl + 1 + 1 + 1, 0, none⟩)]) rfl trivial (enters_of Try.func76 (by kernel_rfl) rfl)
      (runs_stops 9 Bl (Bl + 1) (Bl + 1 + 1) (Bl + 1 + 1 + 1) id m u b c z s me o a l at1 n1 w3 D3.out A3.out N3.out L3.out) kpR_t (fun W l o o' hl h hc => kpR_b W l o o' (by have := blk_lt L3.out; omega) h hc) kiR_keeps (fun _ => rfl)
      (fun pre W => HeldE w Bl #[.int .i64 id, .int .i64 m, .int .i64 u, .int .i64 b, .int .i64 c, .int .i64 z, .int .i64 s, .int .i64 me, .int .i64 o, .int .i64 a, .int .i64 l] kk pre W ∧ (pre.length : Int) ≤ kk) (fun cd pre W => HeldE w Bl #[.int .i64 id, .int .i64 m, .int .i64 u, .int .i64 b, .int .i64 c, .int .i64 z, .int .i64 s, .int .i64 me, .int .i64 o, .int .i64 a, .int .i64 l] kk pre W ∧ cd = .exit 0 ∧ (pre.length : Int) = kk + 1)
      (OwnFrom.and (heldE_own _ _ _ _ _ B3.out.size) (fun _ _ _ _ h _ _ => h)) (fun s A B hs hi => ⟨heldE_ki B3.out.size hs.1 hi, hs.2⟩)
      (fun cd => OwnFrom.and (heldE_own _ _ _ _ _ B3.out.size) (fun _ _ _ _ h _ _ => h)) ⟨⟨⟨_, L3.out, Kd.R_nil _ _ _ _ _⟩, B3.out, C3.out, K3.out⟩, by simpa using hk0⟩ ?round ?done ?stop
    case round =>
      intro l1 pre x W hl hi hlen
      have HI := Lib.hid hi; have HLEN := Lib.hid hlen; clear hi hlen
      dsimp only [encR]
      gi_wp2
      refine ⟨(KeepsOthers.alloc _ _).from _, kpR_below (by obtain ⟨v, hv, _⟩ := HI.out.1.1; exact hv.lt) ((Below.refl _ W).alloc (Nat.le_refl _) _), ?_⟩
      intro r o1 ho hoc
      obtain ⟨Wb, hWb⟩ : ∃ Wb, Wb = (W.alloc (.cells #[.int .i64 x.f0, .int .i64 x.f1, .int .i64 x.f2, .int .i64 x.f3] 45)).putObj l1 (.loop r) := ⟨_, rfl⟩
      have hne : W.heap.size ≠ l1 := by
        rintro rfl; rw [World.alloc_heap_new] at ho; cases ho; cases hoc
      have hx : Wb.heap[W.heap.size]? = some (.cells #[.int .i64 x.f0, .int .i64 x.f1, .int .i64 x.f2, .int .i64 x.f3] 45 (0, 0)) := by rw [hWb]; exact (World.putObj_heap_other hne).trans (World.alloc_heap_new W _)
      have ib : HeldE w Bl #[.int .i64 id, .int .i64 m, .int .i64 u, .int .i64 b, .int .i64 c, .int .i64 z, .int .i64 s, .int .i64 me, .int .i64 o, .int .i64 a, .int .i64 l] kk pre Wb := by
        have ho1 := heldE_own w Bl #[.int .i64 id, .int .i64 m, .int .i64 u, .int .i64 b, .int .i64 c, .int .i64 z, .int .i64 s, .int .i64 me, .int .i64 o, .int .i64 a, .int .i64 l] kk w3.heap.size B3.out.size
        rw [hWb]; exact ho1.putObj _ (ho1.alloc _ HI.out.1) hl ho hoc
      rw [← hWb]
      obtain ⟨⟨v, hv, _, inner, hown, hreps⟩, bb, hcb, hkb⟩ := ib
      have hvc := hv.cell
      obtain ⟨x0, x1, x2, x3⟩ := cz4 hx
      have HV := Lib.hid hv; have HBB := Lib.hid bb; have HX := Lib.hid hx; have HOWN := Lib.hid hown; have HREPS := Lib.hid hreps; have CQ := Lib.hid hcb; have KQ := Lib.hid hkb
      clear hv bb hx hown hreps hWb ho hoc hl hne hcb hkb
      obtain ⟨i0, hi, hz0, hz1, hz2⟩ := info_parts info45
      have HI0 := Lib.hid hi; have HZ0 := Lib.hid hz0; have HZ1 := Lib.hid hz1; have HZ2 := Lib.hid hz2
      clear hi hz0 hz1 hz2
      have hk : pre.length + 1 ≤ 3932161 := by have h1 := HLEN.out; have h2 := HLN.out; omega
      have HK := Lib.hid hk; clear hk
      have kwr := KWR.out
      by_cases hcmp : kk < (pre.length : Int) + 1
      · have hcb : decide (kk < (pre.length : Int) + 1) = true := decide_eq_true hcmp
        gi_wp2_with (gi_at_builtin; refine wpListIn_append_own_at _ rfl _ _ 40 rfl w.heap.size 45 i0 (.agg #[(.int .i64 0), (.int .i64 0), (.int .i64 0), (.int .i64 0)]) 4 32 Try.underlying40 HI0.out HZ0.out HZ1.out HZ2.out rfl (by decide) v pre.length inner rfl (HOWN.out.alloc _) ⟨Wb.heap.size, 0, none⟩ 1 1 [.int .i64 x.f0, .int .i64 x.f1, .int .i64 x.f2, .int .i64 x.f3] rfl rfl (World.news_of_block (cs := #[.int .i64 x.f0, .int .i64 x.f1, .int .i64 x.f2, .int .i64 x.f3]) (t := 45) (fr := (0, 0)) (World.alloc_heap_new Wb _)) (by simp [Value.oneCell']) (by have := HK.out; simp only [maxLen]; omega) (by have := HK.out; omega) (by have := HBB.out.size; simp; omega) ?_; intro v' wq hown' hgrow _ hat; obtain ⟨g', cap', rfl⟩ := ownsRow_succ hown'; have hv1 := (HV.out.alloc (.cells #[.int .i64 x.f0, .int .i64 x.f1, .int .i64 x.f2, .int .i64 x.f3] 45)).kept hgrow (HV.out.not_row (by decide) HOWN.out); have hc1 := hv1.cell; have hf1 := hv1.frozen; have hkc := Boxed.cell (blk_kept KQ.out HV.out HOWN.out hgrow (.slice (some ⟨g', 0, none⟩) (pre.length + 1) cap')))
        obtain ⟨k1, k2, k3, k4⟩ := app_keeps (x := x) (by have := HBW.out; omega) HV.out HOWN.out HREPS.out rfl hown' hgrow hat
        exact ⟨k3.from _, ⟨k2, HBB.out.trans k4, blk_kept CQ.out HV.out HOWN.out hgrow _, blk_kept KQ.out HV.out HOWN.out hgrow _⟩, rfl, by have := HI.out.2; simp; omega⟩
      · have hcb : decide (kk < (pre.length : Int) + 1) = false := decide_eq_false hcmp
        gi_wp2_with (gi_at_builtin; refine wpListIn_append_own_at _ rfl _ _ 40 rfl w.heap.size 45 i0 (.agg #[(.int .i64 0), (.int .i64 0), (.int .i64 0), (.int .i64 0)]) 4 32 Try.underlying40 HI0.out HZ0.out HZ1.out HZ2.out rfl (by decide) v pre.length inner rfl (HOWN.out.alloc _) ⟨Wb.heap.size, 0, none⟩ 1 1 [.int .i64 x.f0, .int .i64 x.f1, .int .i64 x.f2, .int .i64 x.f3] rfl rfl (World.news_of_block (cs := #[.int .i64 x.f0, .int .i64 x.f1, .int .i64 x.f2, .int .i64 x.f3]) (t := 45) (fr := (0, 0)) (World.alloc_heap_new Wb _)) (by simp [Value.oneCell']) (by have := HK.out; simp only [maxLen]; omega) (by have := HK.out; omega) (by have := HBB.out.size; simp; omega) ?_; intro v' wq hown' hgrow _ hat; obtain ⟨g', cap', rfl⟩ := ownsRow_succ hown'; have hv1 := (HV.out.alloc (.cells #[.int .i64 x.f0, .int .i64 x.f1, .int .i64 x.f2, .int .i64 x.f3] 45)).kept hgrow (HV.out.not_row (by decide) HOWN.out); have hc1 := hv1.cell; have hf1 := hv1.frozen; have hkc := Boxed.cell (blk_kept KQ.out HV.out HOWN.out hgrow (.slice (some ⟨g', 0, none⟩) (pre.length + 1) cap')))
        obtain ⟨k1, k2, k3, k4⟩ := app_keeps (x := x) (by have := HBW.out; omega) HV.out HOWN.out HREPS.out rfl hown' hgrow hat
        exact ⟨k3.from _, k1, ⟨k2, HBB.out.trans k4, blk_kept CQ.out HV.out HOWN.out hgrow _, blk_kept KQ.out HV.out HOWN.out hgrow _⟩, by simp; omega⟩
    case done =>
      rintro D ys W hD rfl ⟨hE, hlen⟩ hK
      obtain ⟨wl, hwl⟩ : ∃ wl, wl = runsF id m u b c z s me o a l at1 n1 := ⟨_, rfl⟩
      rw [← hwl] at hE hlen
      have HWL := Lib.hid hwl; have HLW : Hid (wl.length ≤ 3932161) := Lib.hid (by rw [hwl]; exact HLN.out); clear hwl
      obtain ⟨⟨v, hv, hR⟩, hBW, hcW, hkW⟩ := hE
      obtain ⟨A0, c0, rfl, hle0, hC0⟩ := Kd.R_reads hR
      have hvc := Boxed.cell hv
      obtain ⟨q0, q1, q2, q3, q4, q5, q6, q7, q8, q9, q10⟩ := cz11 hcW
      have kq := Boxed.cell hkW
      have HG0 := Lib.hid hC0; have HK := Lib.hid hK; have HBW0 := Lib.hid hBW; have HV := Lib.hid hv; have HKW := Lib.hid hkW; have HLE0 := Lib.hid hle0
      clear hC0 hK hBW hcW hkW hle0 hR hv
      have kwr := KWR.out
      have kw1 : IntKind.i64.wrap (kk + 1) = kk + 1 := (i64_w _).trans (Geo.wr ⟨by omega, by omega⟩)
      have hcw : decide (kk + 1 < (wl.length : Int)) = false := decide_eq_false (by omega)
      gi_wp2_with (first | (refine ⟨trivial, ?_⟩; gi_at_call 36; refine (callsIn_wide.2 (rruns_any id m u b c z s me o a l at1 n1 _)).mono ?_; rintro e w5 ⟨v5, rfl, hR5, hb5⟩; rw [← HWL.out] at hR5; obtain ⟨A5, c5, rfl, hle5, hC5⟩ := Kd.R_reads hR5; have HC5 := Lib.hid hC5; have HG5 := Lib.hid (Kd.C_below HG0.out hb5); have HK5 := Lib.hid (blk_below HK.out hb5); have HB5 := Lib.hid (HBW0.out.trans (hb5.mono HBW0.out.size)); have hv5 := Boxed.cell (blk_below HV.out hb5); have kq5 := Boxed.cell (blk_below HKW.out hb5); have HLE5 := Lib.hid hle5; clear hle5 hC5 hb5 hR5 hvc kq q0 q1 q2 q3 q4 q5 q6 q7 q8 q9 q10) | (refine ⟨trivial, ?_⟩; gi_at_call 37; refine (callsIn_wide.2 (revetmentref41_Same.calls 4000000 A0 c0 wl A5 c5 wl true _ HG5.out HLE0.out (HC5.out) HLE5.out (sameR_ok wl (by have := HLW.out; omega) 4000000 (by have := HLW.out; omega)))).mono ?_; rintro e w6 ⟨rfl, hd6⟩; have HK6 := Lib.hid (blk_below HK5.out hd6.below); have HB6 := Lib.hid (HB5.out.trans (hd6.below.mono HB5.out.size)); clear hd6 hv5 kq5) | (refine ⟨trivial, ?_⟩; gi_at_call 34; refine (callsIn_wide.2 (revetmentlaw41_live.calls true _ live41_eq)).mono ?_; rintro e w7 ⟨rfl, hb7⟩; have HK7 := Lib.hid (blk_below HK6.out hb7); have HB7 := Lib.hid (HB6.out.trans (hb7.mono HB6.out.size)); clear hb7))
      have hB := HB7.out.trans (belowK_b (w := w) (Nat.le_refl _) w7 D _ (.deferred none) (by have := B3.out.size; omega) HK7.out rfl rfl)
      refine ⟨by simp, .inl ⟨_, _, rfl, run_takeDeferred HK7.out, ?_⟩⟩
      exact ⟨_, results_tmp rfl _ _ _, rfl, hB⟩
    case stop =>
      rintro D cd pre W hD hpre ⟨hE, rfl, hlen⟩ hK
      obtain ⟨wl, hwl⟩ : ∃ wl, wl = runsF id m u b c z s me o a l at1 n1 := ⟨_, rfl⟩
      rw [← hwl] at hpre
      have HWL := Lib.hid hwl; have HLW : Hid (wl.length ≤ 3932161) := Lib.hid (by rw [hwl]; exact HLN.out); clear hwl
      obtain ⟨⟨v, hv, hR⟩, hBW, hcW, hkW⟩ := hE
      obtain ⟨A0, c0, rfl, hle0, hC0⟩ := Kd.R_reads hR
      have hvc := Boxed.cell hv
      obtain ⟨q0, q1, q2, q3, q4, q5, q6, q7, q8, q9, q10⟩ := cz11 hcW
      have kq := Boxed.cell hkW
      have HG0 := Lib.hid hC0; have HK := Lib.hid hK; have HBW0 := Lib.hid hBW; have HV := Lib.hid hv; have HKW := Lib.hid hkW; have HLE0 := Lib.hid hle0
      clear hC0 hK hBW hcW hkW hle0 hR hv
      have kwr := KWR.out
      have kw1 : IntKind.i64.wrap (kk + 1) = kk + 1 := (i64_w _).trans (Geo.wr ⟨by omega, by omega⟩)
      by_cases hgt : kk + 1 < (wl.length : Int)
      · have hcw : decide (kk + 1 < (wl.length : Int)) = true := decide_eq_true hgt
        have HPL : Hid ((kk + 1).toNat = pre.length) := Lib.hid (by omega)
        have HPR := Lib.hid hpre
        gi_wp2_with (first | (refine ⟨trivial, ?_⟩; gi_at_call 36; refine (callsIn_wide.2 (rruns_any id m u b c z s me o a l at1 n1 _)).mono ?_; rintro e w5 ⟨v5, rfl, hR5, hb5⟩; rw [← HWL.out] at hR5; obtain ⟨A5, c5, rfl, hle5, hC5⟩ := Kd.R_reads hR5; have HC5 := Lib.hid hC5; have HG5 := Lib.hid (Kd.C_below HG0.out hb5); have HK5 := Lib.hid (blk_below HK.out hb5); have HB5 := Lib.hid (HBW0.out.trans (hb5.mono HBW0.out.size)); have hv5 := Boxed.cell (blk_below HV.out hb5); have kq5 := Boxed.cell (blk_below HKW.out hb5); have HLE5 := Lib.hid hle5; have hkc : kk + 1 ≤ (c5 : Int) := (by omega); clear hle5 hC5 hb5 hR5 hvc kq q0 q1 q2 q3 q4 q5 q6 q7 q8 q9 q10) | (refine ⟨trivial, ?_⟩; gi_at_call 37; rw [HPL.out]; refine (callsIn_wide.2 (revetmentref41_Same.calls 4000000 A0 c0 pre A5 c5 pre true _ HG5.out HLE0.out (by have h9 := Kd.C_take (m := pre.length) HC5.out HPR.out.length_le; rw [← List.prefix_iff_eq_take.1 HPR.out] at h9; exact h9) (by have h1 := HLE5.out; have h2 := HPR.out.length_le; omega) (sameR_ok pre (by have h1 := HLW.out; have h2 := HPR.out.length_le; omega) 4000000 (by have h1 := HLW.out; have h2 := HPR.out.length_le; omega)))).mono ?_; rintro e w6 ⟨rfl, hd6⟩; have HK6 := Lib.hid (blk_below HK5.out hd6.below); have HB6 := Lib.hid (HB5.out.trans (hd6.below.mono HB5.out.size)); clear hd6 hv5 kq5) | (refine ⟨trivial, ?_⟩; gi_at_call 34; refine (callsIn_wide.2 (revetmentlaw41_live.calls true _ live41_eq)).mono ?_; rintro e w7 ⟨rfl, hb7⟩; have HK7 := Lib.hid (blk_below HK6.out hb7); have HB7 := Lib.hid (HB6.out.trans (hb7.mono HB6.out.size)); clear hb7))
        have hB := HB7.out.trans (belowK_b (w := w) (Nat.le_refl _) w7 D _ (.deferred none) (by have := B3.out.size; omega) HK7.out rfl rfl)
        refine ⟨by simp, .inl ⟨_, _, rfl, run_takeDeferred HK7.out, ?_⟩⟩
        exact ⟨_, results_tmp rfl _ _ _, rfl, hB⟩
      · have hcw : decide (kk + 1 < (wl.length : Int)) = false := decide_eq_false hgt
        have hp : pre = wl := List.IsPrefix.eq_of_length hpre (by have := hpre.length_le; omega)
        subst hp
        gi_wp2_with (first | (refine ⟨trivial, ?_⟩; gi_at_call 36; refine (callsIn_wide.2 (rruns_any id m u b c z s me o a l at1 n1 _)).mono ?_; rintro e w5 ⟨v5, rfl, hR5, hb5⟩; rw [← HWL.out] at hR5; obtain ⟨A5, c5, rfl, hle5, hC5⟩ := Kd.R_reads hR5; have HC5 := Lib.hid hC5; have HG5 := Lib.hid (Kd.C_below HG0.out hb5); have HK5 := Lib.hid (blk_below HK.out hb5); have HB5 := Lib.hid (HBW0.out.trans (hb5.mono HBW0.out.size)); have hv5 := Boxed.cell (blk_below HV.out hb5); have kq5 := Boxed.cell (blk_below HKW.out hb5); have HLE5 := Lib.hid hle5; clear hle5 hC5 hb5 hR5 hvc kq q0 q1 q2 q3 q4 q5 q6 q7 q8 q9 q10) | (refine ⟨trivial, ?_⟩; gi_at_call 37; refine (callsIn_wide.2 (revetmentref41_Same.calls 4000000 A0 c0 pre A5 c5 pre true _ HG5.out HLE0.out (HC5.out) HLE5.out (sameR_ok pre (by have := HLW.out; omega) 4000000 (by have := HLW.out; omega)))).mono ?_; rintro e w6 ⟨rfl, hd6⟩; have HK6 := Lib.hid (blk_below HK5.out hd6.below); have HB6 := Lib.hid (HB5.out.trans (hd6.below.mono HB5.out.size)); clear hd6 hv5 kq5) | (refine ⟨trivial, ?_⟩; gi_at_call 34; refine (callsIn_wide.2 (revetmentlaw41_live.calls true _ live41_eq)).mono ?_; rintro e w7 ⟨rfl, hb7⟩; have HK7 := Lib.hid (blk_below HK6.out hb7); have HB7 := Lib.hid (HB6.out.trans (hb7.mono HB6.out.size)); clear hb7))
        have hB := HB7.out.trans (belowK_b (w := w) (Nat.le_refl _) w7 D _ (.deferred none) (by have := B3.out.size; omega) HK7.out rfl rfl)
        refine ⟨by simp, .inl ⟨_, _, rfl, run_takeDeferred HK7.out, ?_⟩⟩
        exact ⟨_, results_tmp rfl _ _ _, rfl, hB⟩

  · clear hs
    have hcb : (cc == 0) = false := beq_eq_false_iff_ne.mpr (by rw [hcc]; exact h)
    have hcb2 : (cc != 0) = true := bne_iff_ne.mpr (by rw [hcc]; exact h)
    clear hcc h
    gi_wp2_with (first | (refine ⟨trivial, ?_⟩; gi_at_call 31; refine (callsIn_wide.2 (revetmentref07_Check.calls id m u b c z s me o a l cc _ HCC.out)).mono ?_; rintro e w1 ⟨rfl, hb1⟩; have C1 := Lib.hid (blk_below C0.out hb1); have K1 := Lib.hid (blk_below K0.out hb1); have B1 := Lib.hid (B0.out.trans (hb1.mono (by have := B0.out.size; simp at this ⊢; omega))); clear C0 K0 B0 hb1 q0 q1 q2 q3 q4 q5 q6 q7 q8 q9 q10 kq; have C0 := C1; have K0 := K1; have B0 := B1; clear C1 K1 B1; obtain ⟨q0, q1, q2, q3, q4, q5, q6, q7, q8, q9, q10⟩ := cz11 C0.out; have kq := Boxed.cell K0.out; obtain ⟨b0, b1, b2, b3, b4, b5, b6, b7, b8, b9, b10⟩ := cz11 (blk_alloc C0.out (.cells #[.slice none 0 0] 40))) | (refine ⟨trivial, ?_⟩; gi_at_call 35; refine (all_in _ id m u b c z s me o a l at1 n1 _).mono ?_; rintro e w2 ⟨rfl, hw2⟩; obtain ⟨L1, D1, A1, N1, C1, K1, B1⟩ := all_boxes C0.out K0.out B0.out hw2; have K1L := K0; have L0 := Lib.hid L1; have D0 := Lib.hid D1; have A0 := Lib.hid A1; have N0 := Lib.hid N1; have C2 := Lib.hid C1; have K2 := Lib.hid K1; have B2 := Lib.hid B1; clear L1 D1 A1 N1 C1 K1 B1 C0 K0 B0 hw2 b0 b1 b2 b3 b4 b5 b6 b7 b8 b9 b10 q0 q1 q2 q3 q4 q5 q6 q7 q8 q9 q10 kq) | (refine ⟨trivial, ?_⟩; gi_at_call 34; refine (callsIn_wide.2 (revetmentlaw41_live.calls true _ live41_eq)).mono ?_; rintro e w3 ⟨rfl, hb3⟩; have L3 := Lib.hid (blk_below L0.out hb3); have D3 := Lib.hid (blk_below D0.out hb3); have A3 := Lib.hid (blk_below A0.out hb3); have N3 := Lib.hid (blk_below N0.out hb3); have C3 := Lib.hid (blk_below C2.out hb3); have K3 := Lib.hid (blk_below K2.out hb3); have B3 := Lib.hid (B2.out.trans (hb3.mono B2.out.size)); clear L0 D0 A0 N0 C2 K2 B2 hb3) | (refine ⟨trivial, ?_⟩))
    obtain ⟨Bl, hBl⟩ : ∃ Bl, Bl = w1.heap.size := ⟨_, rfl⟩
    rw [← hBl] at L3 D3 A3 N3 ⊢
    have HBW : Hid (w.heap.size + 1 < Bl) := Lib.hid (by have := blk_lt K1L.out; omega)
    clear hBl
    have KWR : Hid (IntKind.i64.wrap kk = kk) := Lib.hid ((i64_w _).trans (Geo.wr ⟨by omega, by omega⟩))
    have HLN := Lib.hid (runsF_len id m u b c z s me o a l at1 n1)
    refine range_R rfl (by decide) (gf := 76) (lb := #[.pointer (some ⟨Bl + 1, 0, none⟩), .pointer (some ⟨Bl + 1 + 1, 0, none⟩), .pointer (some ⟨Bl + 1 + 1 + 1, 0, none⟩)]) rfl trivial (enters_of Try.func76 (by kernel_rfl) rfl)
      (runs_stops 9 Bl (Bl + 1) (Bl + 1 + 1) (Bl + 1 + 1 + 1) id m u b c z s me o a l at1 n1 w3 D3.out A3.out N3.out L3.out) kpR_t (fun W l o o' hl h hc => kpR_b W l o o' (by have := blk_lt L3.out; omega) h hc) kiR_keeps (fun _ => rfl)
      (fun pre W => HeldE w Bl #[.int .i64 id, .int .i64 m, .int .i64 u, .int .i64 b, .int .i64 c, .int .i64 z, .int .i64 s, .int .i64 me, .int .i64 o, .int .i64 a, .int .i64 l] kk pre W ∧ (pre.length : Int) ≤ kk) (fun cd pre W => HeldE w Bl #[.int .i64 id, .int .i64 m, .int .i64 u, .int .i64 b, .int .i64 c, .int .i64 z, .int .i64 s, .int .i64 me, .int .i64 o, .int .i64 a, .int .i64 l] kk pre W ∧ cd = .exit 0 ∧ (pre.length : Int) = kk + 1)
      (OwnFrom.and (heldE_own _ _ _ _ _ B3.out.size) (fun _ _ _ _ h _ _ => h)) (fun s A B hs hi => ⟨heldE_ki B3.out.size hs.1 hi, hs.2⟩)
      (fun cd => OwnFrom.and (heldE_own _ _ _ _ _ B3.out.size) (fun _ _ _ _ h _ _ => h)) ⟨⟨⟨_, L3.out, Kd.R_nil _ _ _ _ _⟩, B3.out, C3.out, K3.out⟩, by simpa using hk0⟩ ?round ?done ?stop
    case round =>
      intro l1 pre x W hl hi hlen
      have HI := Lib.hid hi; have HLEN := Lib.hid hlen; clear hi hlen
      dsimp only [encR]
      gi_wp2
      refine ⟨(KeepsOthers.alloc _ _).from _, kpR_below (by obtain ⟨v, hv, _⟩ := HI.out.1.1; exact hv.lt) ((Below.refl _ W).alloc (Nat.le_refl _) _), ?_⟩
      intro r o1 ho hoc
      obtain ⟨Wb, hWb⟩ : ∃ Wb, Wb = (W.alloc (.cells #[.int .i64 x.f0, .int .i64 x.f1, .int .i64 x.f2, .int .i64 x.f3] 45)).putObj l1 (.loop r) := ⟨_, rfl⟩
      have hne : W.heap.size ≠ l1 := by
        rintro rfl; rw [World.alloc_heap_new] at ho; cases ho; cases hoc
      have hx : Wb.heap[W.heap.size]? = some (.cells #[.int .i64 x.f0, .int .i64 x.f1, .int .i64 x.f2, .int .i64 x.f3] 45 (0, 0)) := by rw [hWb]; exact (World.putObj_heap_other hne).trans (World.alloc_heap_new W _)
      have ib : HeldE w Bl #[.int .i64 id, .int .i64 m, .int .i64 u, .int .i64 b, .int .i64 c, .int .i64 z, .int .i64 s, .int .i64 me, .int .i64 o, .int .i64 a, .int .i64 l] kk pre Wb := by
        have ho1 := heldE_own w Bl #[.int .i64 id, .int .i64 m, .int .i64 u, .int .i64 b, .int .i64 c, .int .i64 z, .int .i64 s, .int .i64 me, .int .i64 o, .int .i64 a, .int .i64 l] kk w3.heap.size B3.out.size
        rw [hWb]; exact ho1.putObj _ (ho1.alloc _ HI.out.1) hl ho hoc
      rw [← hWb]
      obtain ⟨⟨v, hv, _, inner, hown, hreps⟩, bb, hcb, hkb⟩ := ib
      have hvc := hv.cell
      obtain ⟨x0, x1, x2, x3⟩ := cz4 hx
      have HV := Lib.hid hv; have HBB := Lib.hid bb; have HX := Lib.hid hx; have HOWN := Lib.hid hown; have HREPS := Lib.hid hreps; have CQ := Lib.hid hcb; have KQ := Lib.hid hkb
      clear hv bb hx hown hreps hWb ho hoc hl hne hcb hkb
      obtain ⟨i0, hi, hz0, hz1, hz2⟩ := info_parts info45
      have HI0 := Lib.hid hi; have HZ0 := Lib.hid hz0; have HZ1 := Lib.hid hz1; have HZ2 := Lib.hid hz2
      clear hi hz0 hz1 hz2
      have hk : pre.length + 1 ≤ 3932161 := by have h1 := HLEN.out; have h2 := HLN.out; omega
      have HK := Lib.hid hk; clear hk
      have kwr := KWR.out
      by_cases hcmp : kk < (pre.length : Int) + 1
      · have hcb : decide (kk < (pre.length : Int) + 1) = true := decide_eq_true hcmp
        gi_wp2_with (gi_at_builtin; refine wpListIn_append_own_at _ rfl _ _ 40 rfl w.heap.size 45 i0 (.agg #[(.int .i64 0), (.int .i64 0), (.int .i64 0), (.int .i64 0)]) 4 32 Try.underlying40 HI0.out HZ0.out HZ1.out HZ2.out rfl (by decide) v pre.length inner rfl (HOWN.out.alloc _) ⟨Wb.heap.size, 0, none⟩ 1 1 [.int .i64 x.f0, .int .i64 x.f1, .int .i64 x.f2, .int .i64 x.f3] rfl rfl (World.news_of_block (cs := #[.int .i64 x.f0, .int .i64 x.f1, .int .i64 x.f2, .int .i64 x.f3]) (t := 45) (fr := (0, 0)) (World.alloc_heap_new Wb _)) (by simp [Value.oneCell']) (by have := HK.out; simp only [maxLen]; omega) (by have := HK.out; omega) (by have := HBB.out.size; simp; omega) ?_; intro v' wq hown' hgrow _ hat; obtain ⟨g', cap', rfl⟩ := ownsRow_succ hown'; have hv1 := (HV.out.alloc (.cells #[.int .i64 x.f0, .int .i64 x.f1, .int .i64 x.f2, .int .i64 x.f3] 45)).kept hgrow (HV.out.not_row (by decide) HOWN.out); have hc1 := hv1.cell; have hf1 := hv1.frozen; have hkc := Boxed.cell (blk_kept KQ.out HV.out HOWN.out hgrow (.slice (some ⟨g', 0, none⟩) (pre.length + 1) cap')))
        obtain ⟨k1, k2, k3, k4⟩ := app_keeps (x := x) (by have := HBW.out; omega) HV.out HOWN.out HREPS.out rfl hown' hgrow hat
        exact ⟨k3.from _, ⟨k2, HBB.out.trans k4, blk_kept CQ.out HV.out HOWN.out hgrow _, blk_kept KQ.out HV.out HOWN.out hgrow _⟩, rfl, by have := HI.out.2; simp; omega⟩
      · have hcb : decide (kk < (pre.length : Int) + 1) = false := decide_eq_false hcmp
        gi_wp2_with (gi_at_builtin; refine wpListIn_append_own_at _ rfl _ _ 40 rfl w.heap.size 45 i0 (.agg #[(.int .i64 0), (.int .i64 0), (.int .i64 0), (.int .i64 0)]) 4 32 Try.underlying40 HI0.out HZ0.out HZ1.out HZ2.out rfl (by decide) v pre.length inner rfl (HOWN.out.alloc _) ⟨Wb.heap.size, 0, none⟩ 1 1 [.int .i64 x.f0, .int .i64 x.f1, .int .i64 x.f2, .int .i64 x.f3] rfl rfl (World.news_of_block (cs := #[.int .i64 x.f0, .int .i64 x.f1, .int .i64 x.f2, .int .i64 x.f3]) (t := 45) (fr := (0, 0)) (World.alloc_heap_new Wb _)) (by simp [Value.oneCell']) (by have := HK.out; simp only [maxLen]; omega) (by have := HK.out; omega) (by have := HBB.out.size; simp; omega) ?_; intro v' wq hown' hgrow _ hat; obtain ⟨g', cap', rfl⟩ := ownsRow_succ hown'; have hv1 := (HV.out.alloc (.cells #[.int .i64 x.f0, .int .i64 x.f1, .int .i64 x.f2, .int .i64 x.f3] 45)).kept hgrow (HV.out.not_row (by decide) HOWN.out); have hc1 := hv1.cell; have hf1 := hv1.frozen; have hkc := Boxed.cell (blk_kept KQ.out HV.out HOWN.out hgrow (.slice (some ⟨g', 0, none⟩) (pre.length + 1) cap')))
        obtain ⟨k1, k2, k3, k4⟩ := app_keeps (x := x) (by have := HBW.out; omega) HV.out HOWN.out HREPS.out rfl hown' hgrow hat
        exact ⟨k3.from _, k1, ⟨k2, HBB.out.trans k4, blk_kept CQ.out HV.out HOWN.out hgrow _, blk_kept KQ.out HV.out HOWN.out hgrow _⟩, by simp; omega⟩
    case done =>
      rintro D ys W hD rfl ⟨hE, hlen⟩ hK
      obtain ⟨wl, hwl⟩ : ∃ wl, wl = runsF id m u b c z s me o a l at1 n1 := ⟨_, rfl⟩
      rw [← hwl] at hE hlen
      have HWL := Lib.hid hwl; have HLW : Hid (wl.length ≤ 3932161) := Lib.hid (by rw [hwl]; exact HLN.out); clear hwl
      obtain ⟨⟨v, hv, hR⟩, hBW, hcW, hkW⟩ := hE
      obtain ⟨A0, c0, rfl, hle0, hC0⟩ := Kd.R_reads hR
      have hvc := Boxed.cell hv
      obtain ⟨q0, q1, q2, q3, q4, q5, q6, q7, q8, q9, q10⟩ := cz11 hcW
      have kq := Boxed.cell hkW
      have HG0 := Lib.hid hC0; have HK := Lib.hid hK; have HBW0 := Lib.hid hBW; have HV := Lib.hid hv; have HKW := Lib.hid hkW; have HLE0 := Lib.hid hle0
      clear hC0 hK hBW hcW hkW hle0 hR hv
      have kwr := KWR.out
      have kw1 : IntKind.i64.wrap (kk + 1) = kk + 1 := (i64_w _).trans (Geo.wr ⟨by omega, by omega⟩)
      have hcw : decide (kk + 1 < (wl.length : Int)) = false := decide_eq_false (by omega)
      gi_wp2_with (first | (refine ⟨trivial, ?_⟩; gi_at_call 36; refine (callsIn_wide.2 (rruns_any id m u b c z s me o a l at1 n1 _)).mono ?_; rintro e w5 ⟨v5, rfl, hR5, hb5⟩; rw [← HWL.out] at hR5; obtain ⟨A5, c5, rfl, hle5, hC5⟩ := Kd.R_reads hR5; have HC5 := Lib.hid hC5; have HG5 := Lib.hid (Kd.C_below HG0.out hb5); have HK5 := Lib.hid (blk_below HK.out hb5); have HB5 := Lib.hid (HBW0.out.trans (hb5.mono HBW0.out.size)); have hv5 := Boxed.cell (blk_below HV.out hb5); have kq5 := Boxed.cell (blk_below HKW.out hb5); have HLE5 := Lib.hid hle5; clear hle5 hC5 hb5 hR5 hvc kq q0 q1 q2 q3 q4 q5 q6 q7 q8 q9 q10) | (refine ⟨trivial, ?_⟩; gi_at_call 37; refine (callsIn_wide.2 (revetmentref41_Same.calls 4000000 A0 c0 wl A5 c5 wl true _ HG5.out HLE0.out (HC5.out) HLE5.out (sameR_ok wl (by have := HLW.out; omega) 4000000 (by have := HLW.out; omega)))).mono ?_; rintro e w6 ⟨rfl, hd6⟩; have HK6 := Lib.hid (blk_below HK5.out hd6.below); have HB6 := Lib.hid (HB5.out.trans (hd6.below.mono HB5.out.size)); clear hd6 hv5 kq5) | (refine ⟨trivial, ?_⟩; gi_at_call 34; refine (callsIn_wide.2 (revetmentlaw41_live.calls true _ live41_eq)).mono ?_; rintro e w7 ⟨rfl, hb7⟩; have HK7 := Lib.hid (blk_below HK6.out hb7); have HB7 := Lib.hid (HB6.out.trans (hb7.mono HB6.out.size)); clear hb7))
      have hB := HB7.out.trans (belowK_b (w := w) (Nat.le_refl _) w7 D _ (.deferred none) (by have := B3.out.size; omega) HK7.out rfl rfl)
      refine ⟨by simp, .inl ⟨_, _, rfl, run_takeDeferred HK7.out, ?_⟩⟩
      exact ⟨_, results_tmp rfl _ _ _, rfl, hB⟩
    case stop =>
      rintro D cd pre W hD hpre ⟨hE, rfl, hlen⟩ hK
      obtain ⟨wl, hwl⟩ : ∃ wl, wl = runsF id m u b c z s me o a l at1 n1 := ⟨_, rfl⟩
      rw [← hwl] at hpre
      have HWL := Lib.hid hwl; have HLW : Hid (wl.length ≤ 3932161) := Lib.hid (by rw [hwl]; exact HLN.out); clear hwl
      obtain ⟨⟨v, hv, hR⟩, hBW, hcW, hkW⟩ := hE
      obtain ⟨A0, c0, rfl, hle0, hC0⟩ := Kd.R_reads hR
      have hvc := Boxed.cell hv
      obtain ⟨q0, q1, q2, q3, q4, q5, q6, q7, q8, q9, q10⟩ := cz11 hcW
      have kq := Boxed.cell hkW
      have HG0 := Lib.hid hC0; have HK := Lib.hid hK; have HBW0 := Lib.hid hBW; have HV := Lib.hid hv; have HKW := Lib.hid hkW; have HLE0 := Lib.hid hle0
      clear hC0 hK hBW hcW hkW hle0 hR hv
      have kwr := KWR.out
      have kw1 : IntKind.i64.wrap (kk + 1) = kk + 1 := (i64_w _).trans (Geo.wr ⟨by omega, by omega⟩)
      by_cases hgt : kk + 1 < (wl.length : Int)
      · have hcw : decide (kk + 1 < (wl.length : Int)) = true := decide_eq_true hgt
        have HPL : Hid ((kk + 1).toNat = pre.length) := Lib.hid (by omega)
        have HPR := Lib.hid hpre
        gi_wp2_with (first | (refine ⟨trivial, ?_⟩; gi_at_call 36; refine (callsIn_wide.2 (rruns_any id m u b c z s me o a l at1 n1 _)).mono ?_; rintro e w5 ⟨v5, rfl, hR5, hb5⟩; rw [← HWL.out] at hR5; obtain ⟨A5, c5, rfl, hle5, hC5⟩ := Kd.R_reads hR5; have HC5 := Lib.hid hC5; have HG5 := Lib.hid (Kd.C_below HG0.out hb5); have HK5 := Lib.hid (blk_below HK.out hb5); have HB5 := Lib.hid (HBW0.out.trans (hb5.mono HBW0.out.size)); have hv5 := Boxed.cell (blk_below HV.out hb5); have kq5 := Boxed.cell (blk_below HKW.out hb5); have HLE5 := Lib.hid hle5; have hkc : kk + 1 ≤ (c5 : Int) := (by omega); clear hle5 hC5 hb5 hR5 hvc kq q0 q1 q2 q3 q4 q5 q6 q7 q8 q9 q10) | (refine ⟨trivial, ?_⟩; gi_at_call 37; rw [HPL.out]; refine (callsIn_wide.2 (revetmentref41_Same.calls 4000000 A0 c0 pre A5 c5 pre true _ HG5.out HLE0.out (by have h9 := Kd.C_take (m := pre.length) HC5.out HPR.out.length_le; rw [← List.prefix_iff_eq_take.1 HPR.out] at h9; exact h9) (by have h1 := HLE5.out; have h2 := HPR.out.length_le; omega) (sameR_ok pre (by have h1 := HLW.out; have h2 := HPR.out.length_le; omega) 4000000 (by have h1 := HLW.out; have h2 := HPR.out.length_le; omega)))).mono ?_; rintro e w6 ⟨rfl, hd6⟩; have HK6 := Lib.hid (blk_below HK5.out hd6.below); have HB6 := Lib.hid (HB5.out.trans (hd6.below.mono HB5.out.size)); clear hd6 hv5 kq5) | (refine ⟨trivial, ?_⟩; gi_at_call 34; refine (callsIn_wide.2 (revetmentlaw41_live.calls true _ live41_eq)).mono ?_; rintro e w7 ⟨rfl, hb7⟩; have HK7 := Lib.hid (blk_below HK6.out hb7); have HB7 := Lib.hid (HB6.out.trans (hb7.mono HB6.out.size)); clear hb7))
        have hB := HB7.out.trans (belowK_b (w := w) (Nat.le_refl _) w7 D _ (.deferred none) (by have := B3.out.size; omega) HK7.out rfl rfl)
        refine ⟨by simp, .inl ⟨_, _, rfl, run_takeDeferred HK7.out, ?_⟩⟩
        exact ⟨_, results_tmp rfl _ _ _, rfl, hB⟩
      · have hcw : decide (kk + 1 < (wl.length : Int)) = false := decide_eq_false hgt
        have hp : pre = wl := List.IsPrefix.eq_of_length hpre (by have := hpre.length_le; omega)
        subst hp
        gi_wp2_with (first | (refine ⟨trivial, ?_⟩; gi_at_call 36; refine (callsIn_wide.2 (rruns_any id m u b c z s me o a l at1 n1 _)).mono ?_; rintro e w5 ⟨v5, rfl, hR5, hb5⟩; rw [← HWL.out] at hR5; obtain ⟨A5, c5, rfl, hle5, hC5⟩ := Kd.R_reads hR5; have HC5 := Lib.hid hC5; have HG5 := Lib.hid (Kd.C_below HG0.out hb5); have HK5 := Lib.hid (blk_below HK.out hb5); have HB5 := Lib.hid (HBW0.out.trans (hb5.mono HBW0.out.size)); have hv5 := Boxed.cell (blk_below HV.out hb5); have kq5 := Boxed.cell (blk_below HKW.out hb5); have HLE5 := Lib.hid hle5; clear hle5 hC5 hb5 hR5 hvc kq q0 q1 q2 q3 q4 q5 q6 q7 q8 q9 q10) | (refine ⟨trivial, ?_⟩; gi_at_call 37; refine (callsIn_wide.2 (revetmentref41_Same.calls 4000000 A0 c0 pre A5 c5 pre true _ HG5.out HLE0.out (HC5.out) HLE5.out (sameR_ok pre (by have := HLW.out; omega) 4000000 (by have := HLW.out; omega)))).mono ?_; rintro e w6 ⟨rfl, hd6⟩; have HK6 := Lib.hid (blk_below HK5.out hd6.below); have HB6 := Lib.hid (HB5.out.trans (hd6.below.mono HB5.out.size)); clear hd6 hv5 kq5) | (refine ⟨trivial, ?_⟩; gi_at_call 34; refine (callsIn_wide.2 (revetmentlaw41_live.calls true _ live41_eq)).mono ?_; rintro e w7 ⟨rfl, hb7⟩; have HK7 := Lib.hid (blk_below HK6.out hb7); have HB7 := Lib.hid (HB6.out.trans (hb7.mono HB6.out.size)); clear hb7))
        have hB := HB7.out.trans (belowK_b (w := w) (Nat.le_refl _) w7 D _ (.deferred none) (by have := B3.out.size; omega) HK7.out rfl rfl)
        refine ⟨by simp, .inl ⟨_, _, rfl, run_takeDeferred HK7.out, ?_⟩⟩
        exact ⟨_, results_tmp rfl _ _ _, rfl, hB⟩

namespace PA
/-- The law as a function: true, for a bound that a byte may be. -/
def revetmentlaw41_ExtentStops.f (id m u b c z s me o a l at1 n1 kk : Int) : Option Bool := if 0 ≤ kk ∧ kk ≤ 255 then some true else none
theorem revetmentlaw41_ExtentStops.calls (id m u b c z s me o a l at1 n1 kk : Int) (w : World) (h : revetmentlaw41_ExtentStops.f id m u b c z s me o a l at1 n1 kk = some true) :
    Calls Try.prog 6 #[.agg #[.int .i64 id, .int .i64 m, .int .i64 u, .int .i64 b, .int .i64 c, .int .i64 z, .int .i64 s, .int .i64 me, .int .i64 o, .int .i64 a, .int .i64 l], .int .i64 at1, .int .i64 n1, .int .u8 kk] w fun e w' => e = .returned (.bool true) ∧ Below w.heap.size w w' := by
  unfold revetmentlaw41_ExtentStops.f at h
  split at h
  · rename_i hk
    by_cases hc : checkC id m u b c z s me o a l = 0
    · obtain ⟨r, hr⟩ := small_some id m u b c z s me o a l
      cases r with
      | false => exact es_big id m u b c z s me o a l at1 n1 kk w hc hr
      | true => exact es_rest id m u b c z s me o a l at1 n1 kk hk.1 hk.2 w (fun _ => hr)
    · exact es_rest id m u b c z s me o a l at1 n1 kk hk.1 hk.2 w (fun q => absurd q hc)
  · cases h
end PA
theorem Geo.extentStops_true (id m u b c z s me o a l at1 n1 kk : Int) (m0 : 0 ≤ kk) (m1 : kk ≤ 255) : revetmentlaw41_ExtentStops.f id m u b c z s me o a l at1 n1 kk = some true := by
  unfold revetmentlaw41_ExtentStops.f; rw [if_pos ⟨m0, m1⟩]
end Go.Proofs.Ytekihhbihnmakaa
