/- A range over an iterator that WRITES VARIABLES OF ITS OWN (cells) between two rounds: the caller's invariant abides these writes too (Ki).
   After the kit's law wpIn_rangeFunc_ownH, over the same words: for an assignment of the loop's variable and a body in one premise. -/
import Derived.RangeFuncNested
namespace Go.Proofs.Ytbjpjddhkpnofaa
open Go Go.RowKit
def SeqR {α : Type} (F : Fence) (n : Nat) (P : Program) (g : Nat) (lb : Array Value) (encs : α → Array Value) (Kp Ki : World → World → Prop) (S Sp : List α → Prop) (N : Nat) (w : World) : Prop :=
  ∀ (l : Nat) (J Jx : List α → World → Prop) (W : World), Below w.heap.size w W → AbidesFrom W.heap.size J → (∀ s A B, J s A → Ki A B → J s B) →
    (∀ pre x W1, J pre W1 → pre.length < N → YieldAt F (n - 1) P l (encs x) W1 fun e W' =>
      (e = .returned (.bool true) ∧ J (pre ++ [x]) W' ∧ Kp W1 W') ∨ (e = .returned (.bool false) ∧ Jx (pre ++ [x]) W')) →
    J [] W →
    CallsIn F n P g (#[.func (.yield l) #[] #[]] ++ lb) W fun e W' => (∃ v, e = .returned v) ∧ ((∃ xs, S xs ∧ J xs W') ∨ (∃ pre, Sp pre ∧ Jx pre W'))

theorem range_R {F : Fence} {n : Nat} {P : Program} {α : Type} {g : Operand} {ps : Array Tmp} {assign body : Code} {Q : Exit → Act → World → Prop} {a : Act} {w : World}
    (hro : F.round = none) (h1 : 1 ≤ n) {gf : Nat} {lb : Array Value} (hg : a.eval g = .func (.func gf) #[] lb) (hFg : F.fn gf) (eg : ∀ args w, (callFunc gf args).run P w = .ok (.enter gf args) w)
    {encs : α → Array Value} {Kp Ki : World → World → Prop} {S Sp : List α → Prop} {N : Nat} (hseq : SeqR F (n - 1) P gf lb encs Kp Ki S Sp N w)
    (hKt : ∀ {A B C : World}, Kp A B → Kp B C → Kp A C) (hKb : ∀ (W : World) (l : Nat) (o o' : Obj), w.heap.size ≤ l → W.heap[l]? = some o → o.isCells = false → Kp W (W.putObj l o'))
    (hKi : ∀ {A B : World}, Ki A B → KeepsOthers A B) (hps : ∀ x, (encs x).size = ps.size)
    (I : List α → World → Prop) (Ix : Code → List α → World → Prop) (hI : OwnFrom w.heap.size I) (hIi : ∀ s A B, I s A → Ki A B → I s B) (hIx : ∀ c, OwnFrom w.heap.size (Ix c)) (h0 : I [] w)
    (hround : ∀ (l : Nat) (pre : List α) (x : α) (W : World), w.heap.size ≤ l → I pre W → pre.length < N →
      assign.wpIn (F.inRound l) (n - 1 - 1) P (Exit.then (fun a' Wa => KeepsFrom w.heap.size W Wa ∧ Kp W Wa ∧ ∀ r o, Wa.heap[l]? = some o → o.isCells = false → body.wpIn (F.inRound l) (n - 1 - 1) P (ownPostG w.heap.size Kp I Ix (pre ++ [x]) (Wa.putObj l (.loop r))) a' (Wa.putObj l (.loop r))) (fun _ _ _ => False)) { tmps := (ps.zip (encs x)).foldl (fun t (p, v) => t.setIfInBounds p v) a.tmps, defers := [] } W)
    (hdone : ∀ (D : Nat) (xs : List α) (W : World), w.heap.size ≤ D → S xs → I xs W → W.heap[D]? = some (.deferred (some [])) → Q .normal { a with defers := { target := .collected D, args := #[] } :: a.defers } W)
    (hstop : ∀ (D : Nat) (c : Code) (pre : List α) (W : World), w.heap.size ≤ D → Sp pre → Ix c pre W → W.heap[D]? = some (.deferred (some [])) → c.wpIn F n P Q { a with defers := { target := .collected D, args := #[] } :: a.defers } W) :
    (Code.rangeFunc g ps assign body).wpIn F n P Q a w := by
  refine wpIn_rangeFunc fun fn hfn => ?_
  rw [hro]
  -- the two blocks of book-keeping: D the deferred calls', L the loop's record
  obtain ⟨D, hD⟩ : ∃ D, D = w.heap.size := ⟨_, rfl⟩
  obtain ⟨rec, hrec⟩ : ∃ rec : LoopState → Option Code → Loop, rec = fun st pe => { state := st, pending := pe, fn, tmps := a.tmps, params := ps, assign, body, defers := D } := ⟨_, rfl⟩
  have hbusy : { rec .ready none with state := .busy } = rec .busy none := by rw [hrec]
  obtain ⟨W1, hW1⟩ : ∃ W1, W1 = (w.alloc (.deferred (some []))).alloc (.loop (rec .ready none)) := ⟨_, rfl⟩
  have bD : W1.heap[D]? = some (.deferred (some [])) := by
    rw [hW1, hD]; exact (Below.heap_alloc _ _ _ (by simp)).trans (World.alloc_heap_new w _)
  have bL : W1.heap[D + 1]? = some (.loop (rec .ready none)) := by
    rw [hW1, hD]; have := World.alloc_heap_new (w.alloc (.deferred (some []))) (.loop (rec .ready none)); rwa [World.size_alloc] at this
  have bW : Below w.heap.size w W1 := by rw [hW1]; exact ((Below.refl _ w).alloc (Nat.le_refl _) _).alloc (by simp) _
  have bI : I [] W1 := by rw [hW1]; exact hI.alloc _ (hI.alloc _ h0)
  have bS : W1.heap.size = D + 2 := by rw [hW1, hD]; simp
  have book : ∀ {o : Obj} {k : Nat} {A B : World} {row : Option Nat}, A.grownBy B row → (∀ r, row = some r → W1.heap.size ≤ r ∧ ∃ o : Obj, A.heap[r]? = some o ∧ o.isWalk = true) → k < W1.heap.size → A.heap[k]? = some o → B.heap[k]? = some o := by
    intro o k A B row hgr hr hk hA
    exact (hgr.block k (Array.getElem?_eq_some_iff.1 hA).1 (fun e => by have := (hr k e.symm).1; omega)).trans hA
  refine ⟨D + 1, [{ target := .collected D, args := #[] }], W1, { target := .fn (.func gf) lb, args := #[.func (.yield (D + 1)) #[] #[]] }, W1, gf, #[.func (.yield (D + 1)) #[] #[]] ++ lb, W1, ?_, ?_, ?_, ?_, fun _ => h1, ?_⟩
  · rw [hW1, hrec, hD]; exact run_enterLoop_outer _ _ _ _ _
  · simp only [resolve, hg]; simp [go_sem]
  · intro f' hf'; simp [Target.leads] at hf'; subst hf'; exact hFg
  · simp [invoke, go_sem, eg]
  refine (hseq (D + 1) (fun pre W => I pre W ∧ W.heap[D + 1]? = some (.loop (rec .ready none)) ∧ W.heap[D]? = some (.deferred (some [])))
    (fun pre W => ∃ c, Ix c pre W ∧ W.heap[D + 1]? = some (.loop (rec .done (some c))) ∧ W.heap[D]? = some (.deferred (some []))) W1 bW ?ab ?ki ?rd ⟨bI, bL, bD⟩).mono ?fin
  case ab =>
    rintro s A B row ⟨hs, hl, hk⟩ hgr hr
    refine ⟨hI s A B row hs hgr (fun r e => ?_), book hgr hr (by omega) hl, book hgr hr (by omega) hk⟩
    obtain ⟨h2, o, ho, hw⟩ := hr r e
    exact ⟨by omega, o, ho, Obj.not_cells_of_walk hw⟩
  case ki =>
    rintro s A B ⟨hs, hl, hk⟩ hi
    exact ⟨hIi s A B hs hi, (hKi hi).same _ _ hl rfl, (hKi hi).same _ _ hk rfl⟩
  case fin =>
    rintro e W2 ⟨⟨v, rfl⟩, (⟨xs, hS, hi, hl, hk⟩ | ⟨pre, hSp, c, hi, hl, hk⟩)⟩
    · exact ⟨none, _, by have := run_endLoop (P := P) hl (by rw [hrec]; simp); rw [hrec] at this; exact this, hdone D xs _ (by omega) hS (hI.putObj _ hi (by omega) hl rfl) ((World.putObj_heap_other (by omega)).trans hk)⟩
    · exact ⟨some c, _, by have := run_endLoop (P := P) hl (by rw [hrec]; simp); rw [hrec] at this; exact this, hstop D c pre _ (by omega) hSp ((hIx c).putObj _ hi (by omega) hl rfl) ((World.putObj_heap_other (by omega)).trans hk)⟩
  case rd =>
    rintro pre x W ⟨hi, hl, hk⟩ hlen
    have hy := run_yield (P := P) (args := encs x) hl (by rw [hrec]; exact hps x)
    rw [hrec] at hy
    refine ⟨fn, _, assign, body, hy, roundIn_of_wpIn hfn (wpIn_mono (hround (D + 1) pre x W (by omega) hi hlen) ?_)⟩
    clear hy
    intro e0 a' Wa hp
    cases e0 with
    | normal =>
      obtain ⟨hkf, hkp, hb⟩ := hp
      have la := hkf.same _ _ (by omega) hl rfl
      have ka := hkf.same _ _ (by omega) hk rfl
      have lt := (Array.getElem?_eq_some_iff.1 la).1
      refine ⟨_, run_beginRound la (by rw [hrec]), ?_⟩
      rw [hbusy]
      have l2 : (Wa.putObj (D + 1) (.loop (rec .busy none))).heap[D + 1]? = some (.loop (rec .busy none)) := World.putObj_heap_same lt
      have k2 : (Wa.putObj (D + 1) (.loop (rec .busy none))).heap[D]? = some (.deferred (some [])) := (World.putObj_heap_other (by omega)).trans ka
      refine wpIn_mono (hb (rec .busy none) _ la rfl) ?_
      have fin : ∀ (jump : Option Code) (W3 : World), KeepsFrom w.heap.size (Wa.putObj (D + 1) (.loop (rec .busy none))) W3 →
          (Instr.endRound (D + 1) jump).run P W3 = .ok (.bool jump.isNone) (W3.putObj (D + 1) (.loop (rec (if jump.isNone then .ready else .done) jump))) ∧
          W3.heap[D + 1]? = some (.loop (rec .busy none)) ∧
          (W3.putObj (D + 1) (.loop (rec (if jump.isNone then .ready else .done) jump))).heap[D + 1]? = some (.loop (rec (if jump.isNone then .ready else .done) jump)) ∧
          (W3.putObj (D + 1) (.loop (rec (if jump.isNone then .ready else .done) jump))).heap[D]? = some (.deferred (some [])) := fun jump W3 h3 => by
        have l3 := h3.same _ _ (by omega) l2 rfl
        have := run_endRound (P := P) jump l3
        rw [hrec] at this ⊢
        exact ⟨this, by rw [hrec] at l3; exact l3, World.putObj_heap_same (Array.getElem?_eq_some_iff.1 l3).1, (World.putObj_heap_other (by omega)).trans (h3.same _ _ (by omega) k2 rfl)⟩
      have kb := hKb Wa (D + 1) _ (.loop (rec .busy none)) (by omega) la rfl
      rintro e a3 W3 hp
      have out : ∀ c : Code, KeepsFrom w.heap.size (Wa.putObj (D + 1) (.loop (rec .busy none))) W3 → Ix c (pre ++ [x]) W3 →
          Ix c (pre ++ [x]) (W3.putObj (D + 1) (.loop (rec .done (some c)))) := fun c h3 hx => (hIx c).putObj _ hx (by omega) (h3.same _ _ (by omega) l2 rfl) rfl
      cases e with
      | normal =>
        obtain ⟨h3, p3, i3⟩ := hp
        obtain ⟨hr, l3, l4, k4⟩ := fin none W3 h3
        exact ⟨_, _, hr, .inl ⟨rfl, ⟨hI.putObj _ i3 (by omega) l3 rfl, l4, k4⟩, hKt hkp (hKt (hKt kb p3) (hKb _ _ _ _ (by omega) l3 rfl))⟩⟩
      | ret => obtain ⟨h3, i3⟩ := hp; obtain ⟨hr, l3, l4, k4⟩ := fin (some .ret) W3 h3; exact ⟨_, _, hr, .inr ⟨rfl, .ret, out _ h3 i3, l4, k4⟩⟩
      | exit id => obtain ⟨h3, i3⟩ := hp; obtain ⟨hr, l3, l4, k4⟩ := fin (some (.exit id)) W3 h3; exact ⟨_, _, hr, .inr ⟨rfl, .exit id, out _ h3 i3, l4, k4⟩⟩
      | goto t => obtain ⟨h3, i3⟩ := hp; obtain ⟨hr, l3, l4, k4⟩ := fin (some (.goto t)) W3 h3; exact ⟨_, _, hr, .inr ⟨rfl, .goto t, out _ h3 i3, l4, k4⟩⟩
      | panic ch => exact hp.elim
      | outgrown => exact hp.elim
    | ret => exact hp.elim
    | exit id => exact hp.elim
    | goto t => exact hp.elim
    | panic ch => exact hp.elim
    | outgrown => exact hp.elim
end Go.Proofs.Ytbjpjddhkpnofaa
