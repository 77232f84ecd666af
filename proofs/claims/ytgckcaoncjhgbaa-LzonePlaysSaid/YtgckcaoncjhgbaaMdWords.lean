/- Words for the walks of package model: values, stores of several cells. -/
import Derived.WalkKit
import Derived.WalkSpells
import Derived.WalkLawsBesides
import Derived.Lib.Hide
import Derived.Test.YtgckcaoncjhgbaaLzWords
namespace Go.Proofs.Ytgckcaoncjhgbaa
open Go.RowKit Go.Proofs.Ytgckcaoncjhgbaa.PL Go.Proofs.YtgckcaoncjhgbaaW.PrintWords Go.Proofs.YtgckcaoncjhgbaaW.PrintLast
set_option linter.unusedVariables false
set_option linter.unusedSimpArgs false
/-- The value of a model, of a command, of a reply. -/
abbrev modV (id m u b c z s me o a l : Int) (x y v : Value) : Value := .agg #[.int .i64 id, .int .i64 m, .int .i64 u, .int .i64 b, .int .i64 c, .int .i64 z, .int .i64 s, .int .i64 me, .int .i64 o, .int .i64 a, .int .i64 l, x, y, v]
abbrev cmdV (k i at_ n : Int) (d : Value) (f : Bool) : Value := .agg #[.int .i64 k, .int .i64 i, .int .i64 at_, .int .i64 n, d, .bool f]
abbrev repV (e : Int) (d : Value) (st wp gen : Int) : Value := .agg #[.int .i64 e, d, .int .i64 st, .int .i64 wp, .int .i64 gen]
/-- ys in the place of the values from i on. -/
def over : List Value → Nat → List Value → List Value
  | cs, 0, ys => ys ++ cs.drop ys.length
  | [], _ + 1, _ => []
  | c :: cs, i + 1, ys => c :: over cs i ys
theorem over_set : ∀ (cs : List Value) (i : Nat) (y : Value) (l : List Value), i < cs.length → over (cs.set i y) (i + 1) l = over cs i (y :: l)
  | c :: cs, 0, y, l, h => by simp [over]
  | c :: cs, i + 1, y, l, h => by simp only [List.set_cons_succ, over]; rw [over_set cs i y l (by simpa using h)]
section
variable {w w' : World} {g : Nat} {t : TypeId}
theorem put_cells : ∀ (ys : List Value) (i : Nat) {w : World} {cs : Array Value}, i + ys.length ≤ cs.size → w.heap[g]? = some (.cells cs t (0, 0)) → (w.setCells g i ys).heap[g]? = some (.cells (over cs.toList i ys).toArray t (0, 0))
  | [], i, w, cs, hl, h => by
    have : ∀ (cs : List Value) (i : Nat), i ≤ cs.length → over cs i [] = cs := by
      intro cs
      induction cs with
      | nil => intro i hi; cases i with | zero => rfl | succ i => simp at hi
      | cons c cs ih => intro i hi; cases i with | zero => rfl | succ i => simp only [over]; rw [ih i (by simpa using hi)]
    rw [this cs.toList i (by simpa using hl)]; exact h
  | y :: l, i, w, cs, hl, h => by
    have hi : i < cs.size := by simp at hl; omega
    have := put_cells l (i + 1) (cs := cs.setIfInBounds i y) (by simp at hl ⊢; omega) (blk_set h i y)
    rw [World.setCells]
    rw [Array.toList_setIfInBounds, over_set _ _ _ _ (by simpa using hi)] at this
    exact this
theorem st_put {i : Nat} {ys : List Value} {cs cs' : Array Value} (hw : w' = w.setCells g i ys) (h : w.heap[g]? = some (.cells cs t (0, 0))) (hl : Nat.ble (i + ys.length) cs.size = true) (e : (over cs.toList i ys).toArray = cs') : w'.heap[g]? = some (.cells cs' t (0, 0)) := by
  subst hw; subst e; exact put_cells ys i (Nat.le_of_ble_eq_true hl) h
theorem st_far {i g' : Nat} {ys : List Value} {o : Obj} (hw : w' = w.setCells g i ys) (h : w.heap[g']? = some o) (n : g' ≠ g) : w'.heap[g']? = some o := by
  subst hw; exact (setCells_far ys i g' n).trans h
theorem R_cells {α : Type} {d : Kd α} {e base : Nat} {ok : Nat → Prop} {v : Value} {xs : List α} : ∀ (ys : List Value) (i : Nat) {w : World} {cs : Array Value}, d.R e w base ok v xs → w.heap[g]? = some (.cells cs t (0, 0)) → (∀ q, q ∈ e :: d.E → q ≠ t) → d.R e (w.setCells g i ys) base ok v xs
  | [], i, w, cs, h, hb, ht => h
  | y :: l, i, w, cs, h, hb, ht => R_cells l (i + 1) (Kd.R_set h hb ht i y) (blk_set hb i y) ht
theorem st_R {α : Type} {d : Kd α} {e base i : Nat} {ok : Nat → Prop} {v : Value} {xs : List α} {ys : List Value} {cs : Array Value} (hw : w' = w.setCells g i ys) (h : d.R e w base ok v xs) (hb : w.heap[g]? = some (.cells cs t (0, 0))) (ht : ∀ q, q ∈ e :: d.E → q ≠ t) : d.R e w' base ok v xs := by
  subst hw; exact R_cells ys i h hb ht
theorem B_cells {w0 : World} : ∀ (ys : List Value) (i : Nat) {w : World}, Below w0.heap.size w0 w → w0.heap.size ≤ g → Below w0.heap.size w0 (w.setCells g i ys)
  | [], i, w, h, hg => h
  | y :: l, i, w, h, hg => B_cells l (i + 1) (below_set h hg) hg
theorem st_B {w0 : World} {i : Nat} {ys : List Value} (hw : w' = w.setCells g i ys) (h : Below w0.heap.size w0 w) (hg : w0.heap.size ≤ g) : Below w0.heap.size w0 w' := by
  subst hw; exact B_cells ys i h hg
theorem mz2 {x0 x1 : Value} (h : w.heap[g]? = some (.cells #[x0, x1] t (0, 0))) : w.cell? ⟨g, 0, none⟩ = some x0 ∧ w.cell? ⟨g, 1, none⟩ = some x1 :=
  ⟨(blk_cell h 0).trans rfl, (blk_cell h 1).trans rfl⟩
theorem mf2 {x0 x1 : Value} (h : w.heap[g]? = some (.cells #[x0, x1] t (0, 0))) : w.frozen? ⟨g, 0, none⟩ = false ∧ w.frozen? ⟨g, 1, none⟩ = false :=
  ⟨blk_frozen h 0, blk_frozen h 1⟩
theorem mz5 {x0 x1 x2 x3 x4 : Value} (h : w.heap[g]? = some (.cells #[x0, x1, x2, x3, x4] t (0, 0))) : w.cell? ⟨g, 0, none⟩ = some x0 ∧ w.cell? ⟨g, 1, none⟩ = some x1 ∧ w.cell? ⟨g, 2, none⟩ = some x2 ∧ w.cell? ⟨g, 3, none⟩ = some x3 ∧ w.cell? ⟨g, 4, none⟩ = some x4 :=
  ⟨(blk_cell h 0).trans rfl, (blk_cell h 1).trans rfl, (blk_cell h 2).trans rfl, (blk_cell h 3).trans rfl, (blk_cell h 4).trans rfl⟩
theorem mf5 {x0 x1 x2 x3 x4 : Value} (h : w.heap[g]? = some (.cells #[x0, x1, x2, x3, x4] t (0, 0))) : w.frozen? ⟨g, 0, none⟩ = false ∧ w.frozen? ⟨g, 1, none⟩ = false ∧ w.frozen? ⟨g, 2, none⟩ = false ∧ w.frozen? ⟨g, 3, none⟩ = false ∧ w.frozen? ⟨g, 4, none⟩ = false :=
  ⟨blk_frozen h 0, blk_frozen h 1, blk_frozen h 2, blk_frozen h 3, blk_frozen h 4⟩
theorem mz6 {x0 x1 x2 x3 x4 x5 : Value} (h : w.heap[g]? = some (.cells #[x0, x1, x2, x3, x4, x5] t (0, 0))) : w.cell? ⟨g, 0, none⟩ = some x0 ∧ w.cell? ⟨g, 1, none⟩ = some x1 ∧ w.cell? ⟨g, 2, none⟩ = some x2 ∧ w.cell? ⟨g, 3, none⟩ = some x3 ∧ w.cell? ⟨g, 4, none⟩ = some x4 ∧ w.cell? ⟨g, 5, none⟩ = some x5 :=
  ⟨(blk_cell h 0).trans rfl, (blk_cell h 1).trans rfl, (blk_cell h 2).trans rfl, (blk_cell h 3).trans rfl, (blk_cell h 4).trans rfl, (blk_cell h 5).trans rfl⟩
theorem mf6 {x0 x1 x2 x3 x4 x5 : Value} (h : w.heap[g]? = some (.cells #[x0, x1, x2, x3, x4, x5] t (0, 0))) : w.frozen? ⟨g, 0, none⟩ = false ∧ w.frozen? ⟨g, 1, none⟩ = false ∧ w.frozen? ⟨g, 2, none⟩ = false ∧ w.frozen? ⟨g, 3, none⟩ = false ∧ w.frozen? ⟨g, 4, none⟩ = false ∧ w.frozen? ⟨g, 5, none⟩ = false :=
  ⟨blk_frozen h 0, blk_frozen h 1, blk_frozen h 2, blk_frozen h 3, blk_frozen h 4, blk_frozen h 5⟩
theorem mz14 {x0 x1 x2 x3 x4 x5 x6 x7 x8 x9 x10 x11 x12 x13 : Value} (h : w.heap[g]? = some (.cells #[x0, x1, x2, x3, x4, x5, x6, x7, x8, x9, x10, x11, x12, x13] t (0, 0))) : w.cell? ⟨g, 0, none⟩ = some x0 ∧ w.cell? ⟨g, 1, none⟩ = some x1 ∧ w.cell? ⟨g, 2, none⟩ = some x2 ∧ w.cell? ⟨g, 3, none⟩ = some x3 ∧ w.cell? ⟨g, 4, none⟩ = some x4 ∧ w.cell? ⟨g, 5, none⟩ = some x5 ∧ w.cell? ⟨g, 6, none⟩ = some x6 ∧ w.cell? ⟨g, 7, none⟩ = some x7 ∧ w.cell? ⟨g, 8, none⟩ = some x8 ∧ w.cell? ⟨g, 9, none⟩ = some x9 ∧ w.cell? ⟨g, 10, none⟩ = some x10 ∧ w.cell? ⟨g, 11, none⟩ = some x11 ∧ w.cell? ⟨g, 12, none⟩ = some x12 ∧ w.cell? ⟨g, 13, none⟩ = some x13 :=
  ⟨(blk_cell h 0).trans rfl, (blk_cell h 1).trans rfl, (blk_cell h 2).trans rfl, (blk_cell h 3).trans rfl, (blk_cell h 4).trans rfl, (blk_cell h 5).trans rfl, (blk_cell h 6).trans rfl, (blk_cell h 7).trans rfl, (blk_cell h 8).trans rfl, (blk_cell h 9).trans rfl, (blk_cell h 10).trans rfl, (blk_cell h 11).trans rfl, (blk_cell h 12).trans rfl, (blk_cell h 13).trans rfl⟩
theorem mf14 {x0 x1 x2 x3 x4 x5 x6 x7 x8 x9 x10 x11 x12 x13 : Value} (h : w.heap[g]? = some (.cells #[x0, x1, x2, x3, x4, x5, x6, x7, x8, x9, x10, x11, x12, x13] t (0, 0))) : w.frozen? ⟨g, 0, none⟩ = false ∧ w.frozen? ⟨g, 1, none⟩ = false ∧ w.frozen? ⟨g, 2, none⟩ = false ∧ w.frozen? ⟨g, 3, none⟩ = false ∧ w.frozen? ⟨g, 4, none⟩ = false ∧ w.frozen? ⟨g, 5, none⟩ = false ∧ w.frozen? ⟨g, 6, none⟩ = false ∧ w.frozen? ⟨g, 7, none⟩ = false ∧ w.frozen? ⟨g, 8, none⟩ = false ∧ w.frozen? ⟨g, 9, none⟩ = false ∧ w.frozen? ⟨g, 10, none⟩ = false ∧ w.frozen? ⟨g, 11, none⟩ = false ∧ w.frozen? ⟨g, 12, none⟩ = false ∧ w.frozen? ⟨g, 13, none⟩ = false :=
  ⟨blk_frozen h 0, blk_frozen h 1, blk_frozen h 2, blk_frozen h 3, blk_frozen h 4, blk_frozen h 5, blk_frozen h 6, blk_frozen h 7, blk_frozen h 8, blk_frozen h 9, blk_frozen h 10, blk_frozen h 11, blk_frozen h 12, blk_frozen h 13⟩
end
/-- A model as an answer: these zones, these texts, so many blocks safe, each in a row at or above base. -/
def ModR (id m u b c z s me o a l : Int) (L : List S59) (T : List ByteArray) (S : List Int) (base : Nat) (W : World) (v : Value) : Prop :=
  ∃ x y q : Value, v = modV id m u b c z s me o a l x y q ∧ Kd.R k59 59 W base (fun _ => True) x L ∧ Kd.R Kd.string 9 W base (fun _ => True) y T ∧ Kd.R (Kd.int .i64) 3 W base (fun _ => True) q S
theorem info9 : (Try.prog.info? 9).map (fun i => (i.zero, i.size, i.bytes)) = some (some (.string ⟨#[]⟩), 1, 16) := by kernel_rfl
end Go.Proofs.Ytgckcaoncjhgbaa
