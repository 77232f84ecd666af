/- Words for the walks of package model: values, stores of several cells. -/
/- Words for walks printed by gen/gw.py: stores, rows that came or were made, elements of rows. No condition. -/
/- What a walk knows, in one piece: the call's own blocks, told apart, and facts on rows that stay. No condition. -/
/- Short arms of walks: what is known goes on with the operation. No condition. -/
/- Facts handed on. -/
import Derived.Test.YtgckcaoncjhgbaaLzWords
open Go.Lib (hid)
namespace Go.Proofs.Ytgckcaoncjhgbaa
open Go.RowKit Go.Proofs.Ytgckcaoncjhgbaa.PL Go.Proofs.YtgckcaoncjhgbaaW.PrintWords Go.Proofs.YtgckcaoncjhgbaaW.PrintLast
set_option linter.unusedVariables false
set_option linter.unusedSimpArgs false
abbrev modV (id m u b c z s me o a l : Int) (x y v : Value) : Value := .agg #[.int .i64 id, .int .i64 m, .int .i64 u, .int .i64 b, .int .i64 c, .int .i64 z, .int .i64 s, .int .i64 me, .int .i64 o, .int .i64 a, .int .i64 l, x, y, v]
abbrev cmdV (k i at_ n : Int) (d : Value) (f : Bool) : Value := .agg #[.int .i64 k, .int .i64 i, .int .i64 at_, .int .i64 n, d, .bool f]
abbrev repV (e : Int) (d : Value) (st wp gen : Int) : Value := .agg #[.int .i64 e, d, .int .i64 st, .int .i64 wp, .int .i64 gen]
def over : List Value -> Nat -> List Value -> List Value
 | cs, 0, ys => ys ++ cs.drop ys.length
 | [], _ + 1, _ => []
 | c :: cs, i + 1, ys => c :: over cs i ys
theorem over_set : ∀ (cs : List Value) (i : Nat) (y : Value) (l : List Value), i < cs.length -> over (cs.set i y) (i + 1) l = over cs i (y :: l)
 | c :: cs, 0, y, l, h => by simp [over]
 | c :: cs, i + 1, y, l, h => by simp only [List.set_cons_succ, over]; rw [over_set cs i y l (by simpa using h)]
section
variable {w w' : World} {g : Nat} {t : TypeId}
theorem put_cells : ∀ (ys : List Value) (i : Nat) {w : World} {cs : Array Value}, i + ys.length <= cs.size -> w.heap[g]? = some (.cells cs t (0, 0)) -> (w.setCells g i ys).heap[g]? = some (.cells (over cs.toList i ys).toArray t (0, 0))
 | [], i, w, cs, hl, h => by
  have : ∀ (cs : List Value) (i : Nat), i <= cs.length -> over cs i [] = cs := by
   intro cs
   induction cs with
   | nil => intro i hi; cases i with | zero => rfl | succ i => simp at hi
   | cons c cs ih => intro i hi; cases i with | zero => rfl | succ i => simp only [over]; rw [ih i (by simpa using hi)]
  rw [this cs.toList i (by simpa using hl)]; exact h
 | y :: l, i, w, cs, hl, h => by
  have hi : i < cs.size := by simp at hl; omega
  have := put_cells l (i + 1) (cs := cs.setIfInBounds i y) (by simp at hl ⊢; omega) (jz_ h i y)
  rw [World.setCells]
  rw [Array.toList_setIfInBounds, over_set _ _ _ _ (by simpa using hi)] at this
  exact this
theorem st_put {i : Nat} {ys : List Value} {cs cs' : Array Value} (hw : w' = w.setCells g i ys) (h : w.heap[g]? = some (.cells cs t (0, 0))) (hl : Nat.ble (i + ys.length) cs.size = true) (e : (over cs.toList i ys).toArray = cs') : w'.heap[g]? = some (.cells cs' t (0, 0)) := by
 subst hw; subst e; exact put_cells ys i (Nat.le_of_ble_eq_true hl) h
theorem st_far {i g' : Nat} {ys : List Value} {o : Obj} (hw : w' = w.setCells g i ys) (h : w.heap[g']? = some o) (n : g' ≠ g) : w'.heap[g']? = some o := by
 subst hw; exact (vS_ ys i g' n).trans h
theorem R_cells {α : Type} {d : Kd α} {e base : Nat} {ok : Nat -> Prop} {v : Value} {xs : List α} : ∀ (ys : List Value) (i : Nat) {w : World} {cs : Array Value}, d.R e w base ok v xs -> w.heap[g]? = some (.cells cs t (0, 0)) -> (∀ q, q ∈ e :: d.E -> q ≠ t) -> d.R e (w.setCells g i ys) base ok v xs
 | [], i, w, cs, h, hb, ht => h
 | y :: l, i, w, cs, h, hb, ht => R_cells l (i + 1) (Kd.R_set h hb ht i y) (jz_ hb i y) ht
theorem st_R {α : Type} {d : Kd α} {e base i : Nat} {ok : Nat -> Prop} {v : Value} {xs : List α} {ys : List Value} {cs : Array Value} (hw : w' = w.setCells g i ys) (h : d.R e w base ok v xs) (hb : w.heap[g]? = some (.cells cs t (0, 0))) (ht : ∀ q, q ∈ e :: d.E -> q ≠ t) : d.R e w' base ok v xs := by
 subst hw; exact R_cells ys i h hb ht
theorem B_cells {w0 : World} : ∀ (ys : List Value) (i : Nat) {w : World}, Below w0.heap.size w0 w -> w0.heap.size <= g -> Below w0.heap.size w0 (w.setCells g i ys)
 | [], i, w, h, hg => h
 | y :: l, i, w, h, hg => B_cells l (i + 1) (jx_ h hg) hg
theorem st_B {w0 : World} {i : Nat} {ys : List Value} (hw : w' = w.setCells g i ys) (h : Below w0.heap.size w0 w) (hg : w0.heap.size <= g) : Below w0.heap.size w0 w' := by
 subst hw; exact B_cells ys i h hg
theorem mz5 {x0 x1 x2 x3 x4 : Value} (h : w.heap[g]? = some (.cells #[x0, x1, x2, x3, x4] t (0, 0))) : w.cell? ⟨g, 0, none⟩ = some x0 /\ w.cell? ⟨g, 1, none⟩ = some x1 /\ w.cell? ⟨g, 2, none⟩ = some x2 /\ w.cell? ⟨g, 3, none⟩ = some x3 /\ w.cell? ⟨g, 4, none⟩ = some x4 :=
 ⟨(je_ h 0).trans rfl, (je_ h 1).trans rfl, (je_ h 2).trans rfl, (je_ h 3).trans rfl, (je_ h 4).trans rfl⟩
theorem mf5 {x0 x1 x2 x3 x4 : Value} (h : w.heap[g]? = some (.cells #[x0, x1, x2, x3, x4] t (0, 0))) : w.frozen? ⟨g, 0, none⟩ = false /\ w.frozen? ⟨g, 1, none⟩ = false /\ w.frozen? ⟨g, 2, none⟩ = false /\ w.frozen? ⟨g, 3, none⟩ = false /\ w.frozen? ⟨g, 4, none⟩ = false :=
 ⟨jh_ h 0, jh_ h 1, jh_ h 2, jh_ h 3, jh_ h 4⟩
theorem mz14 {x0 x1 x2 x3 x4 x5 x6 x7 x8 x9 x10 x11 x12 x13 : Value} (h : w.heap[g]? = some (.cells #[x0, x1, x2, x3, x4, x5, x6, x7, x8, x9, x10, x11, x12, x13] t (0, 0))) : w.cell? ⟨g, 0, none⟩ = some x0 /\ w.cell? ⟨g, 1, none⟩ = some x1 /\ w.cell? ⟨g, 2, none⟩ = some x2 /\ w.cell? ⟨g, 3, none⟩ = some x3 /\ w.cell? ⟨g, 4, none⟩ = some x4 /\ w.cell? ⟨g, 5, none⟩ = some x5 /\ w.cell? ⟨g, 6, none⟩ = some x6 /\ w.cell? ⟨g, 7, none⟩ = some x7 /\ w.cell? ⟨g, 8, none⟩ = some x8 /\ w.cell? ⟨g, 9, none⟩ = some x9 /\ w.cell? ⟨g, 10, none⟩ = some x10 /\ w.cell? ⟨g, 11, none⟩ = some x11 /\ w.cell? ⟨g, 12, none⟩ = some x12 /\ w.cell? ⟨g, 13, none⟩ = some x13 :=
 ⟨(je_ h 0).trans rfl, (je_ h 1).trans rfl, (je_ h 2).trans rfl, (je_ h 3).trans rfl, (je_ h 4).trans rfl, (je_ h 5).trans rfl, (je_ h 6).trans rfl, (je_ h 7).trans rfl, (je_ h 8).trans rfl, (je_ h 9).trans rfl, (je_ h 10).trans rfl, (je_ h 11).trans rfl, (je_ h 12).trans rfl, (je_ h 13).trans rfl⟩
theorem mf14 {x0 x1 x2 x3 x4 x5 x6 x7 x8 x9 x10 x11 x12 x13 : Value} (h : w.heap[g]? = some (.cells #[x0, x1, x2, x3, x4, x5, x6, x7, x8, x9, x10, x11, x12, x13] t (0, 0))) : w.frozen? ⟨g, 0, none⟩ = false /\ w.frozen? ⟨g, 1, none⟩ = false /\ w.frozen? ⟨g, 2, none⟩ = false /\ w.frozen? ⟨g, 3, none⟩ = false /\ w.frozen? ⟨g, 4, none⟩ = false /\ w.frozen? ⟨g, 5, none⟩ = false /\ w.frozen? ⟨g, 6, none⟩ = false /\ w.frozen? ⟨g, 7, none⟩ = false /\ w.frozen? ⟨g, 8, none⟩ = false /\ w.frozen? ⟨g, 9, none⟩ = false /\ w.frozen? ⟨g, 10, none⟩ = false /\ w.frozen? ⟨g, 11, none⟩ = false /\ w.frozen? ⟨g, 12, none⟩ = false /\ w.frozen? ⟨g, 13, none⟩ = false :=
 ⟨jh_ h 0, jh_ h 1, jh_ h 2, jh_ h 3, jh_ h 4, jh_ h 5, jh_ h 6, jh_ h 7, jh_ h 8, jh_ h 9, jh_ h 10, jh_ h 11, jh_ h 12, jh_ h 13⟩
end
theorem info9 : (Try.prog.info? 9).map (fun i => (i.zero, i.size, i.bytes)) = some (some (.string ⟨#[]⟩), 1, 16) := by kernel_rfl
end Go.Proofs.Ytgckcaoncjhgbaa
namespace Go.Proofs.Ytgckcaoncjhgbaa
open Go.RowKit Go.Proofs.Ytgckcaoncjhgbaa.PL Go.Proofs.YtgckcaoncjhgbaaW.PrintWords Go.Proofs.YtgckcaoncjhgbaaW.PrintLast
set_option linter.unusedVariables false
section
variable {P : Program} {ops : Array Oper} {o : Oper} {a : Act} {Q : Exit -> Act -> World -> Prop} {Kc : Act -> World -> Prop} {W w1 : World}
theorem store_step (hw : Region.wanted o (yielded ops a.tmps) = true) {t : TypeId} {p : Tmp} {v : Operand} (_ho : o.op = .store t (.tmp p) v) (hN : o.dst = none)
  (hrun : (execOp a.eval o).run P W = .ok .skip w1) (h : ∀ w', w' = w1 -> Kc a w') : if Region.wanted o (yielded ops a.tmps) = true then Oper.wp P o a W Kc Q else Kc (a.put none undef) W :=
 skip_ hw hN hrun (h _ rfl)
end
section
variable {P : Program} {md : Region.Mode} {ops : Array Oper} {Q : Exit -> Act -> World -> Prop} {S : World -> Prop} {ds : List Nat} {fuel : Nat} {l : Array Bool} {a a' : Act} {w : World} {oi : Oper} {v : Value} {T : Bool × List (List Nat × List Nat)} {B : List Nat}
theorem tw (i N : Nat) (l' : Array Bool) (HT : Aside0 (rtab md ops = T)) (HW : Aside0 (jO_ T.2 B = true)) (hS : S w) (hc : takeW T B ds l.toList l'.toList i = true := by kernel_rfl) (hi : ops[i]? = some oi := by rfl) (hN : oi.dst = some N := by rfl) (hQ : ∀ c a w, Q (.panic c) (a.put oi.dst v) w -> Q (.panic c) a w := by exact fun _ _ _ h => h) (hw : Region.wanted oi (yielded ops a.tmps) = true := by rfl)
  (hr : ∀ w', S w' -> (execOp a.eval oi).run P w' = .ok (.value v) w' := by (intro w' hs; (try dsimp only at hs); go_simp; with_reducible rfl)) (ha : a.put (some N) v = a' := by (simp only [pq]; rfl)) (h : jt_ P md ops Q S ds fuel l' a' w) : jt_ P md ops Q S ds (fuel + 1) l a w :=
 tu i N l' HT HW hS hc hi hN hQ hw hr ha h
end
section
variable {w w' W w1 : World} {g g' : Nat} {t : TypeId}
theorem jR_ (h : W.grownBy w1 none) : Below W.heap.size W w1 := ⟨h.os, h.tape, h.output, h.size, fun i hi => h.block i hi (by simp)⟩
section
variable {α β : Type} {d : Kd α} {d2 : Kd β} {e e2 base base2 i : Nat} {ok ok2 : Nat -> Prop} {v v2 : Value} {xs : List α} {xs2 : List β} {ys : List Value} {n cap : Nat}
theorem R_cellsF : ∀ (ys : List Value) (i : Nat) {w : World}, d.R e w base ok v xs -> (∀ k, ok k -> k ≠ g) -> d.R e (w.setCells g i ys) base ok v xs
 | [], _, _, h, _ => h
 | y :: l, i, _, h, hg => R_cellsF l (i + 1) (Kd.R_far (p := ⟨g, i, none⟩) h hg y) hg
theorem st_RF (hw : w' = w.setCells g i ys) (h : d.R e w base ok v xs) (hg : ∀ k, ok k -> k ≠ g) : d.R e w' base ok v xs := by
 subst hw; exact R_cellsF ys i h hg
theorem R_blk (h : d.R e w base ok (.slice (some ⟨g, 0, none⟩) n cap) xs) : ∃ cells, w.heap[g]? = some (.cells cells e (0, 0)) := Kd.R_typed h g (by simp [Value.ownBlock])
theorem st_blkR {cs : Array Value} (hw : w' = w.setCells g i ys) (hX : w.heap[g']? = some (.cells cs t (0, 0))) (h : d.R e w base ok (.slice (some ⟨g, 0, none⟩) n cap) xs) (ne : e ≠ t) : w'.heap[g']? = some (.cells cs t (0, 0)) := by
 obtain ⟨cells, hc⟩ := R_blk h
 exact st_far hw hX (blk_ne hX hc (Ne.symm ne))
theorem st_BR {w0 : World} (hw : w' = w.setCells g i ys) (hB : Below w0.heap.size w0 w) (h : d.R e w w0.heap.size ok (.slice (some ⟨g, 0, none⟩) n cap) xs) : Below w0.heap.size w0 w' :=
 st_B hw hB (Kd.R_base h g (by simp [Value.ownBlock]))
end
section
variable {α : Type} {enc : α -> Value} {h1 : ∀ x, (enc x).oneCell' = true} {e base n cap : Nat} {ok : Nat -> Prop} {xs : List α}
theorem elem_at_of (d : α) (h : (Kd.scalar enc h1).R e w base ok (.slice (some ⟨g, 0, none⟩) n cap) xs) (i : Int) (h0 : 0 <= i) (hi : i < n) : w.cell? ⟨g, i.toNat, none⟩ = some (enc (rdOf d xs i)) /\ w.frozen? ⟨g, i.toNat, none⟩ = false := Kd.R_celln d h i h0 hi
theorem st_elem {i : Int} {x : α} (hw : w' = w.setCells g i.toNat [enc x]) (h : (Kd.scalar enc h1).R e w base ok (.slice (some ⟨g, 0, none⟩) n cap) xs) : (Kd.scalar enc h1).R e w' base ok (.slice (some ⟨g, 0, none⟩) n cap) (xs.set i.toNat x) := by
 subst hw; exact Kd.R_putn h i x
theorem C_el (d : α) {A : Addr} {m : Nat} (h : (Kd.scalar enc h1).C w (some A) m xs) (i : Int) (h0 : 0 <= i) (hi : i < m) : w.cell? (A.add i.toNat) = some (enc (rdOf d xs i)) := by
 obtain ⟨ad, c, e, _, hk, hc⟩ := Kd.C_get h d i h0 hi
 injection e with e
 subst e
 have := hc 0 (enc (xs.getD i.toNat d)) (by have h2 : c = [enc (xs.getD i.toNat d)] := hk; rw [h2]; rfl)
 have e2 : (Kd.scalar enc h1).sz = 1 := rfl
 rw [e2, Nat.mul_one, Nat.add_zero] at this
 exact this
theorem zh_ {A : Option Addr} {m : Nat} (h : (Kd.scalar enc h1).C w A m xs) (hp : 0 < m) : ∃ ad, A = some ad := by
 obtain ⟨ad, e, _⟩ := h.2.2 hp
 exact ⟨ad, e⟩
end
section
variable {α : Type} {k : Kd α} {e base base' : Nat} {v v0 : Value} {l l0 : List α}
def SlC (k : Kd α) (w : World) (v : Value) (l : List α) : Prop := ∃ (A : Option Addr) (c : Nat), v = .slice A l.length c /\ l.length <= c /\ k.C w A l.length l
theorem kj_ (h : SlC k w v l) (hb : Below w.heap.size w w') : SlC k w' v l := by
 obtain ⟨A, c, e, hc, h⟩ := h; exact ⟨A, c, e, hc, Kd.C_below h hb⟩
theorem SlC_R {ok : Nat -> Prop} (h : k.R e w base ok v l) : SlC k w v l := Kd.R_reads h
def RowD (k : Kd α) (e base : Nat) (w : World) (v0 : Value) (l0 : List α) (v : Value) (l : List α) : Prop := (v = v0 /\ l = l0) \/ k.R e w base (fun _ => True) v l
theorem zs_ (h : RowD k e base w v0 l0 v l) (h0 : SlC k w v0 l0) : SlC k w v l := by
 rcases h with ⟨rfl, rfl⟩ | h
 · exact h0
 · exact SlC_R h
theorem RowD_R (h : RowD k e base w v0 l0 v l) (h0 : k.R e w base' (fun _ => True) v0 l0) (hb : base' <= base) : k.R e w base' (fun _ => True) v l := by
 rcases h with ⟨rfl, rfl⟩ | h
 · exact h0
 · exact Kd.R_lower h hb
theorem kd_ : RowD k e base w v l v l := .inl ⟨rfl, rfl⟩
end
end
theorem elem_at {α : Type} [Inhabited α] {enc : α -> Value} {h1 : ∀ x, (enc x).oneCell' = true} {w : World} {g e base n cap : Nat} {ok : Nat -> Prop} {xs : List α} (h : (Kd.scalar enc h1).R e w base ok (.slice (some ⟨g, 0, none⟩) n cap) xs) (i : Int) (h0 : 0 <= i) (hi : i < n) : w.cell? ⟨g, i.toNat, none⟩ = some (enc (rdOf default xs i)) /\ w.frozen? ⟨g, i.toNat, none⟩ = false := elem_at_of default h i h0 hi
theorem elem_atN {α : Type} [Inhabited α] {enc : α -> Value} {h1 : ∀ x, (enc x).oneCell' = true} {w : World} {g e base n cap : Nat} {ok : Nat -> Prop} {xs : List α} (h : (Kd.scalar enc h1).R e w base ok (.slice (some ⟨g, 0, none⟩) n cap) xs) (j : Nat) (hj : j < n) : w.cell? ⟨g, j, none⟩ = some (enc (rdOf default xs j)) /\ w.frozen? ⟨g, j, none⟩ = false := elem_at_of default h (j : Int) (by omega) (by omega)
theorem st_elemN {α : Type} {enc : α -> Value} {h1 : ∀ x, (enc x).oneCell' = true} {w w' : World} {g e base n cap : Nat} {ok : Nat -> Prop} {xs : List α} {j : Nat} {x : α} (hw : w' = w.setCells g j [enc x]) (h : (Kd.scalar enc h1).R e w base ok (.slice (some ⟨g, 0, none⟩) n cap) xs) : (Kd.scalar enc h1).R e w' base ok (.slice (some ⟨g, 0, none⟩) n cap) (xs.set j x) := st_elem (i := (j : Int)) hw h
theorem yK_ {W : World} {ad : Addr} {n : Nat} {xs : List S59} (h : Kd.C k59 W (some ad) n xs) (j : Nat) (hj : j < n) : W.cell? (ad.add (j * 3)) = some (.int .i64 (jl_ xs j).f0) /\ W.cell? ⟨(ad.add (j * 3)).block, (ad.add (j * 3)).off + 1, none⟩ = some (.int .i64 (jl_ xs j).f1) /\ W.cell? ⟨(ad.add (j * 3)).block, (ad.add (j * 3)).off + 2, none⟩ = some (.int .i64 (jl_ xs j).f2) := by
 obtain ⟨ad', e, h0, h1, h2⟩ := kn_ h (j : Int) (by omega) (by omega)
 cases e
 exact ⟨h0, h1, h2⟩
theorem xx_ {W : World} {ad : Addr} {n : Nat} {xs : List S59} (h : Kd.C k59 W (some ad) n xs) (i : Int) (h0 : 0 <= i) (h1 : i < n) : W.cell? (ad.add (i.toNat * 3)) = some (.int .i64 (jl_ xs i).f0) /\ W.cell? ⟨(ad.add (i.toNat * 3)).block, (ad.add (i.toNat * 3)).off + 1, none⟩ = some (.int .i64 (jl_ xs i).f1) /\ W.cell? ⟨(ad.add (i.toNat * 3)).block, (ad.add (i.toNat * 3)).off + 2, none⟩ = some (.int .i64 (jl_ xs i).f2) := by
 obtain ⟨ad', e, h0, h1, h2⟩ := kn_ h i h0 h1
 cases e
 exact ⟨h0, h1, h2⟩
theorem xI_ {W : World} {A : Option Addr} {n : Nat} {xs : List S59} (h : Kd.C k59 W A n xs) (hp : 0 < n) : ∃ ad, A = some ad := by
 obtain ⟨ad, e, _⟩ := h.2.2 hp
 exact ⟨ad, e⟩
def mixL (ys xs : List Int) (j : Nat) : List Int := ys.take j ++ xs.drop j
theorem mixL_set {ys xs : List Int} {j : Nat} (h : j < ys.length) (hl : xs.length = ys.length) : (mixL ys xs j).set j (ys[j]) = mixL ys xs (j + 1) := by
 unfold mixL
 rw [List.set_append_right _ _ (by rw [List.length_take]; omega), List.length_take, Nat.min_eq_left (by omega), Nat.sub_self, List.take_succ_eq_append_getElem h, List.append_assoc, List.drop_eq_getElem_cons (by omega : j < xs.length)]
 rfl
theorem mixL_zero (ys xs : List Int) : mixL ys xs 0 = xs := by simp [mixL]
theorem mixL_all {ys xs : List Int} {n : Nat} (h : n = ys.length) (hl : xs.length = ys.length) : mixL ys xs n = ys := by
 subst h; simp [mixL, List.drop_eq_nil_of_le (Nat.le_of_eq hl)]
theorem rd_map {L : List S59} {j : Nat} (h : j < (L.map (·.f1)).length) : (jl_ L (j : Int)).f1 = (L.map (·.f1))[j] := by
 have h' : j < L.length := by simpa using h
 simp [jl_, List.getD_eq_getElem?_getD, List.getElem?_eq_getElem h']
def BR (w : World) (v : Value) (l : List Int) : Prop := (v = .slice none 0 0 /\ l = []) \/ ∃ (g c : Nat) (cs : Array Value) (mk : Nat × Nat), v = .slice (some ⟨g, 0, none⟩) l.length c /\ l.length <= c /\ l.length <= 9223372036854775807 /\ w.heap[g]? = some (.cells cs 5 mk) /\ ∀ j, j < l.length -> cs[j]? = some (.int .u8 (l.getD j 0))
section
variable {w w' : World} {v : Value} {l : List Int}
theorem vu_ (w : World) : BR w (.slice none 0 0) [] := .inl ⟨rfl, rfl⟩
theorem BR_below (h : BR w v l) (hb : Below w.heap.size w w') : BR w' v l := by
 rcases h with h | ⟨g, c, cs, mk, e, hc, hm, hg, hj⟩
 · exact .inl h
 · exact .inr ⟨g, c, cs, mk, e, hc, hm, jb_ hg hb, hj⟩
theorem BR_st {g i : Nat} {t : TypeId} {ys : List Value} {cs : Array Value} (hw : w' = w.setCells g i ys) (h : BR w v l) (hb : w.heap[g]? = some (.cells cs t (0, 0))) (ht : t ≠ 5) : BR w' v l := by
 rcases h with h | ⟨g', c, cs', mk, e, hc, hm, hg, hj⟩
 · exact .inl h
 ·
  refine .inr ⟨g', c, cs', mk, e, hc, hm, ?_, hj⟩
  subst hw
  refine (vS_ ys i g' ?_).trans hg
  rintro rfl
  rw [hb] at hg
  injection hg with hg
  injection hg with _ hg _
  exact ht hg
theorem BR_bytes (W : World) (s : ByteArray) (hs : s.size <= 9223372036854775807) (c : Nat) (hc : s.size <= c) : BR (Lib.bytesWorld W 5 s) (.slice (some ⟨W.heap.size, 0, none⟩) s.size c) (kb_ s) := by
 refine .inr ⟨_, c, _, _, by rw [vz_], by rw [vz_]; exact hc, by rw [vz_]; exact hs, Lib.bytesWorld_at_new W _ s, fun j hj => ?_⟩
 rw [vz_] at hj
 have h := Lib.bytesWorld_cell W 5 s j hj
 simp only [World.cell?, Lib.bytesWorld_at_new] at h
 have h2 : j < s.data.toList.length := by rw [zQ_]; exact hj
 have h3 : (Lib.bytesCells W 5 s)[j]? = some (.int .u8 (s.data.toList.getD j 0).toNat) := h
 rw [h3]
 simp [kb_, List.getD_eq_getElem?_getD, List.getElem?_eq_getElem h2]
end
theorem xR_ (xs : List Int) : (strOfNums xs).size = xs.length := by simp [strOfNums, ByteArray.size]
structure Blk where
 g : Nat
 t : TypeId
 cs : Array Value
structure Fct where
 P : World -> Prop
 T : List TypeId
 below : ∀ {w w' : World}, Below w.heap.size w w' -> P w -> P w'
 set : ∀ {w w' : World} {g i t : Nat} {ys : List Value} {cs : Array Value}, w' = w.setCells g i ys -> w.heap[g]? = some (.cells cs t (0, 0)) -> T.contains t = false -> P w -> P w'
theorem vJ_ {T : List Nat} {t : Nat} (h : T.contains t = false) : ∀ q, q ∈ T -> q ≠ t := by
 intro q hq e
 subst e
 simp [hq] at h
def RowF {α : Type} (d : Kd α) (e base : Nat) (v : Value) (xs : List α) : Fct where
 P := fun W => d.R e W base (fun _ => True) v xs
 T := e :: d.E
 below := fun hb h => Kd.R_below h hb
 set := fun hw hb ht h => st_R hw h hb (vJ_ ht)
def BytF (v : Value) (l : List Int) : Fct where
 P := fun W => BR W v l
 T := [5]
 below := fun hb h => BR_below h hb
 set := fun hw hb ht h => BR_st hw h hb (fun e => vJ_ ht 5 (by simp) e.symm)
structure Pk (w W : World) (bs : List Blk) (fs : List Fct) : Prop where
 below : Below w.heap.size w W
 blk : ∀ b ∈ bs, W.heap[b.g]? = some (.cells b.cs b.t (0, 0)) /\ w.heap.size <= b.g
 ne : bs.Pairwise (fun a b => a.g ≠ b.g)
 fct : ∀ f ∈ fs, f.P W
namespace Pk
variable {w W W' : World} {bs : List Blk} {fs : List Fct} {g t : Nat} {cs : Array Value}
theorem start (w : World) : Pk w w [] [] := ⟨Below.refl _ _, by simp, List.Pairwise.nil, by simp⟩
theorem called (h : Pk w W bs fs) (hb : Below W.heap.size W W') : Pk w W' bs fs :=
 ⟨jc_ h.below hb, fun b hm => ⟨jb_ (h.blk b hm).1 hb, (h.blk b hm).2⟩, h.ne, fun f hf => f.below hb (h.fct f hf)⟩
theorem drew (h : Pk w W bs fs) : Pk w W.drew bs fs := h.called (jC_ (Below.refl _ _))
theorem made (h : Pk w W bs fs) (hx : W'.heap[g]? = some (.cells cs t (0, 0))) (hb : Below W.heap.size W W') (hg : W.heap.size <= g) : Pk w W' (⟨g, t, cs⟩ :: bs) fs := by
 have h2 := h.called hb
 refine ⟨h2.below, fun b hm => ?_, List.pairwise_cons.2 ⟨fun b hm => ?_, h.ne⟩, h2.fct⟩
 ·
  rcases List.mem_cons.1 hm with rfl | hm
  · exact ⟨hx, Nat.le_trans h.below.size hg⟩
  · exact h2.blk b hm
 ·
  have := jX_ (h.blk b hm).1
  show g ≠ b.g
  omega
theorem more (h : Pk w W bs fs) (hx : W.heap[g]? = some (.cells cs t (0, 0))) (hg : w.heap.size <= g) (hn : ∀ b ∈ bs, g ≠ b.g) : Pk w W (⟨g, t, cs⟩ :: bs) fs :=
 ⟨h.below, fun b hm => by
  rcases List.mem_cons.1 hm with rfl | hm
  · exact ⟨hx, hg⟩
  · exact h.blk b hm, List.pairwise_cons.2 ⟨fun b hm => hn b hm, h.ne⟩, h.fct⟩
theorem row (h : Pk w W bs fs) (f : Fct) (hf : f.P W) : Pk w W bs (f :: fs) :=
 ⟨h.below, h.blk, h.ne, fun q hq => by rcases List.mem_cons.1 hq with rfl | hq; exact hf; exact h.fct q hq⟩
theorem at_ (h : Pk w W bs fs) (k : Nat) (hk : bs[k]? = some ⟨g, t, cs⟩) : W.heap[g]? = some (.cells cs t (0, 0)) := (h.blk _ (List.mem_of_getElem? hk)).1
theorem le (h : Pk w W bs fs) (k : Nat) (hk : bs[k]? = some ⟨g, t, cs⟩) : w.heap.size <= g := (h.blk _ (List.mem_of_getElem? hk)).2
theorem cell (h : Pk w W bs fs) (k : Nat) (hk : bs[k]? = some ⟨g, t, cs⟩) : ∀ i, W.cell? ⟨g, i, none⟩ = cs[i]? := je_ (h.at_ k hk)
theorem froz (h : Pk w W bs fs) (k : Nat) (hk : bs[k]? = some ⟨g, t, cs⟩) : ∀ i, W.frozen? ⟨g, i, none⟩ = false := jh_ (h.at_ k hk)
theorem fact (h : Pk w W bs fs) (k : Nat) {f : Fct} (hk : fs[k]? = some f) : f.P W := h.fct f (List.mem_of_getElem? hk)
theorem mem_set_imp {bs : List Blk} {k : Nat} {b c x : Blk} (hp : bs.Pairwise (fun a b => a.g ≠ b.g)) (hk : bs[k]? = some b) (hx : c ∈ bs.set k x) : c = x \/ (c ∈ bs /\ c.g ≠ b.g) := by
 rw [List.mem_iff_getElem?] at hx
 obtain ⟨j, hj⟩ := hx
 by_cases hjk : j = k
 ·
  subst hjk
  have hlt : j < bs.length := (List.getElem?_eq_some_iff.1 hk).1
  rw [List.getElem?_set_self hlt] at hj
  exact .inl (Option.some.inj hj).symm
 ·
  rw [List.getElem?_set_ne (Ne.symm hjk)] at hj
  refine .inr ⟨List.mem_of_getElem? hj, ?_⟩
  obtain ⟨l1, e1⟩ := List.getElem?_eq_some_iff.1 hj
  obtain ⟨l2, e2⟩ := List.getElem?_eq_some_iff.1 hk
  rcases Nat.lt_or_gt_of_ne hjk with h | h
  ·
   have := List.pairwise_iff_getElem.1 hp j k l1 l2 h
   rw [e1, e2] at this; exact this
  ·
   have := List.pairwise_iff_getElem.1 hp k j l2 l1 h
   rw [e1, e2] at this; exact fun e => this e.symm
theorem ne_set {bs : List Blk} {k : Nat} {b x : Blk} (hp : bs.Pairwise (fun a b => a.g ≠ b.g)) (hk : bs[k]? = some b) (hx : x.g = b.g) : (bs.set k x).Pairwise (fun a b => a.g ≠ b.g) := by
 have e : (bs.set k x).map (·.g) = bs.map (·.g) := by
  rw [List.map_set, hx]
  apply List.ext_getElem?
  intro j
  by_cases hjk : k = j
  ·
   subst hjk
   have hlt : k < bs.length := (List.getElem?_eq_some_iff.1 hk).1
   rw [List.getElem?_set_self (by simpa using hlt), List.getElem?_map, hk]; rfl
  · rw [List.getElem?_set_ne hjk]
 have h1 : (bs.map (·.g)).Pairwise (· ≠ ·) := by rw [List.pairwise_map]; exact hp
 rw [<- e, List.pairwise_map] at h1
 exact h1
theorem put (h : Pk w W bs fs) (k : Nat) {i : Nat} {ys : List Value} {cs' : Array Value} (hk : bs[k]? = some ⟨g, t, cs⟩) (hw : W' = W.setCells g i ys) (hl : Nat.ble (i + ys.length) cs.size = true) (e : (over cs.toList i ys).toArray = cs') (hT : fs.all (fun f => !f.T.contains t) = true) : Pk w W' (bs.set k ⟨g, t, cs'⟩) fs := by
 have hb := h.at_ k hk
 refine ⟨st_B hw h.below (h.le k hk), fun c hc => ?_, ne_set h.ne hk rfl, fun f hf => f.set hw hb (by simpa using List.all_eq_true.1 hT f hf) (h.fct f hf)⟩
 rcases mem_set_imp h.ne hk hc with rfl | ⟨hm, hne⟩
 · exact ⟨st_put hw hb hl e, h.le k hk⟩
 · exact ⟨st_far hw (h.blk c hm).1 hne, (h.blk c hm).2⟩
theorem putE {α : Type} {enc : α -> Value} {h1 : ∀ x, (enc x).oneCell' = true} {e n cap : Nat} {xs : List α} (h : Pk w W bs fs) (k : Nat) {j : Nat} {x : α} (hk : fs[k]? = some (RowF (Kd.scalar enc h1) e w.heap.size (.slice (some ⟨g, 0, none⟩) n cap) xs)) (hw : W' = W.setCells g j [enc x]) (hB : bs.all (fun b => !(b.t == e)) = true) (hT : (fs.eraseIdx k).all (fun f => !f.T.contains e) = true) :
  Pk w W' bs (fs.set k (RowF (Kd.scalar enc h1) e w.heap.size (.slice (some ⟨g, 0, none⟩) n cap) (xs.set j x))) := by
 have hr : (Kd.scalar enc h1).R e W w.heap.size (fun _ => True) (.slice (some ⟨g, 0, none⟩) n cap) xs := h.fact k hk
 obtain ⟨cells, hc⟩ := R_blk hr
 refine ⟨st_BR hw h.below hr, fun c hm => ⟨?_, (h.blk c hm).2⟩, h.ne, fun f hf => ?_⟩
 ·
  have := List.all_eq_true.1 hB c hm
  exact st_blkR hw (h.blk c hm).1 hr (fun e => by rw [e] at this; simp at this)
 ·
  rw [List.mem_iff_getElem?] at hf
  obtain ⟨q, hq⟩ := hf
  by_cases hqk : q = k
  ·
   subst hqk
   have hlt : q < fs.length := (List.getElem?_eq_some_iff.1 hk).1
   rw [List.getElem?_set_self hlt] at hq
   obtain rfl := (Option.some.inj hq).symm
   exact st_elemN hw hr
  ·
   rw [List.getElem?_set_ne (Ne.symm hqk)] at hq
   have hm : f ∈ fs.eraseIdx k := by
    rw [List.mem_eraseIdx_iff_getElem?]
    exact ⟨q, hqk, hq⟩
   exact f.set hw hc (by simpa using List.all_eq_true.1 hT f hm) (h.fct f (List.mem_of_getElem? hq))
theorem putw (h : Pk w W bs fs) (k : Nat) {ys : List Value} (hk : bs[k]? = some ⟨g, t, cs⟩) (hw : W' = W.setCells g 0 ys) (hl : ys.length = cs.size) (hT : fs.all (fun f => !f.T.contains t) = true) : Pk w W' (bs.set k ⟨g, t, ys.toArray⟩) fs := by
 refine h.put k hk hw ?_ ?_ hT
 · rw [hl, Nat.zero_add]; simp
 ·
  have : over cs.toList 0 ys = ys := by
   have hd : cs.toList.drop ys.length = [] := List.drop_eq_nil_of_le (by simp [hl])
   cases hcs : cs.toList with
   | nil => rw [hcs] at hd; simp [over]
   | cons c l => rw [hcs] at hd; simp only [over]; rw [hd, List.append_nil]
  rw [this]
theorem tail {b : Blk} (h : Pk w W (b :: bs) fs) : Pk w W bs fs := ⟨h.below, fun c hc => h.blk c (List.mem_cons_of_mem _ hc), (List.pairwise_cons.1 h.ne).2, h.fct⟩
theorem dist (h : Pk w W bs fs) (k j : Nat) {g' t' : Nat} {cs' : Array Value} (hk : bs[k]? = some ⟨g, t, cs⟩) (hj : bs[j]? = some ⟨g', t', cs'⟩) (hn : k < j) : g ≠ g' := by
 obtain ⟨l1, e1⟩ := List.getElem?_eq_some_iff.1 hk
 obtain ⟨l2, e2⟩ := List.getElem?_eq_some_iff.1 hj
 have := List.pairwise_iff_getElem.1 h.ne k j l1 l2 hn
 rw [e1, e2] at this; exact this
theorem old (h : Pk w W bs fs) (hg : W.heap.size <= g) : ∀ b ∈ bs, g ≠ b.g := fun b hm => by
 have := jX_ (h.blk b hm).1
 omega
theorem join (h : Pk w W bs fs) (hb : Below W.heap.size W W') (hx : W'.heap[g]? = some (.cells cs t (0, 0))) (hg : W.heap.size <= g) : Pk w W' (⟨g, t, cs⟩ :: bs) fs :=
 (h.called hb).more hx (Nat.le_trans h.below.size hg) (h.old hg)
theorem join2 {g' t' : Nat} {cs' : Array Value} (h : Pk w W bs fs) (hb : Below W.heap.size W W') (hx : W'.heap[g]? = some (.cells cs t (0, 0))) (hg : W.heap.size <= g) (hx' : W'.heap[g']? = some (.cells cs' t' (0, 0))) (hg' : W.heap.size <= g') (hn : g ≠ g') : Pk w W' (⟨g, t, cs⟩ :: ⟨g', t', cs'⟩ :: bs) fs :=
 (h.join hb hx' hg').more hx (Nat.le_trans h.below.size hg) (fun b hm => by
  rcases List.mem_cons.1 hm with rfl | hm
  · exact hn
  · exact h.old hg b hm)
end Pk
section
variable {P : Program} {ops : Array Oper} {rest : List Oper} {o : Oper} {a : Act} {Q : Exit -> Act -> World -> Prop} {Kc : Act -> World -> Prop} {W : World}
theorem bx (N : Nat) (cs : Array Value) (t : Nat) (hd : o.dst = some N := by rfl) (hgd : o.guard = none := by rfl)
  (hrun : (execOp a.eval o).run P W = .ok (.value (.pointer (some ⟨W.heap.size, 0, none⟩))) (W.alloc (.cells cs t (0, 0))) := by first | (go_simp; done) | (go_simp; rfl))
  (h : ∀ g, W.heap.size <= g -> ∀ w1, w1.heap[g]? = some (.cells cs t (0, 0)) -> Below W.heap.size W w1 -> wpList P ops Q rest (a.put o.dst (.pointer (some ⟨g, 0, none⟩))) w1) : wpList P ops Q (o :: rest) a W :=
 jB_ hgd hd hrun (fun g hg => h g (Nat.le_of_eq hg.symm))
theorem bxs (N : Nat) (cs : Array Value) (t : Nat) (hd : o.dst = some N := by rfl) (hw : Region.wanted o (yielded ops a.tmps) = true := by rfl)
  (hrun : (execOp a.eval o).run P W = .ok (.value (.pointer (some ⟨W.heap.size, 0, none⟩))) (W.alloc (.cells cs t (0, 0))) := by first | (go_simp; done) | (go_simp; rfl))
  (h : ∀ g, W.heap.size <= g -> ∀ w1, w1.heap[g]? = some (.cells cs t (0, 0)) -> Below W.heap.size W w1 -> Kc (a.put o.dst (.pointer (some ⟨g, 0, none⟩))) w1) : if Region.wanted o (yielded ops a.tmps) = true then Oper.wp P o a W Kc Q else Kc (a.put o.dst undef) W :=
 box_step hw hd hrun (fun g hg => h g (Nat.le_of_eq hg.symm))
theorem sv (t p : Nat) (g i : Nat) (ys : List Value) {v : Operand} (ho : o.op = .store t (.tmp p) v := by rfl) (hgd : o.guard = none := by rfl) (hN : o.dst = none := by rfl)
  (hrun : (execOp a.eval o).run P W = .ok .skip (W.setCells g i ys) := by first | (go_simp; done) | (go_simp; rfl)) (h : ∀ w', w' = W.setCells g i ys -> wpList P ops Q rest a w') : wpList P ops Q (o :: rest) a W := yi_ hgd ho hN hrun h
theorem svs (t p : Nat) (g i : Nat) (ys : List Value) {v : Operand} (ho : o.op = .store t (.tmp p) v := by rfl) (hw : Region.wanted o (yielded ops a.tmps) = true := by rfl) (hN : o.dst = none := by rfl)
  (hrun : (execOp a.eval o).run P W = .ok .skip (W.setCells g i ys) := by first | (go_simp; done) | (go_simp; rfl)) (h : ∀ w', w' = W.setCells g i ys -> Kc a w') : if Region.wanted o (yielded ops a.tmps) = true then Oper.wp P o a W Kc Q else Kc (a.put none undef) W := store_step hw ho hN hrun h
theorem on {md : Region.Mode} {S : World -> Prop} {ds : List Nat} {fuel : Nat} {l : Array Bool} {w : World} {oi : Oper} {T : Bool × List (List Nat × List Nat)} (i : Nat) (N : Option Tmp) (l' : Array Bool) (HT : Aside0 (rtab md ops = T)) (hi : ops[i]? = some oi := by rfl) (hN : oi.dst = N := by rfl) (hc : (yv_ T.2 l.toList == [i] && l.toList.set i true == l'.toList) = true := by kernel_rfl) (hd : i ∉ ds := by decide)
  (h : ∀ K : Act -> World -> Prop, Shut (∀ a' w', S w' -> (S w' -> jt_ P md ops Q S ds fuel l' a' w') -> K a' w') -> if Region.wanted oi (yielded ops a.tmps) = true then Oper.wp P oi a w K Q else K (a.put N undef) w) :
  jt_ P md ops Q S ds (fuel + 1) l a w := one_ l' hi hN (kI_ HT.out hc) hd h
theorem onl {md : Region.Mode} {S : World -> Prop} {ds : List Nat} {fuel : Nat} {l : Array Bool} {w : World} {oi : Oper} {T : Bool × List (List Nat × List Nat)} (i : Nat) (N : Option Tmp) (l' : Array Bool) (HT : Aside0 (rtab md ops = T)) (hi : ops[i]? = some oi := by rfl) (hN : oi.dst = N := by rfl) (hc : (yv_ T.2 l.toList == [i] && l.toList.set i true == l'.toList) = true := by kernel_rfl) (hd : i ∈ ds := by decide)
  (h : ∀ K : Act -> World -> Prop, Shut (∀ a' w', jt_ P md ops Q S ds fuel l' a' w' -> K a' w') -> if Region.wanted oi (yielded ops a.tmps) = true then Oper.wp P oi a w K Q else K (a.put N undef) w) :
  jt_ P md ops Q S ds (fuel + 1) l a w := last_ l' hi hN (kI_ HT.out hc) hd h
end
@[reducible] def mL (id m u b c z s me o a l : Int) (x y q : Value) : List Value := [.int .i64 id, .int .i64 m, .int .i64 u, .int .i64 b, .int .i64 c, .int .i64 z, .int .i64 s, .int .i64 me, .int .i64 o, .int .i64 a, .int .i64 l, x, y, q]
@[reducible] def tL (id m u b c z s me o a l : Int) (x : Value) : List Value := [.int .i64 id, .int .i64 m, .int .i64 u, .int .i64 b, .int .i64 c, .int .i64 z, .int .i64 s, .int .i64 me, .int .i64 o, .int .i64 a, .int .i64 l, x]
@[reducible] def cL (id m u b c z s me o a l : Int) : List Value := [.int .i64 id, .int .i64 m, .int .i64 u, .int .i64 b, .int .i64 c, .int .i64 z, .int .i64 s, .int .i64 me, .int .i64 o, .int .i64 a, .int .i64 l]
@[reducible] def nil_ : Value := .slice none 0 0
@[reducible] def xL (k i p n : Int) (d : Value) (f : Bool) : List Value := [.int .i64 k, .int .i64 i, .int .i64 p, .int .i64 n, d, .bool f]
@[reducible] def rL (e : Int) (d : Value) (x y z : Int) : List Value := [.int .i64 e, d, .int .i64 x, .int .i64 y, .int .i64 z]
@[reducible] def oL (x y z : Int) : List Value := [.int .i64 x, .int .i64 y, .int .i64 z]
@[reducible] def bW (W : World) (g : Nat) (l : List Value) : Prop := ∀ j_, W.cell? ⟨g, j_, none⟩ = l.toArray[j_]?
section
variable {w W W' : World} {bs : List Blk} {fs : List Fct} {g t : Nat} {cs : Array Value}
theorem pc (H : Hid (Pk w W bs fs)) (hb : Below W.heap.size W W') : Hid (Pk w W' bs fs) := hid (H.out.called hb)
theorem pr {α : Type} {d : Kd α} {e : Nat} {v : Value} {xs : List α} (H : Hid (Pk w W bs fs)) (hb : Below W.heap.size W W') (hR : d.R e W' W.heap.size (fun _ => True) v xs) : Hid (Pk w W' bs (RowF d e w.heap.size v xs :: fs)) := hid ((H.out.called hb).row (RowF d e w.heap.size v xs) (Kd.R_lower hR H.out.below.size))
theorem pg (H : Hid (Pk w W bs fs)) (hx : W'.heap[g]? = some (.cells cs t (0, 0))) (hb : Below W.heap.size W W') (hg : W.heap.size <= g) : Hid (Pk w W' (⟨g, t, cs⟩ :: bs) fs) := hid (H.out.made hx hb hg)
theorem n1_ {g0 t0 : Nat} {c0 : Array Value} (H : Hid (Pk w W (⟨g0, t0, c0⟩ :: bs) fs)) : Hid (Pk w W (⟨g0, t0, c0⟩ :: bs) fs) /\ (∀ i, W.cell? ⟨g0, i, none⟩ = c0[i]?) := ⟨H, H.out.cell 0 rfl⟩
theorem n2_ {g0 t0 g1 t1 : Nat} {c0 c1 : Array Value} (H : Hid (Pk w W (⟨g0, t0, c0⟩ :: ⟨g1, t1, c1⟩ :: bs) fs)) : Hid (Pk w W (⟨g0, t0, c0⟩ :: ⟨g1, t1, c1⟩ :: bs) fs) /\ (∀ i, W.cell? ⟨g0, i, none⟩ = c0[i]?) /\ (∀ i, W.cell? ⟨g1, i, none⟩ = c1[i]?) := ⟨H, H.out.cell 0 rfl, H.out.cell 1 rfl⟩
theorem n3_ {g0 t0 g1 t1 g2 t2 : Nat} {c0 c1 c2 : Array Value} (H : Hid (Pk w W (⟨g0, t0, c0⟩ :: ⟨g1, t1, c1⟩ :: ⟨g2, t2, c2⟩ :: bs) fs)) : Hid (Pk w W (⟨g0, t0, c0⟩ :: ⟨g1, t1, c1⟩ :: ⟨g2, t2, c2⟩ :: bs) fs) /\ (∀ i, W.cell? ⟨g0, i, none⟩ = c0[i]?) /\ (∀ i, W.cell? ⟨g1, i, none⟩ = c1[i]?) /\ (∀ i, W.cell? ⟨g2, i, none⟩ = c2[i]?) := ⟨H, H.out.cell 0 rfl, H.out.cell 1 rfl, H.out.cell 2 rfl⟩
theorem n4_ {g0 t0 g1 t1 g2 t2 g3 t3 : Nat} {c0 c1 c2 c3 : Array Value} (H : Hid (Pk w W (⟨g0, t0, c0⟩ :: ⟨g1, t1, c1⟩ :: ⟨g2, t2, c2⟩ :: ⟨g3, t3, c3⟩ :: bs) fs)) : Hid (Pk w W (⟨g0, t0, c0⟩ :: ⟨g1, t1, c1⟩ :: ⟨g2, t2, c2⟩ :: ⟨g3, t3, c3⟩ :: bs) fs) /\ (∀ i, W.cell? ⟨g0, i, none⟩ = c0[i]?) /\ (∀ i, W.cell? ⟨g1, i, none⟩ = c1[i]?) /\ (∀ i, W.cell? ⟨g2, i, none⟩ = c2[i]?) /\ (∀ i, W.cell? ⟨g3, i, none⟩ = c3[i]?) := ⟨H, H.out.cell 0 rfl, H.out.cell 1 rfl, H.out.cell 2 rfl, H.out.cell 3 rfl⟩
theorem n5_ {g0 t0 g1 t1 g2 t2 g3 t3 g4 t4 : Nat} {c0 c1 c2 c3 c4 : Array Value} (H : Hid (Pk w W (⟨g0, t0, c0⟩ :: ⟨g1, t1, c1⟩ :: ⟨g2, t2, c2⟩ :: ⟨g3, t3, c3⟩ :: ⟨g4, t4, c4⟩ :: bs) fs)) : Hid (Pk w W (⟨g0, t0, c0⟩ :: ⟨g1, t1, c1⟩ :: ⟨g2, t2, c2⟩ :: ⟨g3, t3, c3⟩ :: ⟨g4, t4, c4⟩ :: bs) fs) /\ (∀ i, W.cell? ⟨g0, i, none⟩ = c0[i]?) /\ (∀ i, W.cell? ⟨g1, i, none⟩ = c1[i]?) /\ (∀ i, W.cell? ⟨g2, i, none⟩ = c2[i]?) /\ (∀ i, W.cell? ⟨g3, i, none⟩ = c3[i]?) /\ (∀ i, W.cell? ⟨g4, i, none⟩ = c4[i]?) := ⟨H, H.out.cell 0 rfl, H.out.cell 1 rfl, H.out.cell 2 rfl, H.out.cell 3 rfl, H.out.cell 4 rfl⟩
theorem n6_ {g0 t0 g1 t1 g2 t2 g3 t3 g4 t4 g5 t5 : Nat} {c0 c1 c2 c3 c4 c5 : Array Value} (H : Hid (Pk w W (⟨g0, t0, c0⟩ :: ⟨g1, t1, c1⟩ :: ⟨g2, t2, c2⟩ :: ⟨g3, t3, c3⟩ :: ⟨g4, t4, c4⟩ :: ⟨g5, t5, c5⟩ :: bs) fs)) : Hid (Pk w W (⟨g0, t0, c0⟩ :: ⟨g1, t1, c1⟩ :: ⟨g2, t2, c2⟩ :: ⟨g3, t3, c3⟩ :: ⟨g4, t4, c4⟩ :: ⟨g5, t5, c5⟩ :: bs) fs) /\ (∀ i, W.cell? ⟨g0, i, none⟩ = c0[i]?) /\ (∀ i, W.cell? ⟨g1, i, none⟩ = c1[i]?) /\ (∀ i, W.cell? ⟨g2, i, none⟩ = c2[i]?) /\ (∀ i, W.cell? ⟨g3, i, none⟩ = c3[i]?) /\ (∀ i, W.cell? ⟨g4, i, none⟩ = c4[i]?) /\ (∀ i, W.cell? ⟨g5, i, none⟩ = c5[i]?) := ⟨H, H.out.cell 0 rfl, H.out.cell 1 rfl, H.out.cell 2 rfl, H.out.cell 3 rfl, H.out.cell 4 rfl, H.out.cell 5 rfl⟩
theorem n7_ {g0 t0 g1 t1 g2 t2 g3 t3 g4 t4 g5 t5 g6 t6 : Nat} {c0 c1 c2 c3 c4 c5 c6 : Array Value} (H : Hid (Pk w W (⟨g0, t0, c0⟩ :: ⟨g1, t1, c1⟩ :: ⟨g2, t2, c2⟩ :: ⟨g3, t3, c3⟩ :: ⟨g4, t4, c4⟩ :: ⟨g5, t5, c5⟩ :: ⟨g6, t6, c6⟩ :: bs) fs)) : Hid (Pk w W (⟨g0, t0, c0⟩ :: ⟨g1, t1, c1⟩ :: ⟨g2, t2, c2⟩ :: ⟨g3, t3, c3⟩ :: ⟨g4, t4, c4⟩ :: ⟨g5, t5, c5⟩ :: ⟨g6, t6, c6⟩ :: bs) fs) /\ (∀ i, W.cell? ⟨g0, i, none⟩ = c0[i]?) /\ (∀ i, W.cell? ⟨g1, i, none⟩ = c1[i]?) /\ (∀ i, W.cell? ⟨g2, i, none⟩ = c2[i]?) /\ (∀ i, W.cell? ⟨g3, i, none⟩ = c3[i]?) /\ (∀ i, W.cell? ⟨g4, i, none⟩ = c4[i]?) /\ (∀ i, W.cell? ⟨g5, i, none⟩ = c5[i]?) /\ (∀ i, W.cell? ⟨g6, i, none⟩ = c6[i]?) := ⟨H, H.out.cell 0 rfl, H.out.cell 1 rfl, H.out.cell 2 rfl, H.out.cell 3 rfl, H.out.cell 4 rfl, H.out.cell 5 rfl, H.out.cell 6 rfl⟩
theorem n8_ {g0 t0 g1 t1 g2 t2 g3 t3 g4 t4 g5 t5 g6 t6 g7 t7 : Nat} {c0 c1 c2 c3 c4 c5 c6 c7 : Array Value} (H : Hid (Pk w W (⟨g0, t0, c0⟩ :: ⟨g1, t1, c1⟩ :: ⟨g2, t2, c2⟩ :: ⟨g3, t3, c3⟩ :: ⟨g4, t4, c4⟩ :: ⟨g5, t5, c5⟩ :: ⟨g6, t6, c6⟩ :: ⟨g7, t7, c7⟩ :: bs) fs)) : Hid (Pk w W (⟨g0, t0, c0⟩ :: ⟨g1, t1, c1⟩ :: ⟨g2, t2, c2⟩ :: ⟨g3, t3, c3⟩ :: ⟨g4, t4, c4⟩ :: ⟨g5, t5, c5⟩ :: ⟨g6, t6, c6⟩ :: ⟨g7, t7, c7⟩ :: bs) fs) /\ (∀ i, W.cell? ⟨g0, i, none⟩ = c0[i]?) /\ (∀ i, W.cell? ⟨g1, i, none⟩ = c1[i]?) /\ (∀ i, W.cell? ⟨g2, i, none⟩ = c2[i]?) /\ (∀ i, W.cell? ⟨g3, i, none⟩ = c3[i]?) /\ (∀ i, W.cell? ⟨g4, i, none⟩ = c4[i]?) /\ (∀ i, W.cell? ⟨g5, i, none⟩ = c5[i]?) /\ (∀ i, W.cell? ⟨g6, i, none⟩ = c6[i]?) /\ (∀ i, W.cell? ⟨g7, i, none⟩ = c7[i]?) := ⟨H, H.out.cell 0 rfl, H.out.cell 1 rfl, H.out.cell 2 rfl, H.out.cell 3 rfl, H.out.cell 4 rfl, H.out.cell 5 rfl, H.out.cell 6 rfl, H.out.cell 7 rfl⟩
theorem n9_ {g0 t0 g1 t1 g2 t2 g3 t3 g4 t4 g5 t5 g6 t6 g7 t7 g8 t8 : Nat} {c0 c1 c2 c3 c4 c5 c6 c7 c8 : Array Value} (H : Hid (Pk w W (⟨g0, t0, c0⟩ :: ⟨g1, t1, c1⟩ :: ⟨g2, t2, c2⟩ :: ⟨g3, t3, c3⟩ :: ⟨g4, t4, c4⟩ :: ⟨g5, t5, c5⟩ :: ⟨g6, t6, c6⟩ :: ⟨g7, t7, c7⟩ :: ⟨g8, t8, c8⟩ :: bs) fs)) : Hid (Pk w W (⟨g0, t0, c0⟩ :: ⟨g1, t1, c1⟩ :: ⟨g2, t2, c2⟩ :: ⟨g3, t3, c3⟩ :: ⟨g4, t4, c4⟩ :: ⟨g5, t5, c5⟩ :: ⟨g6, t6, c6⟩ :: ⟨g7, t7, c7⟩ :: ⟨g8, t8, c8⟩ :: bs) fs) /\ (∀ i, W.cell? ⟨g0, i, none⟩ = c0[i]?) /\ (∀ i, W.cell? ⟨g1, i, none⟩ = c1[i]?) /\ (∀ i, W.cell? ⟨g2, i, none⟩ = c2[i]?) /\ (∀ i, W.cell? ⟨g3, i, none⟩ = c3[i]?) /\ (∀ i, W.cell? ⟨g4, i, none⟩ = c4[i]?) /\ (∀ i, W.cell? ⟨g5, i, none⟩ = c5[i]?) /\ (∀ i, W.cell? ⟨g6, i, none⟩ = c6[i]?) /\ (∀ i, W.cell? ⟨g7, i, none⟩ = c7[i]?) /\ (∀ i, W.cell? ⟨g8, i, none⟩ = c8[i]?) := ⟨H, H.out.cell 0 rfl, H.out.cell 1 rfl, H.out.cell 2 rfl, H.out.cell 3 rfl, H.out.cell 4 rfl, H.out.cell 5 rfl, H.out.cell 6 rfl, H.out.cell 7 rfl, H.out.cell 8 rfl⟩
end
section
variable {P : Program} {ops : Array Oper} {rest : List Oper} {o : Oper} {a : Act} {Q : Exit -> Act -> World -> Prop} {Kc : Act -> World -> Prop} {w W : World} {bs : List Blk} {fs : List Fct}
theorem bh (H : Hid (Pk w W bs fs)) (N : Nat) (cs : List Value) (t : Nat) (hd : o.dst = some N := by rfl) (hgd : o.guard = none := by rfl)
  (hrun : (execOp a.eval o).run P W = .ok (.value (.pointer (some ⟨W.heap.size, 0, none⟩))) (W.alloc (.cells cs.toArray t (0, 0))) := by first | (go_simp; done) | (go_simp; rfl))
  (h : ∀ g w1, Hid (Pk w w1 (⟨g, t, cs.toArray⟩ :: bs) fs) -> wpList P ops Q rest (a.put o.dst (.pointer (some ⟨g, 0, none⟩))) w1) : wpList P ops Q (o :: rest) a W :=
 bx N cs.toArray t hd hgd hrun (fun g hg w1 hx hb => h g w1 (pg H hx hb hg))
theorem bhs (H : Hid (Pk w W bs fs)) (N : Nat) (cs : List Value) (t : Nat) (hd : o.dst = some N := by rfl) (hw : Region.wanted o (yielded ops a.tmps) = true := by rfl)
  (hrun : (execOp a.eval o).run P W = .ok (.value (.pointer (some ⟨W.heap.size, 0, none⟩))) (W.alloc (.cells cs.toArray t (0, 0))) := by first | (go_simp; done) | (go_simp; rfl))
  (h : ∀ g w1, W.heap.size <= g -> Below W.heap.size W w1 -> Hid (Pk w w1 (⟨g, t, cs.toArray⟩ :: bs) fs) -> Kc (a.put o.dst (.pointer (some ⟨g, 0, none⟩))) w1) : if Region.wanted o (yielded ops a.tmps) = true then Oper.wp P o a W Kc Q else Kc (a.put o.dst undef) W :=
 bxs N cs.toArray t hd hw hrun (fun g hg w1 hx hb => h g w1 hg hb (pg H hx hb hg))
end
theorem setCell_same {w : World} {g t i : Nat} {cs : Array Value} {y : Value} (h : w.heap[g]? = some (.cells cs t (0, 0))) (hy : cs[i]? = some y) : w.setCell ⟨g, i, none⟩ y = w := by
 have hc : cs.setIfInBounds i y = cs := by
  apply Array.ext_getElem?
  intro j
  rw [Array.getElem?_setIfInBounds]
  by_cases e : i = j
  ·
   subst e
   obtain ⟨hl, -⟩ := Array.getElem?_eq_some_iff.1 hy
   rw [if_pos rfl, if_pos hl, hy]
  · rw [if_neg e]
 have : w.heap.modify g (fun | .cells c t' m => .cells (c.setIfInBounds i y) t' m | o => o) = w.heap := by
  apply Array.ext_getElem?
  intro j
  rw [Array.getElem?_modify]
  by_cases e : g = j
  · subst e; rw [if_pos rfl, h]; simp [hc]
  · rw [if_neg e]
 exact congrArg (fun x => { w with heap := x }) this
theorem kO_ {w : World} {g t : Nat} {cs : Array Value} (h : w.heap[g]? = some (.cells cs t (0, 0))) : ∀ (ys : List Value) (i : Nat), (∀ j, j < ys.length -> cs[i + j]? = ys[j]?) -> w.setCells g i ys = w
 | [], _, _ => rfl
 | y :: l, i, hy => by
  rw [World.setCells, setCell_same h (by simpa using hy 0 (by simp))]
  exact kO_ h l (i + 1) (fun j hj => by have := hy (j + 1) (by simpa using hj); rw [show i + 1 + j = i + (j + 1) by omega]; simpa using this)
section
variable {P : Program} {ops : Array Oper} {rest : List Oper} {o : Oper} {a : Act} {Q : Exit -> Act -> World -> Prop} {Kc : Act -> World -> Prop} {w W : World} {bs : List Blk} {fs : List Fct} {q : Nat} {cs : Array Value} {v : Operand}
theorem sh (H : Hid (Pk w W bs fs)) (k t p g : Nat) (ys : List Value) (hk : bs[k]? = some ⟨g, q, cs⟩ := by rfl) (ho : o.op = .store t (.tmp p) v := by rfl) (hgd : o.guard = none := by rfl) (hN : o.dst = none := by rfl) (hrun : (∀ i, W.frozen? ⟨g, i, none⟩ = false) -> (execOp a.eval o).run P W = .ok .skip (W.setCells g 0 ys) := by (intro f_; first | (go_simp; done) | (go_simp; rfl))) (hl : ys.length = cs.size := by rfl) (hT : fs.all (fun f => !f.T.contains q) = true := by rfl) (h : ∀ w', Hid (Pk w w' (bs.set k ⟨g, q, ys.toArray⟩) fs) -> wpList P ops Q rest a w') : wpList P ops Q (o :: rest) a W :=
 sv t p g 0 ys ho hgd hN (hrun (H.out.froz k hk)) (fun w' hw => h w' (hid (H.out.putw k hk hw hl hT)))
theorem sp (H : Hid (Pk w W bs fs)) (k t p g : Nat) (i : Nat) (ys : List Value) (cs' : List Value) (hk : bs[k]? = some ⟨g, q, cs⟩ := by rfl) (ho : o.op = .store t (.tmp p) v := by rfl) (hgd : o.guard = none := by rfl) (hN : o.dst = none := by rfl) (hrun : (∀ i, W.frozen? ⟨g, i, none⟩ = false) -> (execOp a.eval o).run P W = .ok .skip (W.setCells g i ys) := by (intro f_; first | (go_simp; done) | (go_simp; rfl))) (hl : Nat.ble (i + ys.length) cs.size = true := by rfl) (e : (over cs.toList i ys).toArray = cs'.toArray := by rfl) (hT : fs.all (fun f => !f.T.contains q) = true := by rfl) (h : ∀ w', Hid (Pk w w' (bs.set k ⟨g, q, cs'.toArray⟩) fs) -> wpList P ops Q rest a w') : wpList P ops Q (o :: rest) a W :=
 sv t p g i ys ho hgd hN (hrun (H.out.froz k hk)) (fun w' hw => h w' (hid (H.out.put k hk hw hl e hT)))
theorem shs (H : Hid (Pk w W bs fs)) (k t p g : Nat) (ys : List Value) (hk : bs[k]? = some ⟨g, q, cs⟩ := by rfl) (ho : o.op = .store t (.tmp p) v := by rfl) (hgd : Region.wanted o (yielded ops a.tmps) = true := by rfl) (hN : o.dst = none := by rfl) (hrun : (∀ i, W.frozen? ⟨g, i, none⟩ = false) -> (execOp a.eval o).run P W = .ok .skip (W.setCells g 0 ys) := by (intro f_; first | (go_simp; done) | (go_simp; rfl))) (hl : ys.length = cs.size := by rfl) (hT : fs.all (fun f => !f.T.contains q) = true := by rfl) (h : ∀ w', Hid (Pk w w' (bs.set k ⟨g, q, ys.toArray⟩) fs) -> Kc a w') : if Region.wanted o (yielded ops a.tmps) = true then Oper.wp P o a W Kc Q else Kc (a.put none undef) W :=
 svs t p g 0 ys ho hgd hN (hrun (H.out.froz k hk)) (fun w' hw => h w' (hid (H.out.putw k hk hw hl hT)))
theorem sps (H : Hid (Pk w W bs fs)) (k t p g : Nat) (i : Nat) (ys : List Value) (cs' : List Value) (hk : bs[k]? = some ⟨g, q, cs⟩ := by rfl) (ho : o.op = .store t (.tmp p) v := by rfl) (hgd : Region.wanted o (yielded ops a.tmps) = true := by rfl) (hN : o.dst = none := by rfl) (hrun : (∀ i, W.frozen? ⟨g, i, none⟩ = false) -> (execOp a.eval o).run P W = .ok .skip (W.setCells g i ys) := by (intro f_; first | (go_simp; done) | (go_simp; rfl))) (hl : Nat.ble (i + ys.length) cs.size = true := by rfl) (e : (over cs.toList i ys).toArray = cs'.toArray := by rfl) (hT : fs.all (fun f => !f.T.contains q) = true := by rfl) (h : ∀ w', Hid (Pk w w' (bs.set k ⟨g, q, cs'.toArray⟩) fs) -> Kc a w') : if Region.wanted o (yielded ops a.tmps) = true then Oper.wp P o a W Kc Q else Kc (a.put none undef) W :=
 svs t p g i ys ho hgd hN (hrun (H.out.froz k hk)) (fun w' hw => h w' (hid (H.out.put k hk hw hl e hT)))
theorem sn (H : Hid (Pk w W bs fs)) (k t p g : Nat) (ys : List Value) (hk : bs[k]? = some ⟨g, q, ys.toArray⟩ := by rfl) (ho : o.op = .store t (.tmp p) v := by rfl) (hgd : o.guard = none := by rfl) (hN : o.dst = none := by rfl) (hrun : (∀ i, W.frozen? ⟨g, i, none⟩ = false) -> (execOp a.eval o).run P W = .ok .skip (W.setCells g 0 ys) := by (intro f_; first | (go_simp; done) | (go_simp; rfl))) (h : wpList P ops Q rest a W) : wpList P ops Q (o :: rest) a W :=
 sv t p g 0 ys ho hgd hN (hrun (H.out.froz k hk)) (fun w' hw => by rw [kO_ (H.out.at_ k hk) ys 0 (fun j hj => by simp)] at hw; subst hw; exact h)
theorem sns (H : Hid (Pk w W bs fs)) (k t p g : Nat) (ys : List Value) (hk : bs[k]? = some ⟨g, q, ys.toArray⟩ := by rfl) (ho : o.op = .store t (.tmp p) v := by rfl) (hgd : Region.wanted o (yielded ops a.tmps) = true := by rfl) (hN : o.dst = none := by rfl) (hrun : (∀ i, W.frozen? ⟨g, i, none⟩ = false) -> (execOp a.eval o).run P W = .ok .skip (W.setCells g 0 ys) := by (intro f_; first | (go_simp; done) | (go_simp; rfl))) (h : Kc a W) : if Region.wanted o (yielded ops a.tmps) = true then Oper.wp P o a W Kc Q else Kc (a.put none undef) W :=
 svs t p g 0 ys ho hgd hN (hrun (H.out.froz k hk)) (fun w' hw => by rw [kO_ (H.out.at_ k hk) ys 0 (fun j hj => by simp)] at hw; subst hw; exact h)
end
end Go.Proofs.Ytgckcaoncjhgbaa
namespace Go.Proofs.Ytgckcaoncjhgbaa
theorem Pk.refs {w W : World} {bs : List Blk} {fs fs' : List Fct} (h : Pk w W bs fs) (h2 : ∀ f ∈ fs', f.P W) : Pk w W bs fs' := ⟨h.below, h.blk, h.ne, h2⟩
end Go.Proofs.Ytgckcaoncjhgbaa
