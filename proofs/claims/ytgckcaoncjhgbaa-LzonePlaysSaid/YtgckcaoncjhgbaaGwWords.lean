/- Words for walks printed by gen/gw.py: stores, rows that came or were made, elements of rows. No condition. -/
import Derived.WalkKit
import Derived.WalkSpells
import Derived.WalkLawsBesides
import Derived.Lib.Hide
import Derived.Test.YtgckcaoncjhgbaaMdWords
namespace Go.Proofs.Ytgckcaoncjhgbaa
open Go.RowKit Go.Proofs.Ytgckcaoncjhgbaa.PL Go.Proofs.YtgckcaoncjhgbaaW.PrintWords Go.Proofs.YtgckcaoncjhgbaaW.PrintLast
set_option linter.unusedVariables false
section
variable {P : Program} {ops : Array Oper} {o : Oper} {a : Act} {Q : Exit → Act → World → Prop} {Kc : Act → World → Prop} {W w1 : World}
/-- A store in a drawn region. -/
theorem store_step (hw : Region.wanted o (yielded ops a.tmps) = true) {t : TypeId} {p : Tmp} {v : Operand} (_ho : o.op = .store t (.tmp p) v) (hN : o.dst = none)
    (hrun : (execOp a.eval o).run P W = .ok .skip w1) (h : ∀ w', w' = w1 → Kc a w') : if Region.wanted o (yielded ops a.tmps) = true then Oper.wp P o a W Kc Q else Kc (a.put none undef) W :=
  skip_ hw hN hrun (h _ rfl)
end
section
variable {P : Program} {md : Region.Mode} {ops : Array Oper} {Q : Exit → Act → World → Prop} {S : World → Prop} {ds : List Nat} {fuel : Nat} {l : Array Bool} {a a' : Act} {w : World} {oi : Oper} {v : Value} {T : Bool × List (List Nat × List Nat)} {B : List Nat}
/-- One that reads what S holds, S told for all cells of blocks at once. -/
theorem tw (i N : Nat) (l' : Array Bool) (HT : Aside0 (rtab md ops = T)) (HW : Aside0 (waitsOk T.2 B = true)) (hS : S w) (hc : takeW T B ds l.toList l'.toList i = true := by kernel_rfl) (hi : ops[i]? = some oi := by rfl) (hN : oi.dst = some N := by rfl) (hQ : ∀ c a w, Q (.panic c) (a.put oi.dst v) w → Q (.panic c) a w := by exact fun _ _ _ h => h) (hw : Region.wanted oi (yielded ops a.tmps) = true := by rfl)
    (hr : ∀ w', S w' → (execOp a.eval oi).run P w' = .ok (.value v) w' := by (intro w' hs; (try dsimp only at hs); go_simp; with_reducible rfl)) (ha : a.put (some N) v = a' := by (simp only [pq]; rfl)) (h : wpAnyLast P md ops Q S ds fuel l' a' w) : wpAnyLast P md ops Q S ds (fuel + 1) l a w :=
  tu i N l' HT HW hS hc hi hN hQ hw hr ha h
end
section
variable {w w' W w1 : World} {g g' : Nat} {t : TypeId}
theorem grown_below (h : W.grownBy w1 none) : Below W.heap.size W w1 := ⟨h.os, h.tape, h.output, h.size, fun i hi => h.block i hi (by simp)⟩
section
variable {α β : Type} {d : Kd α} {d2 : Kd β} {e e2 base base2 i : Nat} {ok ok2 : Nat → Prop} {v v2 : Value} {xs : List α} {xs2 : List β} {ys : List Value} {n cap : Nat}
theorem R_cellsF : ∀ (ys : List Value) (i : Nat) {w : World}, d.R e w base ok v xs → (∀ k, ok k → k ≠ g) → d.R e (w.setCells g i ys) base ok v xs
  | [], _, _, h, _ => h
  | y :: l, i, _, h, hg => R_cellsF l (i + 1) (Kd.R_far (p := ⟨g, i, none⟩) h hg y) hg
theorem st_RF (hw : w' = w.setCells g i ys) (h : d.R e w base ok v xs) (hg : ∀ k, ok k → k ≠ g) : d.R e w' base ok v xs := by
  subst hw; exact R_cellsF ys i h hg
theorem R_blk (h : d.R e w base ok (.slice (some ⟨g, 0, none⟩) n cap) xs) : ∃ cells, w.heap[g]? = some (.cells cells e (0, 0)) := Kd.R_typed h g (by simp [Value.ownBlock])
/-- Behind a store into a row: the other blocks, the other rows, what lies below. -/
theorem st_blkR {cs : Array Value} (hw : w' = w.setCells g i ys) (hX : w.heap[g']? = some (.cells cs t (0, 0))) (h : d.R e w base ok (.slice (some ⟨g, 0, none⟩) n cap) xs) (ne : e ≠ t) : w'.heap[g']? = some (.cells cs t (0, 0)) := by
  obtain ⟨cells, hc⟩ := R_blk h
  exact st_far hw hX (blk_ne hX hc (Ne.symm ne))
theorem st_RR (hw : w' = w.setCells g i ys) (h2 : d2.R e2 w base2 ok2 v2 xs2) (h : d.R e w base ok (.slice (some ⟨g, 0, none⟩) n cap) xs) (ht : ∀ q, q ∈ e2 :: d2.E → q ≠ e) : d2.R e2 w' base2 ok2 v2 xs2 := by
  obtain ⟨cells, hc⟩ := R_blk h
  exact st_R hw h2 hc ht
theorem st_BR {w0 : World} (hw : w' = w.setCells g i ys) (hB : Below w0.heap.size w0 w) (h : d.R e w w0.heap.size ok (.slice (some ⟨g, 0, none⟩) n cap) xs) : Below w0.heap.size w0 w' :=
  st_B hw hB (Kd.R_base h g (by simp [Value.ownBlock]))
end
section
variable {α : Type} {enc : α → Value} {h1 : ∀ x, (enc x).oneCell' = true} {e base n cap : Nat} {ok : Nat → Prop} {xs : List α}
theorem elem_at_of (d : α) (h : (Kd.scalar enc h1).R e w base ok (.slice (some ⟨g, 0, none⟩) n cap) xs) (i : Int) (h0 : 0 ≤ i) (hi : i < n) : w.cell? ⟨g, i.toNat, none⟩ = some (enc (rdOf d xs i)) ∧ w.frozen? ⟨g, i.toNat, none⟩ = false := Kd.R_celln d h i h0 hi
theorem st_elem {i : Int} {x : α} (hw : w' = w.setCells g i.toNat [enc x]) (h : (Kd.scalar enc h1).R e w base ok (.slice (some ⟨g, 0, none⟩) n cap) xs) : (Kd.scalar enc h1).R e w' base ok (.slice (some ⟨g, 0, none⟩) n cap) (xs.set i.toNat x) := by
  subst hw; exact Kd.R_putn h i x
/-- An element of a row of scalars that came in. -/
theorem C_el (d : α) {A : Addr} {m : Nat} (h : (Kd.scalar enc h1).C w (some A) m xs) (i : Int) (h0 : 0 ≤ i) (hi : i < m) : w.cell? (A.add i.toNat) = some (enc (rdOf d xs i)) := by
  obtain ⟨ad, c, e, _, hk, hc⟩ := Kd.C_get h d i h0 hi
  injection e with e
  subst e
  have := hc 0 (enc (xs.getD i.toNat d)) (by have h2 : c = [enc (xs.getD i.toNat d)] := hk; rw [h2]; rfl)
  have e2 : (Kd.scalar enc h1).sz = 1 := rfl
  rw [e2, Nat.mul_one, Nat.add_zero] at this
  exact this
theorem C_some {A : Option Addr} {m : Nat} (h : (Kd.scalar enc h1).C w A m xs) (hp : 0 < m) : ∃ ad, A = some ad := by
  obtain ⟨ad, e, _⟩ := h.2.2 hp
  exact ⟨ad, e⟩
end
section
variable {α : Type} {k : Kd α} {e base base' : Nat} {v v0 : Value} {l l0 : List α}
/-- A slice value that reads as a list. -/
def SlC (k : Kd α) (w : World) (v : Value) (l : List α) : Prop := ∃ (A : Option Addr) (c : Nat), v = .slice A l.length c ∧ l.length ≤ c ∧ k.C w A l.length l
theorem SlC_below (h : SlC k w v l) (hb : Below w.heap.size w w') : SlC k w' v l := by
  obtain ⟨A, c, e, hc, h⟩ := h; exact ⟨A, c, e, hc, Kd.C_below h hb⟩
theorem SlC_R {ok : Nat → Prop} (h : k.R e w base ok v l) : SlC k w v l := Kd.R_reads h
/-- A row that is the one that came in, or one of the call's own. -/
def RowD (k : Kd α) (e base : Nat) (w : World) (v0 : Value) (l0 : List α) (v : Value) (l : List α) : Prop := (v = v0 ∧ l = l0) ∨ k.R e w base (fun _ => True) v l
theorem RowD_slc (h : RowD k e base w v0 l0 v l) (h0 : SlC k w v0 l0) : SlC k w v l := by
  rcases h with ⟨rfl, rfl⟩ | h
  · exact h0
  · exact SlC_R h
theorem RowD_R (h : RowD k e base w v0 l0 v l) (h0 : k.R e w base' (fun _ => True) v0 l0) (hb : base' ≤ base) : k.R e w base' (fun _ => True) v l := by
  rcases h with ⟨rfl, rfl⟩ | h
  · exact h0
  · exact Kd.R_lower h hb
theorem RowD_same : RowD k e base w v l v l := .inl ⟨rfl, rfl⟩
theorem RowD_own (h : k.R e w base (fun _ => True) v l) : RowD k e base w v0 l0 v l := .inr h
end
end
/-- Element i of an own row of texts, of numbers. -/
theorem elem_at {α : Type} [Inhabited α] {enc : α → Value} {h1 : ∀ x, (enc x).oneCell' = true} {w : World} {g e base n cap : Nat} {ok : Nat → Prop} {xs : List α} (h : (Kd.scalar enc h1).R e w base ok (.slice (some ⟨g, 0, none⟩) n cap) xs) (i : Int) (h0 : 0 ≤ i) (hi : i < n) : w.cell? ⟨g, i.toNat, none⟩ = some (enc (rdOf default xs i)) ∧ w.frozen? ⟨g, i.toNat, none⟩ = false := elem_at_of default h i h0 hi
theorem elem_atN {α : Type} [Inhabited α] {enc : α → Value} {h1 : ∀ x, (enc x).oneCell' = true} {w : World} {g e base n cap : Nat} {ok : Nat → Prop} {xs : List α} (h : (Kd.scalar enc h1).R e w base ok (.slice (some ⟨g, 0, none⟩) n cap) xs) (j : Nat) (hj : j < n) : w.cell? ⟨g, j, none⟩ = some (enc (rdOf default xs j)) ∧ w.frozen? ⟨g, j, none⟩ = false := elem_at_of default h (j : Int) (by omega) (by omega)
theorem st_elemN {α : Type} {enc : α → Value} {h1 : ∀ x, (enc x).oneCell' = true} {w w' : World} {g e base n cap : Nat} {ok : Nat → Prop} {xs : List α} {j : Nat} {x : α} (hw : w' = w.setCells g j [enc x]) (h : (Kd.scalar enc h1).R e w base ok (.slice (some ⟨g, 0, none⟩) n cap) xs) : (Kd.scalar enc h1).R e w' base ok (.slice (some ⟨g, 0, none⟩) n cap) (xs.set j x) := st_elem (i := (j : Int)) hw h
/-- The cells of zone j of a row that came in. -/
theorem zone_at {W : World} {ad : Addr} {n : Nat} {xs : List S59} (h : Kd.C k59 W (some ad) n xs) (j : Nat) (hj : j < n) : W.cell? (ad.add (j * 3)) = some (.int .i64 (rd_T59 xs j).f0) ∧ W.cell? ⟨(ad.add (j * 3)).block, (ad.add (j * 3)).off + 1, none⟩ = some (.int .i64 (rd_T59 xs j).f1) ∧ W.cell? ⟨(ad.add (j * 3)).block, (ad.add (j * 3)).off + 2, none⟩ = some (.int .i64 (rd_T59 xs j).f2) := by
  obtain ⟨ad', e, h0, h1, h2⟩ := at_T59 h (j : Int) (by omega) (by omega)
  cases e
  exact ⟨h0, h1, h2⟩
theorem zone_atI {W : World} {ad : Addr} {n : Nat} {xs : List S59} (h : Kd.C k59 W (some ad) n xs) (i : Int) (h0 : 0 ≤ i) (h1 : i < n) : W.cell? (ad.add (i.toNat * 3)) = some (.int .i64 (rd_T59 xs i).f0) ∧ W.cell? ⟨(ad.add (i.toNat * 3)).block, (ad.add (i.toNat * 3)).off + 1, none⟩ = some (.int .i64 (rd_T59 xs i).f1) ∧ W.cell? ⟨(ad.add (i.toNat * 3)).block, (ad.add (i.toNat * 3)).off + 2, none⟩ = some (.int .i64 (rd_T59 xs i).f2) := by
  obtain ⟨ad', e, h0, h1, h2⟩ := at_T59 h i h0 h1
  cases e
  exact ⟨h0, h1, h2⟩
theorem zone_some {W : World} {A : Option Addr} {n : Nat} {xs : List S59} (h : Kd.C k59 W A n xs) (hp : 0 < n) : ∃ ad, A = some ad := by
  obtain ⟨ad, e, _⟩ := h.2.2 hp
  exact ⟨ad, e⟩
/-- The first j of one list, the rest of another. -/
def mixL (ys xs : List Int) (j : Nat) : List Int := ys.take j ++ xs.drop j
theorem mixL_set {ys xs : List Int} {j : Nat} (h : j < ys.length) (hl : xs.length = ys.length) : (mixL ys xs j).set j (ys[j]) = mixL ys xs (j + 1) := by
  unfold mixL
  rw [List.set_append_right _ _ (by rw [List.length_take]; omega), List.length_take, Nat.min_eq_left (by omega), Nat.sub_self, List.take_succ_eq_append_getElem h, List.append_assoc, List.drop_eq_getElem_cons (by omega : j < xs.length)]
  rfl
theorem mixL_zero (ys xs : List Int) : mixL ys xs 0 = xs := by simp [mixL]
theorem mixL_all {ys xs : List Int} {n : Nat} (h : n = ys.length) (hl : xs.length = ys.length) : mixL ys xs n = ys := by
  subst h; simp [mixL, List.drop_eq_nil_of_le (Nat.le_of_eq hl)]
theorem rd_map {L : List S59} {j : Nat} (h : j < (L.map (·.f1)).length) : (rd_T59 L (j : Int)).f1 = (L.map (·.f1))[j] := by
  have h' : j < L.length := by simpa using h
  simp [rd_T59, List.getD_eq_getElem?_getD, List.getElem?_eq_getElem h']
/-- Bytes that a conversion has made, or none: read alone. -/
def BR (w : World) (v : Value) (l : List Int) : Prop := (v = .slice none 0 0 ∧ l = []) ∨ ∃ (g c : Nat) (cs : Array Value) (mk : Nat × Nat), v = .slice (some ⟨g, 0, none⟩) l.length c ∧ l.length ≤ c ∧ l.length ≤ 9223372036854775807 ∧ w.heap[g]? = some (.cells cs 5 mk) ∧ ∀ j, j < l.length → cs[j]? = some (.int .u8 (l.getD j 0))
section
variable {w w' : World} {v : Value} {l : List Int}
theorem BR_nil (w : World) : BR w (.slice none 0 0) [] := .inl ⟨rfl, rfl⟩
theorem BR_below (h : BR w v l) (hb : Below w.heap.size w w') : BR w' v l := by
  rcases h with h | ⟨g, c, cs, mk, e, hc, hm, hg, hj⟩
  · exact .inl h
  · exact .inr ⟨g, c, cs, mk, e, hc, hm, blk_below hg hb, hj⟩
theorem BR_drew (h : BR w v l) : BR w.drew v l := BR_below h (below_drew1 (Below.refl _ _))
theorem BR_st {g i : Nat} {t : TypeId} {ys : List Value} {cs : Array Value} (hw : w' = w.setCells g i ys) (h : BR w v l) (hb : w.heap[g]? = some (.cells cs t (0, 0))) (ht : t ≠ 5) : BR w' v l := by
  rcases h with h | ⟨g', c, cs', mk, e, hc, hm, hg, hj⟩
  · exact .inl h
  · refine .inr ⟨g', c, cs', mk, e, hc, hm, ?_, hj⟩
    subst hw
    refine (setCells_far ys i g' ?_).trans hg
    rintro rfl
    rw [hb] at hg
    injection hg with hg
    injection hg with _ hg _
    exact ht hg
theorem BR_stR {α : Type} {d : Kd α} {e base i g : Nat} {ok : Nat → Prop} {xs : List α} {ys : List Value} {n cap : Nat} (hw : w' = w.setCells g i ys) (h : BR w v l) (hr : d.R e w base ok (.slice (some ⟨g, 0, none⟩) n cap) xs) (ht : e ≠ 5) : BR w' v l := by
  obtain ⟨cells, hc⟩ := R_blk hr
  exact BR_st hw h hc ht
theorem BR_slc (h : BR w v l) : SlC (Kd.int .u8) w v l := by
  rcases h with ⟨rfl, rfl⟩ | ⟨g, c, cs, mk, rfl, hc, hm, hg, hj⟩
  · exact ⟨none, 0, rfl, Nat.le_refl _, Kd.C_nil _ _⟩
  · refine ⟨_, c, rfl, hc, Kd.C_of_reads (d := (0 : Int)) ⟨rfl, by omega, fun _ => ⟨_, rfl, fun j hj' => ?_⟩⟩⟩
    rw [add_plain]
    simp only [World.cell?, hg]
    rw [hj j hj']
    simp [List.getD_eq_getElem?_getD]
theorem BR_bytes (W : World) (s : ByteArray) (hs : s.size ≤ 9223372036854775807) (c : Nat) (hc : s.size ≤ c) : BR (Lib.bytesWorld W 5 s) (.slice (some ⟨W.heap.size, 0, none⟩) s.size c) (bytesOf s) := by
  refine .inr ⟨_, c, _, _, by rw [bytesOf_length], by rw [bytesOf_length]; exact hc, by rw [bytesOf_length]; exact hs, Lib.bytesWorld_at_new W _ s, fun j hj => ?_⟩
  rw [bytesOf_length] at hj
  have h := Lib.bytesWorld_cell W 5 s j hj
  simp only [World.cell?, Lib.bytesWorld_at_new] at h
  have h2 : j < s.data.toList.length := by rw [data_length]; exact hj
  have h3 : (Lib.bytesCells W 5 s)[j]? = some (.int .u8 (s.data.toList.getD j 0).toNat) := h
  rw [h3]
  simp [bytesOf, List.getD_eq_getElem?_getD, List.getElem?_eq_getElem h2]
end
end Go.Proofs.Ytgckcaoncjhgbaa
