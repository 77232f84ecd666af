/- What a walk knows, in one piece: the call's own blocks, told apart, and facts on rows that stay. No condition. -/
import Derived.Test.YtgckcaoncjhgbaaGwWords
namespace Go.Proofs.Ytgckcaoncjhgbaa
open Go.RowKit Go.Proofs.Ytgckcaoncjhgbaa.PL Go.Proofs.YtgckcaoncjhgbaaW.PrintWords Go.Proofs.YtgckcaoncjhgbaaW.PrintLast
set_option linter.unusedVariables false
theorem strOf_size (xs : List Int) : (strOfNums xs).size = xs.length := by simp [strOfNums, ByteArray.size]
/-- A block: where, its type, its cells. -/
structure Blk where
  g : Nat
  t : TypeId
  cs : Array Value
/-- A fact that stays while no block of the types T is written. -/
structure Fct where
  P : World → Prop
  T : List TypeId
  below : ∀ {w w' : World}, Below w.heap.size w w' → P w → P w'
  set : ∀ {w w' : World} {g i t : Nat} {ys : List Value} {cs : Array Value}, w' = w.setCells g i ys → w.heap[g]? = some (.cells cs t (0, 0)) → T.contains t = false → P w → P w'
theorem not_mem_of {T : List Nat} {t : Nat} (h : T.contains t = false) : ∀ q, q ∈ T → q ≠ t := by
  intro q hq e
  subst e
  simp [hq] at h
def RowF {α : Type} (d : Kd α) (e base : Nat) (v : Value) (xs : List α) : Fct where
  P := fun W => d.R e W base (fun _ => True) v xs
  T := e :: d.E
  below := fun hb h => Kd.R_below h hb
  set := fun hw hb ht h => st_R hw h hb (not_mem_of ht)
def BytF (v : Value) (l : List Int) : Fct where
  P := fun W => BR W v l
  T := [5]
  below := fun hb h => BR_below h hb
  set := fun hw hb ht h => BR_st hw h hb (fun e => not_mem_of ht 5 (by simp) e.symm)
structure Pk (w W : World) (bs : List Blk) (fs : List Fct) : Prop where
  below : Below w.heap.size w W
  blk : ∀ b ∈ bs, W.heap[b.g]? = some (.cells b.cs b.t (0, 0)) ∧ w.heap.size ≤ b.g
  ne : bs.Pairwise (fun a b => a.g ≠ b.g)
  fct : ∀ f ∈ fs, f.P W
namespace Pk
variable {w W W' : World} {bs : List Blk} {fs : List Fct} {g t : Nat} {cs : Array Value}
theorem start (w : World) : Pk w w [] [] := ⟨Below.refl _ _, by simp, List.Pairwise.nil, by simp⟩
theorem called (h : Pk w W bs fs) (hb : Below W.heap.size W W') : Pk w W' bs fs :=
  ⟨below_step h.below hb, fun b hm => ⟨blk_below (h.blk b hm).1 hb, (h.blk b hm).2⟩, h.ne, fun f hf => f.below hb (h.fct f hf)⟩
theorem drew (h : Pk w W bs fs) : Pk w W.drew bs fs := h.called (below_drew1 (Below.refl _ _))
theorem made (h : Pk w W bs fs) (hx : W'.heap[g]? = some (.cells cs t (0, 0))) (hb : Below W.heap.size W W') (hg : W.heap.size ≤ g) : Pk w W' (⟨g, t, cs⟩ :: bs) fs := by
  have h2 := h.called hb
  refine ⟨h2.below, fun b hm => ?_, List.pairwise_cons.2 ⟨fun b hm => ?_, h.ne⟩, h2.fct⟩
  · rcases List.mem_cons.1 hm with rfl | hm
    · exact ⟨hx, Nat.le_trans h.below.size hg⟩
    · exact h2.blk b hm
  · have := blk_lt (h.blk b hm).1
    show g ≠ b.g
    omega
/-- Another block of one's own, told apart from the rest. -/
theorem more (h : Pk w W bs fs) (hx : W.heap[g]? = some (.cells cs t (0, 0))) (hg : w.heap.size ≤ g) (hn : ∀ b ∈ bs, g ≠ b.g) : Pk w W (⟨g, t, cs⟩ :: bs) fs :=
  ⟨h.below, fun b hm => by
    rcases List.mem_cons.1 hm with rfl | hm
    · exact ⟨hx, hg⟩
    · exact h.blk b hm, List.pairwise_cons.2 ⟨fun b hm => hn b hm, h.ne⟩, h.fct⟩
theorem row (h : Pk w W bs fs) (f : Fct) (hf : f.P W) : Pk w W bs (f :: fs) :=
  ⟨h.below, h.blk, h.ne, fun q hq => by rcases List.mem_cons.1 hq with rfl | hq; exact hf; exact h.fct q hq⟩
theorem at_ (h : Pk w W bs fs) (k : Nat) (hk : bs[k]? = some ⟨g, t, cs⟩) : W.heap[g]? = some (.cells cs t (0, 0)) := (h.blk _ (List.mem_of_getElem? hk)).1
theorem le (h : Pk w W bs fs) (k : Nat) (hk : bs[k]? = some ⟨g, t, cs⟩) : w.heap.size ≤ g := (h.blk _ (List.mem_of_getElem? hk)).2
theorem cell (h : Pk w W bs fs) (k : Nat) (hk : bs[k]? = some ⟨g, t, cs⟩) : ∀ i, W.cell? ⟨g, i, none⟩ = cs[i]? := blk_cell (h.at_ k hk)
theorem froz (h : Pk w W bs fs) (k : Nat) (hk : bs[k]? = some ⟨g, t, cs⟩) : ∀ i, W.frozen? ⟨g, i, none⟩ = false := blk_frozen (h.at_ k hk)
theorem fact (h : Pk w W bs fs) (k : Nat) {f : Fct} (hk : fs[k]? = some f) : f.P W := h.fct f (List.mem_of_getElem? hk)
theorem mem_set_imp {bs : List Blk} {k : Nat} {b c x : Blk} (hp : bs.Pairwise (fun a b => a.g ≠ b.g)) (hk : bs[k]? = some b) (hx : c ∈ bs.set k x) : c = x ∨ (c ∈ bs ∧ c.g ≠ b.g) := by
  rw [List.mem_iff_getElem?] at hx
  obtain ⟨j, hj⟩ := hx
  by_cases hjk : j = k
  · subst hjk
    have hlt : j < bs.length := (List.getElem?_eq_some_iff.1 hk).1
    rw [List.getElem?_set_self hlt] at hj
    exact .inl (Option.some.inj hj).symm
  · rw [List.getElem?_set_ne (Ne.symm hjk)] at hj
    refine .inr ⟨List.mem_of_getElem? hj, ?_⟩
    obtain ⟨l1, e1⟩ := List.getElem?_eq_some_iff.1 hj
    obtain ⟨l2, e2⟩ := List.getElem?_eq_some_iff.1 hk
    rcases Nat.lt_or_gt_of_ne hjk with h | h
    · have := List.pairwise_iff_getElem.1 hp j k l1 l2 h
      rw [e1, e2] at this; exact this
    · have := List.pairwise_iff_getElem.1 hp k j l2 l1 h
      rw [e1, e2] at this; exact fun e => this e.symm
theorem ne_set {bs : List Blk} {k : Nat} {b x : Blk} (hp : bs.Pairwise (fun a b => a.g ≠ b.g)) (hk : bs[k]? = some b) (hx : x.g = b.g) : (bs.set k x).Pairwise (fun a b => a.g ≠ b.g) := by
  have e : (bs.set k x).map (·.g) = bs.map (·.g) := by
    rw [List.map_set, hx]
    apply List.ext_getElem?
    intro j
    by_cases hjk : k = j
    · subst hjk
      have hlt : k < bs.length := (List.getElem?_eq_some_iff.1 hk).1
      rw [List.getElem?_set_self (by simpa using hlt), List.getElem?_map, hk]; rfl
    · rw [List.getElem?_set_ne hjk]
  have h1 : (bs.map (·.g)).Pairwise (· ≠ ·) := by rw [List.pairwise_map]; exact hp
  rw [← e, List.pairwise_map] at h1
  exact h1
/-- A store into block k, from cell i on: the facts stay, if none lies in blocks of its type. -/
theorem put (h : Pk w W bs fs) (k : Nat) {i : Nat} {ys : List Value} {cs' : Array Value} (hk : bs[k]? = some ⟨g, t, cs⟩) (hw : W' = W.setCells g i ys) (hl : Nat.ble (i + ys.length) cs.size = true) (e : (over cs.toList i ys).toArray = cs') (hT : fs.all (fun f => !f.T.contains t) = true) : Pk w W' (bs.set k ⟨g, t, cs'⟩) fs := by
  have hb := h.at_ k hk
  refine ⟨st_B hw h.below (h.le k hk), fun c hc => ?_, ne_set h.ne hk rfl, fun f hf => f.set hw hb (by simpa using List.all_eq_true.1 hT f hf) (h.fct f hf)⟩
  rcases mem_set_imp h.ne hk hc with rfl | ⟨hm, hne⟩
  · exact ⟨st_put hw hb hl e, h.le k hk⟩
  · exact ⟨st_far hw (h.blk c hm).1 hne, (h.blk c hm).2⟩
/-- A store into an own row of scalars, element j. -/
theorem putE {α : Type} {enc : α → Value} {h1 : ∀ x, (enc x).oneCell' = true} {e n cap : Nat} {xs : List α} (h : Pk w W bs fs) (k : Nat) {j : Nat} {x : α} (hk : fs[k]? = some (RowF (Kd.scalar enc h1) e w.heap.size (.slice (some ⟨g, 0, none⟩) n cap) xs)) (hw : W' = W.setCells g j [enc x]) (hB : bs.all (fun b => !(b.t == e)) = true) (hT : (fs.eraseIdx k).all (fun f => !f.T.contains e) = true) :
    Pk w W' bs (fs.set k (RowF (Kd.scalar enc h1) e w.heap.size (.slice (some ⟨g, 0, none⟩) n cap) (xs.set j x))) := by
  have hr : (Kd.scalar enc h1).R e W w.heap.size (fun _ => True) (.slice (some ⟨g, 0, none⟩) n cap) xs := h.fact k hk
  obtain ⟨cells, hc⟩ := R_blk hr
  refine ⟨st_BR hw h.below hr, fun c hm => ⟨?_, (h.blk c hm).2⟩, h.ne, fun f hf => ?_⟩
  · have := List.all_eq_true.1 hB c hm
    exact st_blkR hw (h.blk c hm).1 hr (fun e => by rw [e] at this; simp at this)
  · rw [List.mem_iff_getElem?] at hf
    obtain ⟨q, hq⟩ := hf
    by_cases hqk : q = k
    · subst hqk
      have hlt : q < fs.length := (List.getElem?_eq_some_iff.1 hk).1
      rw [List.getElem?_set_self hlt] at hq
      obtain rfl := (Option.some.inj hq).symm
      exact st_elemN hw hr
    · rw [List.getElem?_set_ne (Ne.symm hqk)] at hq
      have hm : f ∈ fs.eraseIdx k := by
        rw [List.mem_eraseIdx_iff_getElem?]
        exact ⟨q, hqk, hq⟩
      exact f.set hw hc (by simpa using List.all_eq_true.1 hT f hm) (h.fct f (List.mem_of_getElem? hq))
/-- A store of a whole block. -/
theorem putw (h : Pk w W bs fs) (k : Nat) {ys : List Value} (hk : bs[k]? = some ⟨g, t, cs⟩) (hw : W' = W.setCells g 0 ys) (hl : ys.length = cs.size) (hT : fs.all (fun f => !f.T.contains t) = true) : Pk w W' (bs.set k ⟨g, t, ys.toArray⟩) fs := by
  refine h.put k hk hw ?_ ?_ hT
  · rw [hl, Nat.zero_add]; simp
  · have : over cs.toList 0 ys = ys := by
      have hd : cs.toList.drop ys.length = [] := List.drop_eq_nil_of_le (by simp [hl])
      cases hcs : cs.toList with
      | nil => rw [hcs] at hd; simp [over]
      | cons c l => rw [hcs] at hd; simp only [over]; rw [hd, List.append_nil]
    rw [this]
theorem tail {b : Blk} (h : Pk w W (b :: bs) fs) : Pk w W bs fs := ⟨h.below, fun c hc => h.blk c (List.mem_cons_of_mem _ hc), (List.pairwise_cons.1 h.ne).2, h.fct⟩
theorem dist (h : Pk w W bs fs) (k j : Nat) {g' t' : Nat} {cs' : Array Value} (hk : bs[k]? = some ⟨g, t, cs⟩) (hj : bs[j]? = some ⟨g', t', cs'⟩) (hn : k < j) : g ≠ g' := by
  obtain ⟨l1, e1⟩ := List.getElem?_eq_some_iff.1 hk
  obtain ⟨l2, e2⟩ := List.getElem?_eq_some_iff.1 hj
  have := List.pairwise_iff_getElem.1 h.ne k j l1 l2 hn
  rw [e1, e2] at this; exact this
theorem old (h : Pk w W bs fs) (hg : W.heap.size ≤ g) : ∀ b ∈ bs, g ≠ b.g := fun b hm => by
  have := blk_lt (h.blk b hm).1
  omega
theorem join (h : Pk w W bs fs) (hb : Below W.heap.size W W') (hx : W'.heap[g]? = some (.cells cs t (0, 0))) (hg : W.heap.size ≤ g) : Pk w W' (⟨g, t, cs⟩ :: bs) fs :=
  (h.called hb).more hx (Nat.le_trans h.below.size hg) (h.old hg)
theorem join2 {g' t' : Nat} {cs' : Array Value} (h : Pk w W bs fs) (hb : Below W.heap.size W W') (hx : W'.heap[g]? = some (.cells cs t (0, 0))) (hg : W.heap.size ≤ g) (hx' : W'.heap[g']? = some (.cells cs' t' (0, 0))) (hg' : W.heap.size ≤ g') (hn : g ≠ g') : Pk w W' (⟨g, t, cs⟩ :: ⟨g', t', cs'⟩ :: bs) fs :=
  (h.join hb hx' hg').more hx (Nat.le_trans h.below.size hg) (fun b hm => by
    rcases List.mem_cons.1 hm with rfl | hm
    · exact hn
    · exact h.old hg b hm)
end Pk
section
variable {P : Program} {ops : Array Oper} {rest : List Oper} {o : Oper} {a : Act} {Q : Exit → Act → World → Prop} {Kc : Act → World → Prop} {W : World}
/-- A block made: an arm, and a step of a drawn region. -/
theorem bx (N : Nat) (cs : Array Value) (t : Nat) (hd : o.dst = some N := by rfl) (hgd : o.guard = none := by rfl)
    (hrun : (execOp a.eval o).run P W = .ok (.value (.pointer (some ⟨W.heap.size, 0, none⟩))) (W.alloc (.cells cs t (0, 0))) := by first | (go_simp; done) | (go_simp; rfl))
    (h : ∀ g, W.heap.size ≤ g → ∀ w1, w1.heap[g]? = some (.cells cs t (0, 0)) → Below W.heap.size W w1 → wpList P ops Q rest (a.put o.dst (.pointer (some ⟨g, 0, none⟩))) w1) : wpList P ops Q (o :: rest) a W :=
  box_event hgd hd hrun (fun g hg => h g (Nat.le_of_eq hg.symm))
theorem bxs (N : Nat) (cs : Array Value) (t : Nat) (hd : o.dst = some N := by rfl) (hw : Region.wanted o (yielded ops a.tmps) = true := by rfl)
    (hrun : (execOp a.eval o).run P W = .ok (.value (.pointer (some ⟨W.heap.size, 0, none⟩))) (W.alloc (.cells cs t (0, 0))) := by first | (go_simp; done) | (go_simp; rfl))
    (h : ∀ g, W.heap.size ≤ g → ∀ w1, w1.heap[g]? = some (.cells cs t (0, 0)) → Below W.heap.size W w1 → Kc (a.put o.dst (.pointer (some ⟨g, 0, none⟩))) w1) : if Region.wanted o (yielded ops a.tmps) = true then Oper.wp P o a W Kc Q else Kc (a.put o.dst undef) W :=
  box_step hw hd hrun (fun g hg => h g (Nat.le_of_eq hg.symm))
/-- A store. -/
theorem sv (t p : Nat) (g i : Nat) (ys : List Value) {v : Operand} (ho : o.op = .store t (.tmp p) v := by rfl) (hgd : o.guard = none := by rfl) (hN : o.dst = none := by rfl)
    (hrun : (execOp a.eval o).run P W = .ok .skip (W.setCells g i ys) := by first | (go_simp; done) | (go_simp; rfl)) (h : ∀ w', w' = W.setCells g i ys → wpList P ops Q rest a w') : wpList P ops Q (o :: rest) a W := store_event hgd ho hN hrun h
theorem svs (t p : Nat) (g i : Nat) (ys : List Value) {v : Operand} (ho : o.op = .store t (.tmp p) v := by rfl) (hw : Region.wanted o (yielded ops a.tmps) = true := by rfl) (hN : o.dst = none := by rfl)
    (hrun : (execOp a.eval o).run P W = .ok .skip (W.setCells g i ys) := by first | (go_simp; done) | (go_simp; rfl)) (h : ∀ w', w' = W.setCells g i ys → Kc a w') : if Region.wanted o (yielded ops a.tmps) = true then Oper.wp P o a W Kc Q else Kc (a.put none undef) W := store_step hw ho hN hrun h
/-- One operation alone may come up. -/
theorem on {md : Region.Mode} {S : World → Prop} {ds : List Nat} {fuel : Nat} {l : Array Bool} {w : World} {oi : Oper} {T : Bool × List (List Nat × List Nat)} (i : Nat) (N : Option Tmp) (l' : Array Bool) (HT : Aside0 (rtab md ops = T)) (hi : ops[i]? = some oi := by rfl) (hN : oi.dst = N := by rfl) (hc : (readyT T.2 l.toList == [i] && l.toList.set i true == l'.toList) = true := by kernel_rfl) (hd : i ∉ ds := by decide)
    (h : ∀ K : Act → World → Prop, Shut (∀ a' w', S w' → (S w' → wpAnyLast P md ops Q S ds fuel l' a' w') → K a' w') → if Region.wanted oi (yielded ops a.tmps) = true then Oper.wp P oi a w K Q else K (a.put N undef) w) :
    wpAnyLast P md ops Q S ds (fuel + 1) l a w := one_ l' hi hN (one_of HT.out hc) hd h
theorem onl {md : Region.Mode} {S : World → Prop} {ds : List Nat} {fuel : Nat} {l : Array Bool} {w : World} {oi : Oper} {T : Bool × List (List Nat × List Nat)} (i : Nat) (N : Option Tmp) (l' : Array Bool) (HT : Aside0 (rtab md ops = T)) (hi : ops[i]? = some oi := by rfl) (hN : oi.dst = N := by rfl) (hc : (readyT T.2 l.toList == [i] && l.toList.set i true == l'.toList) = true := by kernel_rfl) (hd : i ∈ ds := by decide)
    (h : ∀ K : Act → World → Prop, Shut (∀ a' w', wpAnyLast P md ops Q S ds fuel l' a' w' → K a' w') → if Region.wanted oi (yielded ops a.tmps) = true then Oper.wp P oi a w K Q else K (a.put N undef) w) :
    wpAnyLast P md ops Q S ds (fuel + 1) l a w := last_ l' hi hN (one_of HT.out hc) hd h
end
end Go.Proofs.Ytgckcaoncjhgbaa
