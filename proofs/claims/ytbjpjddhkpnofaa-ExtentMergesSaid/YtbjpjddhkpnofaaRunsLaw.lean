/- extent.All: the runs of a range, as a list, one block more at a time; what a round of a loop over them keeps. -/
import Derived.Test.YtbjpjddhkpnofaaSeqR
import Derived.Test.YtbjpjddhkpnofaaPAx0
import Derived.Test.YtbjpjddhkpnofaaPAx17
import Derived.Test.YtbjpjddhkpnofaaPAx18
import Derived.Test.YtbjpjddhkpnofaaPAx2
import Derived.Test.YtbjpjddhkpnofaaPAx3
import Derived.Test.YtbjpjddhkpnofaaGeoLaw
namespace Go.Proofs.Ytbjpjddhkpnofaa
open Go.RowKit Go.Proofs.Ytbjpjddhkpnofaa.PA Go.Proofs.YtbjpjddhkpnofaaW.PrintWords Go.Proofs.YtbjpjddhkpnofaaW.PrintLast Go.Proofs.Ytbjpjddhkpnofaa.Geo
set_option linter.unusedVariables false
set_option linter.unusedSimpArgs false
-- conf_Size.calls geom_Of.calls
def mbP (m u lb : Int) : Int := memberP m (lb / ((m - 1) * u)) (lb % ((m - 1) * u) / u)
def phP (m u lb : Int) : Int := lb / ((m - 1) * u) * u + lb % u
/-- Does a block go on from a run? -/
def goesR (r : S27) (mb ph lb : Int) : Prop := 0 < r.f2 ∧ r.f0 = mb ∧ r.f1 + r.f2 = ph ∧ r.f3 + r.f2 = lb
instance (r : S27) (mb ph lb : Int) : Decidable (goesR r mb ph lb) := by unfold goesR; infer_instance
def endR (o : List S27) (r : S27) : List S27 := if 0 < r.f2 then o ++ [r] else o
/-- Behind n blocks from lb on: the runs that are whole, and the one under way. -/
def rs (m u lb : Int) : Nat → List S27 × S27
  | 0 => ([], ⟨0, 0, 0, 0⟩)
  | n + 1 => if goesR (rs m u lb n).2 (mbP m u (lb + n)) (phP m u (lb + n)) (lb + n) then ((rs m u lb n).1, ⟨(rs m u lb n).2.f0, (rs m u lb n).2.f1, (rs m u lb n).2.f2 + 1, (rs m u lb n).2.f3⟩)
    else (endR (rs m u lb n).1 (rs m u lb n).2, ⟨mbP m u (lb + n), phP m u (lb + n), 1, lb + n⟩)
def runsL (m u lb : Int) (n : Nat) : List S27 := endR (rs m u lb n).1 (rs m u lb n).2
/-- What extent.All gives, one by one. -/
def runsF (id m u b c z s me o a l : Int) (at1 n1 : Int) : List S27 := if checkC id m u b c z s me o a l = 0 ∧ 0 ≤ at1 ∧ 0 ≤ n1 ∧ at1 + n1 ≤ sizeC m u b c z s me o a l then runsL m u at1 n1.toNat else []
theorem endR_pre (o : List S27) (r : S27) : o <+: endR o r := by
  unfold endR; split
  · exact List.prefix_append _ _
  · exact List.prefix_refl _
theorem rs_pre (m u lb : Int) {i n : Nat} (h : i ≤ n) : (rs m u lb i).1 <+: (rs m u lb n).1 := by
  induction n with
  | zero => obtain rfl : i = 0 := by omega
            exact List.prefix_refl _
  | succ n ih =>
    by_cases h1 : i ≤ n
    · refine (ih h1).trans ?_
      rw [rs]; split
      · exact List.prefix_refl _
      · exact endR_pre _ _
    · obtain rfl : i = n + 1 := by omega
      exact List.prefix_refl _
theorem rs_pre_of (m u lb : Int) {i n : Nat} (h : i < n) (hg : ¬ goesR (rs m u lb i).2 (mbP m u (lb + i)) (phP m u (lb + i)) (lb + i)) : endR (rs m u lb i).1 (rs m u lb i).2 <+: runsL m u lb n := by
  have := rs_pre m u lb (show i + 1 ≤ n by omega)
  rw [rs, if_neg hg] at this
  exact this.trans (endR_pre _ _)
theorem runsL_len (m u lb : Int) (n : Nat) : (rs m u lb n).1.length + 1 ≤ n + 1 ∧ (runsL m u lb n).length ≤ n + 1 := by
  have h : (rs m u lb n).1.length ≤ n ∧ (0 < n → (endR (rs m u lb n).1 (rs m u lb n).2).length ≤ n) := by
    induction n with
    | zero => simp [rs]
    | succ n ih =>
      rw [rs]; split
      · rename_i hg
        refine ⟨by have := ih.1; simp; omega, fun _ => ?_⟩
        have h1 := (hg.1 : 0 < (rs m u lb n).2.f2)
        simp only [endR]; rw [if_pos (by omega)]; simp; omega
      · refine ⟨?_, fun _ => ?_⟩
        · show (endR _ _).length ≤ n + 1
          unfold endR; split
          · simp; omega
          · omega
        · simp only [endR]; rw [if_pos (by omega)]
          split
          · rename_i h2
            have : 0 < n := by
              rcases Nat.eq_zero_or_pos n with z | z
              · subst z; simp [rs] at h2
              · exact z
            have := ih.2 this; simp only [endR] at this; rw [if_pos h2] at this; simp at this ⊢; omega
          · simp; omega
  refine ⟨by omega, ?_⟩
  have := h.1
  unfold runsL endR; split
  · simp; omega
  · omega
/-- The numbers of the run under way are small. -/
theorem rs_bd {m u c S lb : Int} (g : Geo.Good m u c S ((m - 1) * u)) (h0 : 0 ≤ lb) (n : Nat) (h1 : lb + n ≤ S * ((m - 1) * u)) :
    0 ≤ (rs m u lb n).2.f2 ∧ (rs m u lb n).2.f2 ≤ n ∧ 0 ≤ (rs m u lb n).2.f1 ∧ (rs m u lb n).2.f1 ≤ 1000000 ∧ 0 ≤ (rs m u lb n).2.f3 ∧ (rs m u lb n).2.f3 ≤ lb + n := by
  induction n with
  | zero => simp [rs]; omega
  | succ n ih =>
    have ih' := ih (by push_cast at h1; omega)
    rw [rs]; split
    · push_cast; omega
    · have hb := place_bd g (lb := lb + n) (by omega) (by push_cast at h1; omega)
      have u1 := g.u1; have u2 := g.u2
      have q1 := hb.2.2.2.2.2.2.1; have q2 := hb.2.2.2.2.2.2.2.1; have q3 := hb.2.2.2.2.2.2.2.2.2.2.2.1; have q4 := hb.2.2.2.2.2.2.2.2.2.2.2.2.1
      clear hb ih ih' h1
      have e : phP m u (lb + n) = (lb + n) / ((m - 1) * u) * u + (lb + n) % u := rfl
      exact ⟨(by decide : (0 : Int) ≤ 1), (by push_cast; omega : (1 : Int) ≤ ((n + 1 : Nat) : Int)), (by rw [e]; omega : 0 ≤ phP m u (lb + n)), (by rw [e]; omega : phP m u (lb + n) ≤ 1000000), (by omega : 0 ≤ lb + (n : Int)), (by push_cast; omega : lb + (n : Int) ≤ lb + ((n + 1 : Nat) : Int))⟩
theorem goes_eq {r : S27} {st un pin mb ph lb : Int} (h0 : 0 ≤ r.f2 ∧ r.f2 ≤ 4000000) (h1 : 0 ≤ r.f1 ∧ r.f1 ≤ 1000000) (h3 : 0 ≤ r.f3 ∧ r.f3 ≤ 4000000) : extent_goes.f r.f0 r.f1 r.f2 r.f3 st un pin mb ph lb = some (decide (goesR r mb ph lb)) := by
  unfold extent_goes.f goesR
  rw [wr ⟨by omega, by omega⟩, wr ⟨by omega, by omega⟩]
  by_cases c1 : r.f2 > 0
  · by_cases c2 : r.f0 = mb
    · by_cases c3 : r.f1 + r.f2 = ph
      · by_cases c4 : r.f3 + r.f2 = lb
        · simp [c1, c2, c3, c4]
        · simp [c1, c2, c3, c4]
      · simp [c1, c2, c3]
    · simp [c1, c2]
  · simp [c1]
theorem right_runs (id m u b c z s me o a l : Int) (at1 n1 : Int) : extent_right.f id m u b c z s me o a l at1 n1 = some (decide (checkC id m u b c z s me o a l = 0 ∧ 0 ≤ at1 ∧ 0 ≤ n1 ∧ at1 + n1 ≤ sizeC m u b c z s me o a l)) := by
  simp only [extent_right.f, conf_Check.f, Option.bind_some]
  by_cases h : checkC id m u b c z s me o a l = 0
  · rw [if_pos h]
    obtain ⟨g, _, _, _, gsz⟩ := good h
    have h1 := g.Z2; have h2 := g.Z1; have h3 := g.R1; rw [← gsz] at h1 h2
    simp only [Geo.size_eq (h := h), Option.bind_some]
    by_cases c1 : at1 ≥ 0
    · rw [if_pos c1]
      by_cases c2 : n1 ≥ 0
      · rw [if_pos c2]
        by_cases c3 : at1 ≤ sizeC m u b c z s me o a l
        · rw [if_pos c3, Geo.wr ⟨by omega, by omega⟩]
          congr 1
          rw [decide_eq_decide]
          constructor <;> intro h <;> omega
        · rw [if_neg c3]; congr 1; symm; rw [decide_eq_false_iff_not]; omega
      · rw [if_neg c2]; congr 1; symm; rw [decide_eq_false_iff_not]; omega
    · rw [if_neg c1]; congr 1; symm; rw [decide_eq_false_iff_not]; omega
  · rw [if_neg h]; simp [h]
def encR (x : S27) : Value := .agg #[.int .i64 x.f0, .int .i64 x.f1, .int .i64 x.f2, .int .i64 x.f3]
/-- Block k is not the row of the slice that lies in the box Bl. -/
def NotRow (Bl : Nat) (W : World) (k : Nat) : Prop := ∀ v fr, W.heap[Bl]? = some (.cells #[v] 22 fr) → v.ownBlock ≠ some k
/-- What a round keeps: every block that is neither a box of runs' slices nor that slice's row; a new row is a new block. -/
def KpR (Bl : Nat) (A B : World) : Prop := A.heap.size ≤ B.heap.size ∧
  (∀ (k : Nat) (cs : Array Value) (t : TypeId) (fr : Nat × Nat), t ≠ 22 → (t = 27 → NotRow Bl A k) → A.heap[k]? = some (Obj.cells cs t fr) → B.heap[k]? = some (Obj.cells cs t fr)) ∧
  (∀ k, k < A.heap.size → NotRow Bl A k → NotRow Bl B k)
theorem kpR_t {Bl : Nat} {A B C : World} (h : KpR Bl A B) (k : KpR Bl B C) : KpR Bl A C :=
  ⟨Nat.le_trans h.1 k.1, fun i cs t fr h1 h2 hi => k.2.1 i cs t fr h1 (fun e => h.2.2 i (Array.getElem?_eq_some_iff.1 hi).1 (h2 e)) (h.2.1 i cs t fr h1 h2 hi), fun i hi hn => k.2.2 i (Nat.lt_of_lt_of_le hi h.1) (h.2.2 i hi hn)⟩
theorem notRow_of {Bl : Nat} {A B : World} {k : Nat} (h : NotRow Bl A k) (e : B.heap[Bl]? = A.heap[Bl]?) : NotRow Bl B k := fun v fr hv => h v fr (by rw [← e]; exact hv)
theorem kpR_b {Bl : Nat} (W : World) (l : Nat) (o o' : Obj) (hB : Bl ≠ l) (h : W.heap[l]? = some o) (hc : o.isCells = false) : KpR Bl W (W.putObj l o') :=
  ⟨by simp, fun k cs t fr _ _ hk => (World.putObj_heap_other (by rintro rfl; rw [h] at hk; cases hk; cases hc)).trans hk, fun k _ hn => notRow_of hn (World.putObj_heap_other hB)⟩
theorem kpR_below {Bl : Nat} {W W' : World} (hB : Bl < W.heap.size) (h : Below W.heap.size W W') : KpR Bl W W' :=
  ⟨h.size, fun k cs t fr _ _ hk => (h.block k (Array.getElem?_eq_some_iff.1 hk).1).trans hk, fun k _ hn => notRow_of hn (h.block Bl hB)⟩
/-- What the iterator writes: a block of one run, of its own, that is not the slice's row. -/
def KiR (B0 Bl : Nat) (A B : World) : Prop := ∃ k, B0 ≤ k ∧ A.grownBy B (some k) ∧ (∃ cs, A.heap[k]? = some (Obj.cells cs 27 (0, 0))) ∧ (∃ cs, B.heap[k]? = some (Obj.cells cs 27 (0, 0))) ∧ NotRow Bl A k
theorem kiR_keeps {B0 Bl : Nat} {A B : World} (h : KiR B0 Bl A B) : KeepsOthers A B := by
  obtain ⟨k, _, hg, ⟨cs, hk⟩, _, _⟩ := h
  exact ⟨hg.size, fun i o hi ho => (hg.block i (Array.getElem?_eq_some_iff.1 hi).1 (fun e => by injection e with e; subst e; rw [hk] at hi; cases hi; cases ho)).trans hi⟩
theorem own_at {A B : World} {base : Nat} {e : TypeId} {size n : Nat} {v : Value} {xs : List Value} (h : A.ownsRow base e size v n xs) (hk : ∀ g, v.ownBlock = some g → B.heap[g]? = A.heap[g]?) : B.ownsRow base e size v n xs := by
  obtain ⟨h1, h2⟩ := h
  refine ⟨h1, ?_⟩
  rcases h2 with h2 | ⟨g, cap, cur, rfl, hg, hh, r⟩
  · exact .inl h2
  · exact .inr ⟨g, cap, cur, rfl, hg, (hk g rfl).trans hh, r⟩
/-- A box with a slice that owns its runs. -/
def HoldsR (base Bl : Nat) (pre : List S27) (W : World) : Prop := ∃ v, Boxed W Bl 22 v ∧ Kd.R k27 27 W base (fun _ => True) v pre
theorem holdsR_at {base Bl : Nat} {pre : List S27} {A B : World} (h : HoldsR base Bl pre A) (hb : B.heap[Bl]? = A.heap[Bl]?) (hr : ∀ g cs, NotRow Bl A g ∨ A.heap[g]? = some (Obj.cells cs 27 (0, 0)) → NotRow Bl A g ∨ B.heap[g]? = A.heap[g]?) : HoldsR base Bl pre B := by
  obtain ⟨v, hv, _, inner, hown, hreps⟩ := h
  refine ⟨v, hb.trans hv, fun _ _ => trivial, inner, own_at hown (fun g hg => ?_), hreps.imp_ (fun _ _ h => by rw [k27_openM h]; exact k27_mkM _ _ _ _)⟩
  obtain ⟨cs, hc⟩ := own_typed hown g hg
  rcases hr g cs (.inr hc) with h1 | h1
  · exact absurd hg (h1 v _ hv)
  · exact h1
theorem holdsR_own (base Bl : Nat) : Own (HoldsR base Bl) := by
  rintro pre A B row h hg hr
  have hlt : Bl < A.heap.size := by obtain ⟨v, hv, _⟩ := h; exact hv.lt
  refine holdsR_at h (hg.block Bl hlt (fun e => ?_)) (fun g cs hh => ?_)
  · obtain ⟨v, hv, _⟩ := h
    obtain ⟨o1, ho, hc⟩ := hr _ e.symm; rw [show A.heap[Bl]? = _ from hv] at ho; cases ho; cases hc
  · rcases hh with hh | hh
    · exact .inl hh
    · refine .inr (hg.block g (Array.getElem?_eq_some_iff.1 hh).1 (fun e => ?_))
      obtain ⟨o1, ho, hc⟩ := hr _ e.symm; rw [hh] at ho; cases ho; cases hc
theorem holdsR_ki {base Bl B0 : Nat} {pre : List S27} {A B : World} (h : HoldsR base Bl pre A) (hi : KiR B0 Bl A B) : HoldsR base Bl pre B := by
  obtain ⟨k, _, hg, ⟨cs, hk⟩, _, hn⟩ := hi
  have hlt : Bl < A.heap.size := by obtain ⟨v, hv, _⟩ := h; exact hv.lt
  refine holdsR_at h (hg.block Bl hlt (fun e => ?_)) (fun g cs' hh => ?_)
  · obtain ⟨v, hv, _⟩ := h
    injection e with e; subst e; rw [show A.heap[Bl]? = _ from hv] at hk; cases hk
  · rcases hh with hh | hh
    · exact .inl hh
    · by_cases e : g = k
      · subst e; exact .inl hn
      · exact .inr (hg.block g (Array.getElem?_eq_some_iff.1 hh).1 (fun e' => e (by injection e')))
end Go.Proofs.Ytbjpjddhkpnofaa
