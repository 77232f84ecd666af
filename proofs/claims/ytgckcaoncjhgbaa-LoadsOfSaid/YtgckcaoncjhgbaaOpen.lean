/- Whatever reads as data of a type has the cells that the print's kinds speak of: integers, bools, strings, slices, structs. Condition: each type's row of the table is as the lemma says. -/
import Derived.Test.YtgckcaoncjhgbaaWWords
import Derived.ProofKit
import Derived.OpenShut
namespace Go.Proofs.Ytgckcaoncjhgbaa
open Go.ChangeShapes Go.WideShapes Go.ChangeAt Go.RowKit Go.Proofs.YtgckcaoncjhgbaaW.PrintWords
set_option linter.unusedVariables false
set_option linter.unusedSimpArgs false
def zY_ {α : Type} (P : Program) (w : World) (t : TypeId) (d : Kd α) (wf : α -> Prop) : Prop :=
 ∀ (H : Type) (enc : TypeId × Value -> H) (base : Nat) (spare : Nat -> Bool) (held : Bool) (fuel : Nat) (cs : List Value) (x : DataW H × List MemPlace), DataW.trod enc P w base spare held fuel t cs = some x -> ∃ a : α, d.K w a cs /\ wf a
theorem km_ {P : Program} {w : World} {t : TypeId} {k : IntKind} (ht : P.underlying t = some (.int k)) : zY_ P w t (Kd.int k) (fun n => (Lit.int k n).wf = true) := by
 intro H enc base spare held fuel cs x h
 obtain ⟨n, rfl, _, hw⟩ := DataW.trod_int ht h
 exact ⟨n, rfl, hw⟩
theorem opens_bool {P : Program} {w : World} {t : TypeId} (ht : P.underlying t = some .bool) : zY_ P w t Kd.bool (fun _ => True) := by
 intro H enc base spare held fuel cs x h
 cases fuel with
 | zero => simp [DataW.trod] at h
 | succ n =>
  unfold DataW.trod at h
  rw [ht] at h
  split at h <;> simp_all
  rename_i b
  cases b
  · exact .inl rfl
  · exact .inr rfl
theorem pick_list {α β : Type} {p : α -> β -> Prop} : ∀ (l : List β), (∀ y ∈ l, ∃ a, p a y) -> ∃ xs : List α, xs.length = l.length /\ ∀ (i : Nat) (y : β), l[i]? = some y -> ∃ a, xs[i]? = some a /\ p a y
 | [], _ => ⟨[], rfl, fun i y h => by simp at h⟩
 | y :: l, h => by
  obtain ⟨a, ha⟩ := h y (by simp)
  obtain ⟨xs, hl, hx⟩ := pick_list l (fun z hz => h z (by simp [hz]))
  refine ⟨a :: xs, by simp [hl], fun i z hz => ?_⟩
  cases i with
  | zero => simp at hz; subst hz; exact ⟨a, by simp, ha⟩
  | succ i => simp at hz; obtain ⟨b, h1, h2⟩ := hx i z hz; exact ⟨b, by simpa using h1, h2⟩
theorem zJ_ {α : Type} {P : Program} {w : World} {t e : TypeId} {d : Kd α} {wf : α -> Prop} (ht : P.underlying t = some (.slice e)) (hs : P.cellsOf e = d.sz) (he : zY_ P w e d wf) : zY_ P w t (Kd.slice e d) (fun xs => ∀ x ∈ xs, wf x) := by
 intro H enc base spare held fuel cs x h
 rcases DataW.trod_slice ht h with ⟨rfl, _⟩ | ⟨a, len, cap, elems, rest, n, _, rfl, _, _, hl, hc, hlen, hel, _⟩
 · exact ⟨[], ⟨none, 0, rfl, Nat.le_refl _, rfl, by simp, fun h => by simp at h⟩, by simp⟩
 ·
  have hq : ∀ y ∈ List.range len, ∃ z : α, (fun (z : α) (i : Nat) => ∃ c : List Value, c.length = d.sz /\ d.K w z c /\ wf z /\ w.cells? base (a.add (i * d.sz)) d.sz = some c) z y := by
   intro i hi
   have hi' : i < len := by simpa using hi
   have h1 := hel i hi'
   rw [List.getElem?_eq_getElem (by omega), hs] at h1
   obtain ⟨c, h2, h3⟩ := Option.bind_eq_some_iff.1 h1
   obtain ⟨z, h4, h5⟩ := he H enc base spare held n c _ h3
   exact ⟨z, c, d.K_len h4, h4, h5, h2⟩
  obtain ⟨xs, hxl, hxs⟩ := pick_list (List.range len) hq
  have hxl' : xs.length = len := by simpa using hxl
  refine ⟨xs, ⟨some a, cap, by rw [hxl'], by omega, rfl, by unfold maxLen at hc; omega, fun _ => ⟨a, rfl, fun j p hp => ?_⟩⟩, ?_⟩
  ·
   have hj : j < len := by have := (List.getElem?_eq_some_iff.1 hp).1; omega
   obtain ⟨z, h1, c, h2, h3, _, h4⟩ := hxs j j (by simp [hj])
   have : z = p := by rw [h1] at hp; exact Option.some.inj hp
   subst this
   refine ⟨c, h2, h3, fun i u hu => ?_⟩
   have h5 := (World.cells?_some h4).2.2 i (by rw [<- h2]; exact (List.getElem?_eq_some_iff.1 hu).1)
   rw [hu, add_add] at h5
   exact h5
  ·
   intro p hp
   obtain ⟨j, hj, rfl⟩ := List.mem_iff_getElem.1 hp
   have hj' : j < len := by omega
   obtain ⟨z, h1, c, _, _, h5, _⟩ := hxs j j (by simp [hj'])
   rw [List.getElem?_eq_getElem hj] at h1
   rw [Option.some.inj h1]; exact h5
def OpensF {α : Type} (P : Program) (w : World) (fs : List Field) (o : Nat) (d : Kd α) (wf : α -> Prop) : Prop :=
 ∀ (H : Type) (enc : TypeId × Value -> H) (base : Nat) (spare : Nat -> Bool) (held : Bool) (n : Nat) (cs : List Value), (∀ f ∈ fs, ∃ y, DataW.trod enc P w base spare held n f.type ((cs.drop f.offset).take (P.cellsOf f.type)) = some y) -> ∃ a : α, d.K w a ((cs.drop o).take d.sz) /\ wf a
theorem opensF_one {α : Type} {P : Program} {w : World} {f : Field} {o : Nat} {d : Kd α} {wf : α -> Prop} (ho : f.offset = o) (hs : P.cellsOf f.type = d.sz) (h : zY_ P w f.type d wf) : OpensF P w [f] o d wf := by
 intro H enc base spare held n cs hf
 obtain ⟨y, hy⟩ := hf f (by simp)
 rw [ho, hs] at hy
 exact h H enc base spare held n _ y hy
theorem jU_ {α β : Type} {P : Program} {w : World} {f : Field} {fs : List Field} {o : Nat} {d1 : Kd α} {d2 : Kd β} {wf1 : α -> Prop} {wf2 : β -> Prop} (ho : f.offset = o) (hs : P.cellsOf f.type = d1.sz) (h : zY_ P w f.type d1 wf1) (h2 : OpensF P w fs (o + d1.sz) d2 wf2) : OpensF P w (f :: fs) o (Kd.pair d1 d2) (fun x => wf1 x.1 /\ wf2 x.2) := by
 intro H enc base spare held n cs hf
 obtain ⟨y, hy⟩ := hf f (by simp)
 rw [ho, hs] at hy
 obtain ⟨a, ha, wa⟩ := h H enc base spare held n _ y hy
 obtain ⟨b, hb, wb⟩ := h2 H enc base spare held n cs (fun g hg => hf g (by simp [hg]))
 refine ⟨(a, b), ⟨_, _, ?_, ha, hb⟩, wa, wb⟩
 show (cs.drop o).take (d1.sz + d2.sz) = _
 rw [List.take_add, List.drop_drop]
theorem zc_ {α : Type} {P : Program} {w : World} {t : TypeId} {fs : Array Field} {d : Kd α} {wf : α -> Prop} (ht : P.underlying t = some (.struct fs)) (hs : P.cellsOf t = d.sz) (h : OpensF P w fs.toList 0 d wf) : zY_ P w t d wf := by
 intro H enc base spare held fuel cs x hx
 obtain ⟨xs, n, _, _, hl, hxl, hf⟩ := DataW.trod_struct ht hx
 obtain ⟨a, ha, wa⟩ := h H enc base spare held n cs (fun f hf' => by
  obtain ⟨i, hi, rfl⟩ := List.mem_iff_getElem.1 hf'
  have hi' : i < fs.size := by simpa using hi
  have := hf i fs[i] (by simp [hi'])
  rw [List.getElem?_eq_getElem (by omega)] at this
  exact ⟨_, by simpa using this⟩)
 rw [List.drop_zero, List.take_of_length_le (by omega)] at ha
 exact ⟨a, ha, wa⟩
theorem opens_iso {α β : Type} {P : Program} {w : World} {t : TypeId} {d : Kd α} {wf : α -> Prop} (f : β -> α) (g : α -> β) (hfg : ∀ a, f (g a) = a) (h : zY_ P w t d wf) : zY_ P w t (Kd.iso d f) (fun b => wf (f b)) := by
 intro H enc base spare held fuel cs x hx
 obtain ⟨a, ha, wa⟩ := h H enc base spare held fuel cs x hx
 refine ⟨g a, ?_, by show wf (f (g a)); rw [hfg]; exact wa⟩
 show d.K w (f (g a)) cs
 rw [hfg]; exact ha
theorem open_struct {α : Type} {P : Program} {w : World} {t : TypeId} {fs : Array Field} {d : Kd α} {wf : α -> Prop} {r : Reach} {b0 base : Nat} {spare : Nat -> Bool} {held : Bool} {H : Type} {enc : TypeId × Value -> H} {v : Value} {D : DataW H} {p : List MemPlace}
  (ht : P.underlying t = some (.struct fs)) (ho : zY_ P w t d wf) (hv : Value.okWide P w r b0 t v) (h : DataW.Trod enc P w base spare held t v D p) : ∃ (a : α) (cs : List Value), v = .agg cs.toArray /\ d.K w a cs /\ wf a := by
 obtain ⟨cs, rfl, _⟩ := okWide_struct ht hv
 obtain ⟨fuel, hf⟩ := h
 obtain ⟨a, ha, wa⟩ := ho H enc base spare held fuel _ _ hf
 exact ⟨a, cs.toList, by simp, by simpa [Value.cells] using ha, wa⟩
theorem open_slice_of {α : Type} {P : Program} {w : World} {t e : TypeId} {d : Kd α} {wf : List α -> Prop} {r : Reach} {b0 base : Nat} {spare : Nat -> Bool} {held : Bool} {H : Type} {enc : TypeId × Value -> H} {v : Value} {D : DataW H} {p : List MemPlace}
  (ht : P.underlying t = some (.slice e)) (ho : zY_ P w t (Kd.slice e d) wf) (hv : Value.okWide P w r b0 t v) (h : DataW.Trod enc P w base spare held t v D p) : ∃ (xs : List α) (A : Option Addr) (c : Nat), v = .slice A xs.length c /\ xs.length <= c /\ d.C w A xs.length xs /\ wf xs := by
 obtain ⟨a0, len, cap, rfl⟩ := okWide_slice ht hv
 obtain ⟨fuel, hf⟩ := h
 obtain ⟨xs, ⟨A, c, hc, hl, hC⟩, wa⟩ := ho H enc base spare held fuel _ _ hf
 simp [Value.cells] at hc
 obtain ⟨rfl, rfl, rfl⟩ := hc
 exact ⟨xs, _, _, rfl, hl, hC, wa⟩
end Go.Proofs.Ytgckcaoncjhgbaa
