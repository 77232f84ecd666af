/- A REGION THAT DRAWS ITS ORDER, INSIDE A FENCE: an operation that yields in every world of S may be taken first, where every operation that does not keep S waits for it. -/
import Derived.OrdersIn
import Derived.Test.YtgckcaoncjhgbaaWLast
namespace Go.Proofs.Ytgckcaoncjhgbaa
open Go.Proofs.YtgckcaoncjhgbaaW.PrintLast
section
variable {F : Fence} {n : Nat} {P : Program} {ops : Array Oper} {Q : Exit -> Act -> World -> Prop} {md : Region.Mode} {S : World -> Prop} {ds : List Nat}
def vF_ (P : Program) (ops : Array Oper) (S : World -> Prop) (o : Oper) (v : Value) (a : Act) : Prop := YieldsIf P ops S o v a /\ ∀ w, o.about P w a.eval = none
theorem vF_.run {i : Nat} {o : Oper} {v : Value} {a : Act} (hro : F.round = none) (hi : ops[i]? = some o) (hy : vF_ P ops S o v a)
    {K : Act -> World -> Prop} {w : World} (hS : S w) (h : K (a.put o.dst v) w) : wpOpIn F n P ops Q i K a w := by
  have hab : ∀ f, o.about P w a.eval = some f -> F.fn f := fun f hf => by rw [hy.2 w] at hf; cases hf
  unfold wpOpIn
  rw [hi]
  rcases hy.1 with ⟨hw, hv⟩ | ⟨hw, rfl⟩
  · simp only [hw, if_true, Oper.wpIn, hro, Oper.semAt_none, hv w hS, Oper.uponIn]; exact ⟨hab, h⟩
  · simp only [hw, Bool.false_eq_true, if_false]; exact ⟨hab, h⟩
theorem vF_.past {j : Nat} {oi oj : Oper} {v : Value} (hro : F.round = none) (hj : ops[j]? = some oj) (hap : oi.apart ops oj = true)
    (hsi : ∀ cs b, oi.op ≠ .select cs b) (hsj : ∀ cs b, oj.op ≠ .select cs b)
    (hQ : ∀ c a w, Q (.panic c) (a.put oi.dst v) w -> Q (.panic c) a w) {K : Act -> World -> Prop} {a : Act} {w : World}
    (hy : vF_ P ops S oi v a) (h : wpOpIn F n P ops Q j K (a.put oi.dst v) w) :
    wpOpIn F n P ops Q j (fun a' w' => vF_ P ops S oi v a' /\ K (a'.put oi.dst v) w') a w := by
  obtain ⟨h1, h2, h3⟩ := Oper.apart_spec hap
  have keep : ∀ (a : Act), vF_ P ops S oi v a -> ∀ u, vF_ P ops S oi v (a.put oj.dst u) := fun a hy u =>
    ⟨hy.1.of_same (execOp_put oi hsi a oj.dst u h3) (wanted_put oi a oj.dst u h3), fun w => (about_put oi w a oj.dst u h3).trans (hy.2 w)⟩
  have keepD : ∀ d, vF_ P ops S oi v { a with defers := d :: a.defers } := fun d => ⟨hy.1.of_same rfl rfl, fun w => hy.2 w⟩
  unfold wpOpIn at *
  simp only [hj] at *
  rw [wanted_put oj a oi.dst v h1, about_put oj w a oi.dst v h1] at h
  cases hw : Region.wanted oj (yielded ops a.tmps) with
  | false =>
    simp only [hw, Bool.false_eq_true, if_false] at h ⊢
    exact ⟨h.1, keep a hy _, by rw [<- Act.put_comm a v undef h2]; exact h.2⟩
  | true =>
    simp only [hw, if_true] at h ⊢
    unfold Oper.wpIn at *
    rw [about_put oj w a oi.dst v h1] at h
    obtain ⟨ha, h⟩ := h
    refine ⟨ha, ?_⟩
    rw [hro, Oper.semAt_none, execOp_put oj hsj a oi.dst v h1] at h
    rw [hro, Oper.semAt_none]
    cases hr : (execOp a.eval oj).run P w with
    | halt x w' =>
      rw [hr] at h
      cases x <;> first | exact h | exact hQ _ _ _ h
    | ok x w' =>
      rw [hr] at h
      have hend : ∀ (e : Ending) (w'' : World), (match e, w'' with | .returned u, w2 => K ((a.put oi.dst v).put oj.dst u) w2 | .panicked c, w2 => Q (.panic c) (a.put oi.dst v) w2 | .outgrown, _ => LetsOut Q) ->
          (match e, w'' with | .returned u, w2 => vF_ P ops S oi v (a.put oj.dst u) /\ K ((a.put oj.dst u).put oi.dst v) w2 | .panicked c, w2 => Q (.panic c) a w2 | .outgrown, _ => LetsOut Q) := by
        intro e w'' he
        cases e with
        | returned u => exact ⟨keep a hy u, by rw [<- Act.put_comm a v u h2]; exact he⟩
        | panicked c => exact hQ _ _ _ he
        | outgrown => exact he
      cases x with
      | value u => exact ⟨keep a hy u, by rw [<- Act.put_comm a v u h2]; exact h⟩
      | skip => exact ⟨keep a hy _, by rw [<- Act.put_comm a v undef h2]; exact h⟩
      | defer d =>
        refine ⟨keep _ (keepD d) _, ?_⟩
        rw [<- Act.put_comm _ v undef h2, <- Act.put_defers]
        exact h
      | enter f args => exact ⟨h.1, CallsIn.mono h.2 fun e w'' he => by cases e <;> first | exact hend (.returned _) w'' he | exact hend (.panicked _) w'' he | exact he⟩
      | row row args => exact ⟨h.1, RowsIn.mono h.2 fun u w'' he => ⟨keep a hy u, by rw [<- Act.put_comm a v u h2]; exact he⟩⟩
      | round l f tmps assign body => exact ⟨h.1, RoundIn.mono h.2 fun e w'' he => by cases e <;> first | exact hend (.returned _) w'' he | exact hend (.panicked _) w'' he | exact he⟩
      | _ => exact h
def jE_ (F : Fence) (n : Nat) (P : Program) (md : Region.Mode) (ops : Array Oper) (Q : Exit -> Act -> World -> Prop) (S : World -> Prop) (ds : List Nat) : Nat -> Array Bool -> Act -> World -> Prop
  | 0, listed, a, w => Region.ready md ops listed = [] /\ Q .normal a w
  | fuel + 1, listed, a, w =>
    (Region.ready md ops listed = [] -> Q .normal a w) /\
    ∀ i ∈ Region.ready md ops listed, wpOpIn F n P ops Q i (fun a' w' => (i ∉ ds -> S w -> S w') /\ jE_ F n P md ops Q S ds fuel (listed.setIfInBounds i true) a' w') a w
theorem jE_.any : ∀ (fuel : Nat) (listed : Array Bool) (a : Act) (w : World), jE_ F n P md ops Q S ds fuel listed a w -> wpAnyIn F n P md ops Q fuel listed a w
  | 0, _, _, _, h => h
  | fuel + 1, _, _, _, h => ⟨h.1, fun i hi => wpOpIn_mono (fun a' w' h' => jE_.any fuel _ a' w' h'.2) (h.2 i hi)⟩
theorem jE_.first {i : Nat} {oi : Oper} {v : Value} (hro : F.round = none) (hi : ops[i]? = some oi) (hsel : ∀ (j : Nat) (o : Oper) cs b, ops[j]? = some o -> o.op ≠ .select cs b)
    (hQ : ∀ c a w, Q (.panic c) (a.put oi.dst v) w -> Q (.panic c) a w) (m : Nat) :
    ∀ (fuel : Nat) (listed : Array Bool) (a : Act) (w : World),
      (∀ j oj, ops[j]? = some oj -> j ≠ i -> listed.getD j true = false -> (∀ e ∈ oj.after, Region.binds md e = true -> e.on ≠ i) -> oi.apart ops oj = true) ->
      kC_ md ops listed -> (∀ d ∈ ds, listed.getD d true = false -> Region.reachB md ops i m d = true) ->
      i ∈ Region.ready md ops listed -> vF_ P ops S oi v a -> S w ->
      jE_ F n P md ops Q S ds fuel (listed.setIfInBounds i true) (a.put oi.dst v) w -> jE_ F n P md ops Q S ds (fuel + 1) listed a w := by
  intro fuel
  induction fuel with
  | zero =>
    intro listed a w _ _ _ hr hy hS H
    refine ⟨fun h => (by rw [h] at hr; cases hr), fun j hj => ?_⟩
    by_cases hji : j = i
    · subst hji; exact hy.run hro hi hS ⟨fun _ h => h, H⟩
    · have := ready_mono hj hji
      rw [H.1] at this
      cases this
  | succ fuel ih =>
    intro listed a w hfree hc hd hr hy hS H
    refine ⟨fun h => (by rw [h] at hr; cases hr), fun j hj => ?_⟩
    by_cases hji : j = i
    · subst hji; exact hy.run hro hi hS ⟨fun _ h => h, H⟩
    · have h1 := H.2 j (ready_mono hj hji)
      obtain ⟨hjun, oj, hoj, hall⟩ := mem_ready.1 hj
      have hiun := (mem_ready.1 hr).1
      have hnot : ∀ e ∈ oj.after, Region.binds md e = true -> e.on ≠ i := fun e he hb heq => by
        have h1 := hall e he hb
        rw [heq] at h1
        rcases Nat.lt_or_ge i listed.size with h' | h'
        · simp [h'] at hiun h1; rw [hiun] at h1; cases h1
        · simp [Array.getElem?_eq_none h'] at h1
      have hjd : j ∉ ds := fun hm => Region.reach_not_ready hc (hd j hm hjun) hiun hj
      have h2 := vF_.past hro hoj (hfree j oj hoj hji hjun hnot) (fun cs b => hsel i oi cs b hi) (fun cs b => hsel j oj cs b hoj) hQ hy h1
      have hun' : ∀ k, (listed.setIfInBounds j true).getD k true = false -> listed.getD k true = false := fun k hk => by
        by_cases hjk : j = k
        · subst hjk; exact hjun
        · rw [getD_set_ne true hjk] at hk; exact hk
      refine wpOpIn_mono (fun a' w' h3 => ⟨h3.2.1, ih (listed.setIfInBounds j true) a' w' (fun k ok hk hki hun hno => hfree k ok hk hki (hun' k hun) hno) (hc.set hj)
        (fun d hm hun => hd d hm (hun' d hun)) (ready_mono hr (Ne.symm hji)) h3.1 (h3.2.1 hjd hS) ?_⟩) h2
      rw [Array.setIfInBounds_comm _ _ hji]
      exact h3.2.2
theorem jE_.start {id m : Nat} {a : Act} {w : World} (l : Array Bool) (hm : P.follows .mixedOrders = true) (hn : ops.size = m) (hl : Array.replicate m false = l)
    (h : jE_ F n P .any ops Q S ds m l a w.drew) : (Code.region id ops true).wpIn F n P Q a w := by
  subst hn
  subst hl
  exact wpIn_region_any hm (jE_.any _ _ _ _ h)
theorem jE_.take {i : Nat} {N : Option Tmp} {oi : Oper} {v : Value} {fuel : Nat} {l : Array Bool} {a : Act} {w : World} (l' : Array Bool) (hro : F.round = none) (hi : ops[i]? = some oi) (hN : oi.dst = N)
    (hc : takeB md ops ds l l' i = true) (hQ : ∀ c a w, Q (.panic c) (a.put oi.dst v) w -> Q (.panic c) a w) (hy : vF_ P ops S oi v a) (hS : S w) {a' : Act} (ha : a.put N v = a')
    (h : jE_ F n P md ops Q S ds fuel l' a' w) : jE_ F n P md ops Q S ds (fuel + 1) l a w := by
  subst ha
  subst hN
  simp only [takeB, Bool.and_eq_true, beq_iff_eq] at hc
  obtain ⟨⟨⟨⟨⟨h1, h2⟩, h3⟩, h4⟩, h5⟩, h6⟩ := hc
  subst h6
  exact jE_.first hro hi (Region.noSelect_spec h1) hQ ops.size fuel l a w (Region.free_spec hi h2) (Region.closedB_spec h4)
    (fun d hm hun => by have := List.all_eq_true.1 h5 d hm; rw [hun] at this; simpa using this) (by simpa using h3) hy hS h
theorem jE_.one {i : Nat} {oi : Oper} {fuel : Nat} {l : Array Bool} {a : Act} {w : World} (l' : Array Bool) (hi : ops[i]? = some oi) (hc : zb_ md ops l l' i = true)
    (hw : Region.wanted oi (yielded ops a.tmps) = true)
    (h : ∀ K : Act -> World -> Prop, (∀ a' w', (i ∉ ds -> S w -> S w') -> jE_ F n P md ops Q S ds fuel l' a' w' -> K a' w') -> Oper.wpIn F n P oi a w K Q) :
    jE_ F n P md ops Q S ds (fuel + 1) l a w := by
  simp only [zb_, Bool.and_eq_true, beq_iff_eq] at hc
  obtain ⟨h1, h2⟩ := hc
  subst h2
  refine ⟨fun h0 => (by rw [h1] at h0; cases h0), fun j hj => ?_⟩
  rw [h1] at hj
  obtain rfl := List.mem_singleton.1 hj
  refine wpOpIn_step hi fun K' hK => ?_
  rw [if_pos hw]
  exact h K' (fun a' w' h3 h4 => hK a' w' ⟨h3, h4⟩)
theorem jE_.done {l : Array Bool} {a : Act} {w : World} {m : Nat} (hr : (Region.ready md ops l == []) = true) (h : Q .normal a w) : jE_ F n P md ops Q S ds m l a w := by
  have hr : Region.ready md ops l = [] := by simpa using hr
  cases m with
  | zero => exact ⟨hr, h⟩
  | succ m => exact ⟨fun _ => h, by rw [hr]; simp⟩
end
end Go.Proofs.Ytgckcaoncjhgbaa
