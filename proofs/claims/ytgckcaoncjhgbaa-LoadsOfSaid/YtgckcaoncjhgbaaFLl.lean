/- Plain law of loads: the program's loads and the document's, range by range and behind any commands. No program in sight. No condition. -/
/- Plain law on steps: the reference's steps are plan's, of any settings. No program in sight. -/
/- revetmentlaw44.live: the page's example. revetmentref44.Of tells the program's loads. -/
import Derived.Test.YtgckcaoncjhgbaaLoadsOf
import Derived.Test.YtgckcaoncjhgbaaFLs
import Derived.Test.YtgckcaoncjhgbaaFMa
import Derived.Test.YtgckcaoncjhgbaaPGx9
import Derived.Test.YtgckcaoncjhgbaaWEqStruct
set_option maxHeartbeats 4000000
set_option maxRecDepth 100000
open Go.Lib (hid)
namespace Go.Proofs.Ytgckcaoncjhgbaa
open Go.RowKit Go.Proofs.Ytgckcaoncjhgbaa.Geo Go.Proofs.Ytgckcaoncjhgbaa.PG Go.Proofs.YtgckcaoncjhgbaaW.PrintWords Go.Proofs.YtgckcaoncjhgbaaW.PrintLast
open Go.Proofs.Ytgckcaoncjhgbaa.PL (S65 jk_)
set_option linter.unusedVariables false
set_option linter.unusedSimpArgs false
def yj_ (x y : S134) : S134 := ⟨wrap64 (x.f0 + y.f0), wrap64 (x.f1 + y.f1)⟩
def In64 (x : S134) : Prop := wrap64 x.f0 = x.f0 /\ wrap64 x.f1 = x.f1
theorem wrap_wrap (a : Int) : wrap64 (wrap64 a) = wrap64 a := by simp only [wrap64]; omega
theorem wrap_add (a p n : Int) : wrap64 (wrap64 (a + p) + n) = wrap64 (a + wrap64 (p + n)) := by simp only [wrap64]; omega
theorem colF_in (j : Nat) (x : S134) (s : S143) (h : In64 x) : In64 (colF j x s) := by
 unfold colF
 split
 ·
  split
  · exact ⟨h.1, wrap_wrap _⟩
  · exact ⟨wrap_wrap _, h.2⟩
 · exact h
theorem colF_plus (j : Nat) (x y : S134) (s : S143) : colF j (yj_ x y) s = yj_ x (colF j y s) := by
 unfold colF yj_
 split
 ·
  split
  · simp only [wrap_add]
  · simp only [wrap_add]
 · rfl
theorem fold_plus (j : Nat) (xs : List S143) : ∀ x y : S134, xs.foldl (colF j) (yj_ x y) = yj_ x (xs.foldl (colF j) y) := by
 induction xs with
 | nil => intro x y; rfl
 | cons s xs ih => intro x y; rw [List.foldl_cons, List.foldl_cons, colF_plus, ih]
theorem plus_zero (x : S134) (h : In64 x) : yj_ x zL = x := by
 obtain ⟨a, b⟩ := x
 obtain ⟨h1, h2⟩ := h
 simp only [yj_, zL, Int.add_zero]
 rw [h1, h2]
theorem getD_set (L : List S134) (i j : Nat) (x : S134) (hi : i < L.length) : (L.set i x).getD j zL = if i = j then x else L.getD j zL := by
 simp only [List.getD_eq_getElem?_getD, List.getElem?_set]
 split
 · next h => subst h; simp [hi]
 · rfl
theorem addL_get (L : List S134) (s : S143) (h0 : 0 <= s.f1) (h1 : s.f1 < L.length) (j : Nat) : (addL L s).getD j zL = colF j (L.getD j zL) s := by
 unfold addL
 rw [getD_set _ _ _ _ (by omega)]
 unfold colF
 by_cases h : s.f1.toNat = j
 ·
  have e : s.f1 = (j : Int) := by omega
  rw [if_pos h, h]
  cases s.f0 <;> simp [e, zL]
 ·
  have e : ¬ s.f1 = (j : Int) := by omega
  rw [if_neg h, if_neg e]
theorem fold_get (xs : List S143) : ∀ L : List S134, (∀ s ∈ xs, 0 <= s.f1 /\ s.f1 < L.length) -> ∀ j, (xs.foldl addL L).getD j zL = xs.foldl (colF j) (L.getD j zL) := by
 induction xs with
 | nil => intro L _ j; rfl
 | cons s xs ih =>
  intro L h j
  rw [List.foldl_cons, List.foldl_cons, ih _ (fun t ht => by rw [addL_len]; exact h t (by simp [ht])), addL_get L s (h s (by simp)).1 (h s (by simp)).2]
theorem vI_ (xs : List S143) : ∀ L : List S134, (xs.foldl addL L).length = L.length := by
 induction xs with
 | nil => intro L; rfl
 | cons s xs ih => intro L; rw [List.foldl_cons, ih, addL_len]
theorem ext_getD {L M : List S134} (hl : L.length = M.length) (h : ∀ j, j < L.length -> L.getD j zL = M.getD j zL) : L = M := by
 apply List.ext_getElem hl
 intro j h1 h2
 have := h j h1
 simpa [h1, h2] using this
theorem rowF_get (m : Nat) (xs : List S143) (j : Nat) (h : j < m) : (rowF m xs).getD j zL = xs.foldl (colF j) zL := by simp [rowF, h]
theorem of_same (m : Nat) (xs : List S143) (h : ∀ s ∈ xs, 0 <= s.f1 /\ s.f1 < m) : xs.foldl addL (List.replicate m ⟨0, 0⟩) = rowF m xs := by
 apply ext_getD
 · rw [vI_, xT_, List.length_replicate]
 ·
  intro j hj
  rw [vI_, List.length_replicate] at hj
  rw [fold_get xs _ (by rw [List.length_replicate]; exact h), rowF_get m xs j hj]
  congr 1
  simp [hj, zL]
theorem fold_in (xs : List S143) (j : Nat) : ∀ x, In64 x -> In64 (xs.foldl (colF j) x) := by
 induction xs with
 | nil => intro x h; exact h
 | cons s xs ih => intro x h; exact ih _ (colF_in j x s h)
theorem plus_same (m : Nat) (xs : List S143) (L : List S134) (hL : L.length = m) (hi : ∀ j, j < m -> In64 (L.getD j zL)) (h : ∀ s ∈ xs, 0 <= s.f1 /\ s.f1 < m) : xs.foldl addL L = List.zipWith yj_ L (rowF m xs) := by
 apply ext_getD
 · rw [vI_, List.length_zipWith, xT_]; omega
 ·
  intro j hj
  rw [vI_] at hj
  rw [fold_get xs L (by rw [hL]; exact h)]
  have hz : (List.zipWith yj_ L (rowF m xs)).getD j zL = yj_ (L.getD j zL) ((rowF m xs).getD j zL) := by
   have hj2 : j < (rowF m xs).length := by rw [xT_]; omega
   simp [List.getElem?_zipWith, hj, hj2]
  rw [hz, rowF_get m xs j (by omega), <- fold_plus, plus_zero _ (hi j (by omega))]
theorem add_in (xs : List S143) (L : List S134) (hi : ∀ j, j < L.length -> In64 (L.getD j zL)) (h : ∀ s ∈ xs, 0 <= s.f1 /\ s.f1 < L.length) : ∀ j, j < (xs.foldl addL L).length -> In64 ((xs.foldl addL L).getD j zL) := fun j hj => by
 rw [vI_] at hj
 rw [fold_get xs L h]
 exact fold_in xs j _ (hi j hj)
def yy_ (i : Nat) (L R : List S134) : List S134 := (List.range i).foldl (fun L k => L.set k (yj_ (L.getD k zL) (R.getD k zL))) L
theorem yQ_ (i : Nat) (L R : List S134) : yy_ (i + 1) L R = (yy_ i L R).set i (yj_ ((yy_ i L R).getD i zL) (R.getD i zL)) := by
 unfold yy_; rw [List.range_succ, List.foldl_append]; rfl
theorem yx_ (L R : List S134) : ∀ i, (yy_ i L R).length = L.length := by
 intro i
 induction i with
 | zero => rfl
 | succ i ih => rw [yQ_, List.length_set, ih]
theorem partL_get (L R : List S134) : ∀ i j, i <= L.length -> (yy_ i L R).getD j zL = if j < i then yj_ (L.getD j zL) (R.getD j zL) else L.getD j zL := by
 intro i
 induction i with
 | zero => intro j _; rw [if_neg (by omega)]; rfl
 | succ i ih =>
  intro j h
  rw [yQ_, getD_set _ _ _ _ (by rw [yx_]; omega)]
  by_cases e : i = j
  · subst e; rw [if_pos rfl, if_pos (by omega), ih i (by omega), if_neg (by omega)]
  ·
   rw [if_neg e, ih j (by omega)]
   by_cases h2 : j < i
   · rw [if_pos h2, if_pos (by omega)]
   · rw [if_neg h2, if_neg (by omega)]
theorem partL_all (L R : List S134) (h : R.length = L.length) : yy_ L.length L R = List.zipWith yj_ L R := by
 apply ext_getD
 · rw [yx_, List.length_zipWith]; omega
 ·
  intro j hj
  rw [yx_] at hj
  rw [partL_get L R _ j (Nat.le_refl _), if_pos hj]
  have hj2 : j < R.length := by omega
  simp [List.getElem?_zipWith, hj, hj2]
def qe_ (id m u b c z s me o a l : Int) (p : Mdl × List S134) (x : S65) : Mdl × List S134 := ((doM id m u b c z s me o a l p.1 x).1, if (doM id m u b c z s me o a l p.1 x).2.1 = 0 /\ x.f0 = 0 then (kP_ id m u b c z s me o a l x.f2 ((x.f4.length : Int) / b)).foldl addL p.2 else p.2)
def playR (id m u b c z s me o a l : Int) (p : Mdl × List S134) (x : S65) : Mdl × List S134 := ((doM id m u b c z s me o a l p.1 x).1, if (doM id m u b c z s me o a l p.1 x).2.1 = 0 /\ x.f0 = 0 then yy_ m.toNat p.2 (rowF m.toNat (kP_ id m u b c z s me o a l x.f2 ((x.f4.length : Int) / b))) else p.2)
theorem fold_step {α : Type} (f : α -> S65 -> α) (p0 : α) (xs : List S65) (j : Nat) (p : α) (h : p = (xs.take j).foldl f p0) (hj : j < xs.length) : f p (jk_ xs (j : Int)) = (xs.take (j + 1)).foldl f p0 := by
 have e : jk_ xs (j : Int) = xs[j] := by simp [jk_, List.getD_eq_getElem?_getD, List.getElem?_eq_getElem hj]
 rw [e, List.take_succ_eq_append_getElem hj, h, List.foldl_append]
 rfl
def LdInv (m : Int) (L : List S134) : Prop := L.length = m.toNat /\ ∀ j, j < m.toNat -> In64 (L.getD j zL)
theorem ld0_inv (m : Int) : LdInv m (List.replicate m.toNat ⟨0, 0⟩) := by
 refine ⟨List.length_replicate, fun j hj => ?_⟩
 have e : (List.replicate m.toNat (⟨0, 0⟩ : S134)).getD j zL = ⟨0, 0⟩ := by simp [List.getD_eq_getElem?_getD, hj]
 have e0 : wrap64 0 = 0 := by unfold wrap64; omega
 rw [e]; exact ⟨e0, e0⟩
theorem play_same {id m u b c z s me o a l : Int} (hk : jn_ id m u b c z s me o a l = 0) (p : Mdl × List S134) (x : S65) (h : LdInv m p.2) : qe_ id m u b c z s me o a l p x = playR id m u b c z s me o a l p x /\ LdInv m (qe_ id m u b c z s me o a l p x).2 := by
 have hmem := vh_ hk x.f2 ((x.f4.length : Int) / b)
 have hm := (good hk).1.m1
 unfold qe_ playR
 by_cases hc : (doM id m u b c z s me o a l p.1 x).2.1 = 0 /\ x.f0 = 0
 ·
  simp only [if_pos hc]
  have h1 : ∀ s_ ∈ kP_ id m u b c z s me o a l x.f2 ((x.f4.length : Int) / b), 0 <= s_.f1 /\ s_.f1 < (m.toNat : Int) := fun s_ hs => by have := hmem s_ hs; omega
  refine ⟨?_, ?_, ?_⟩
  ·
   have := plus_same m.toNat (kP_ id m u b c z s me o a l x.f2 ((x.f4.length : Int) / b)) p.2 h.1 h.2 h1
   rw [this, <- partL_all _ _ (by rw [xT_, h.1]), h.1]
  · rw [vI_, h.1]
  ·
   intro j hj
   exact add_in _ p.2 (fun j hj => h.2 j (by have := h.1; omega)) (fun s_ hs => by rw [h.1]; exact h1 s_ hs) j (by rw [vI_, h.1]; exact hj)
 · simp only [if_neg hc]; exact ⟨trivial, h⟩
theorem plays_same {id m u b c z s me o a l : Int} (hk : jn_ id m u b c z s me o a l = 0) (xs : List S65) : ∀ p : Mdl × List S134, LdInv m p.2 -> xs.foldl (qe_ id m u b c z s me o a l) p = xs.foldl (playR id m u b c z s me o a l) p := by
 induction xs with
 | nil => intro p h; rfl
 | cons x xs ih =>
  intro p h
  obtain ⟨h1, h2⟩ := play_same hk p x h
  rw [List.foldl_cons, List.foldl_cons, ih _ h2, h1]
end Go.Proofs.Ytgckcaoncjhgbaa
open Go.RowKit Go.Proofs.Ytgckcaoncjhgbaa Go.Proofs.Ytgckcaoncjhgbaa.PG Go.Proofs.YtgckcaoncjhgbaaW.PrintWords Go.Proofs.YtgckcaoncjhgbaaW.PrintLast
set_option linter.unusedVariables false
set_option linter.unusedSimpArgs false
namespace Go.Proofs.Ytgckcaoncjhgbaa.Geo
theorem next_row {x R : Int} (hR : 0 < R) (hx : 0 <= x) : (x + 1) / R = x / R + (if (x + 1) % R = 0 then 1 else 0) /\ ((x + 1) % R = 0 ↔ x % R = R - 1) := by
 have a1 := Int.emod_nonneg x (show R ≠ 0 by omega)
 have a2 := Int.emod_lt_of_pos x hR
 have a3 := Int.mul_ediv_add_emod x R
 have key : (x + 1) % R = (x % R + 1) % R := by rw [Int.emod_add_emod]
 by_cases h : x % R = R - 1
 ·
  have e1 : x + 1 = R * (x / R + 1) := by rw [Int.mul_add]; omega
  have e2 : (x + 1) % R = 0 := by rw [e1]; exact Int.mul_emod_right _ _
  refine ⟨?_, by simp [e2, h]⟩
  rw [if_pos e2, e1, Int.mul_ediv_cancel_left _ (by omega)]
 ·
  have e2 : (x + 1) % R = x % R + 1 := by rw [key]; exact Int.emod_eq_of_lt (by omega) (by omega)
  have e3 : ¬ (x + 1) % R = 0 := by omega
  refine ⟨?_, by constructor <;> intro h' <;> omega⟩
  rw [if_neg e3]
  have e1 : x + 1 = (x % R + 1) + R * (x / R) := by omega
  rw [e1, Int.add_mul_ediv_left _ _ (show R ≠ 0 by omega), Int.ediv_eq_zero_of_lt (by omega) (by omega)]
  have e4 : x % R + 1 + R * (x / R) = x + 1 := by omega
  omega
theorem last_iff {m u R lb un pin : Int} (hR : R = (m - 1) * u) (hu : 1 <= u) (hm : 3 <= m) (h1 : lb % R = un * u + pin) (h2 : un < m - 1) (h3 : 0 <= un) (h4 : 0 <= pin) (h5 : pin < u) : lb % R = R - 1 ↔ (un = m - 2 /\ pin = u - 1) := by
 rw [h1, hR]
 have e1 : (m - 1) * u = (m - 2) * u + u := by rw [show m - 1 = (m - 2) + 1 by omega, Int.add_mul, Int.one_mul]
 constructor
 ·
  intro h
  by_cases hun : un = m - 2
  · subst hun; exact ⟨rfl, by omega⟩
  ·
   have d : un * u <= (m - 3) * u := Int.mul_le_mul_of_nonneg_right (by omega) (by omega)
   have e2 : (m - 2) * u = (m - 3) * u + u := by rw [show m - 2 = (m - 3) + 1 by omega, Int.add_mul, Int.one_mul]
   omega
 · rintro ⟨rfl, rfl⟩; omega
section
variable (id m u b c z s me o a l : Int)
theorem rsteps_loop (h : jn_ id m u b c z s me o a l = 0) (at1 : Int) (n : Nat) (h0 : 0 <= at1) (h1 : at1 + n <= kg_ m u b c z s me o a l) (d : Nat) : ∀ (k j : Nat), j <= n -> n - j = d -> d + 21 <= k ->
  revetmentref09_Steps.l0 k at1 n (ks_ m u at1 j) j id m u b c z s me o a l = some (ks_ m u at1 n) := by
 obtain ⟨g, hrow, _, _, gsz⟩ := good h
 have hZ := g.Z2; rw [<- gsz] at hZ
 induction d with
 | zero =>
  intro k j hj hd hk
  obtain rfl : j = n := by omega
  obtain ⟨k, rfl⟩ : ∃ q, k = q + 1 := ⟨k - 1, by omega⟩
  simp only [revetmentref09_Steps.l0]
  rw [if_neg (by omega)]
 | succ d ih =>
  intro k j hj hd hk
  obtain ⟨k, rfl⟩ : ∃ q, k = q + 1 := ⟨k - 1, by omega⟩
  have hjn : (j : Int) < n := by omega
  have hb := yw_ g (lb := at1 + j) (by omega) (by rw [<- gsz]; omega)
  have hlen := stepsL_len m u at1 j
  simp only [revetmentref09_Steps.l0]
  rw [if_pos hjn, wr (x := at1 + j) ⟨by omega, by omega⟩, rof_ok (h := h) (hk := by omega) (q := ⟨by omega, by omega⟩)]
  simp only [Option.bind_some, placeP]
  rw [if_pos (by omega), wr (x := m - 2) ⟨by have := g.m1; omega, by have := g.m2; omega⟩, wr (x := u - 1) ⟨by have := g.u1; omega, by have := g.u2; omega⟩, wr (x := (j : Int) + 1) ⟨by omega, by omega⟩]
  have hnx := next_row (x := at1 + j) (R := (m - 1) * u) (by have := g.R1; omega) (by omega)
  have hl := last_iff (m := m) (u := u) (R := (m - 1) * u) (lb := at1 + j) rfl g.u1 g.m1 hb.2.2.2.2.2.2.2.2.2.2.1 hb.2.2.2.2.2.1 hb.2.2.2.2.1 hb.2.2.2.2.2.2.1 hb.2.2.2.2.2.2.2.1
  have hs := vw_ m u at1 j
  have ih' := ih k (j + 1) (by omega) (by omega) (by omega)
  rw [hs] at ih'
  unfold xB_ at ih'
  have hcast : ((j + 1 : Nat) : Int) = (j : Int) + 1 := by push_cast; rfl
  rw [hcast] at ih'
  by_cases hlast : (at1 + (j : Int) + 1) % ((m - 1) * u) = 0
  ·
   have h2 := hl.1 (hnx.2.1 hlast)
   rw [if_pos hlast] at ih'
   rw [if_pos h2.1, if_pos h2.2, if_neg (by have := g.m1; omega)]
   simp only [revetmentref07_Row.f, Option.bind_some, hrow]
   rw [if_pos (by simp; omega)]
   rw [tm hb.1, wr ⟨by have := hb.2.2.2.2.2.2.2.2.2.2.2.1; omega, by have := hb.2.2.2.2.2.2.2.2.2.2.2.2.1; omega⟩, wr ⟨by have := hb.2.2.2.2.2.2.2.2.2.2.2.2.2.1; omega, by have := hb.2.2.2.2.2.2.2.2.2.2.2.2.2.2; omega⟩]
   rw [List.append_assoc]
   exact ih'
  ·
   rw [if_neg hlast] at ih'
   have h2 : ¬ ((at1 + (j : Int)) % ((m - 1) * u) / u = m - 2 /\ (at1 + (j : Int)) % u = u - 1) := fun hh => hlast (hnx.2.2 (hl.2 hh))
   by_cases h3 : (at1 + (j : Int)) % ((m - 1) * u) / u = m - 2
   · rw [if_pos h3, if_neg (fun h4 => h2 ⟨h3, h4⟩)]; exact ih'
   · rw [if_neg h3]; exact ih'
theorem rright_eq (at1 n1 : Int) : revetmentref09_Right.f id m u b c z s me o a l at1 n1 = some (decide (jn_ id m u b c z s me o a l = 0 /\ 0 <= at1 /\ 0 <= n1 /\ at1 + n1 <= kg_ m u b c z s me o a l)) := by
 simp only [revetmentref09_Right.f, revetmentref07_Check.f, revetmentref07_Size.f, Option.bind_some]
 by_cases h : jn_ id m u b c z s me o a l = 0
 ·
  rw [if_pos h]
  obtain ⟨g, _, _, _, gsz⟩ := good h
  have h1 := g.Z2; have h2 := g.Z1; have h3 := g.R1; rw [<- gsz] at h1 h2
  by_cases c1 : at1 >= 0
  ·
   rw [if_pos c1]
   by_cases c2 : n1 >= 0
   ·
    rw [if_pos c2]
    by_cases c3 : at1 <= kg_ m u b c z s me o a l
    ·
     rw [if_pos c3, wr ⟨by omega, by omega⟩]
     congr 1
     rw [decide_eq_decide]
     constructor <;> intro h <;> omega
    · rw [if_neg c3]; congr 1; symm; rw [decide_eq_false_iff_not]; omega
   · rw [if_neg c2]; congr 1; symm; rw [decide_eq_false_iff_not]; omega
  · rw [if_neg c1]; congr 1; symm; rw [decide_eq_false_iff_not]; omega
 · rw [if_neg h]; simp [h]
theorem rsteps_all (at1 n1 : Int) (k : Nat) (hk : 4000000 <= k) : revetmentref09_Steps.f k id m u b c z s me o a l at1 n1 = some (kP_ id m u b c z s me o a l at1 n1) := by
 unfold revetmentref09_Steps.f kP_
 rw [rright_eq]
 simp only [Option.bind_some]
 by_cases q : jn_ id m u b c z s me o a l = 0 /\ 0 <= at1 /\ 0 <= n1 /\ at1 + n1 <= kg_ m u b c z s me o a l
 ·
  rw [if_pos q, if_pos (decide_eq_true q)]
  obtain ⟨g, _, _, _, gsz⟩ := good q.1
  have hZ := g.Z2; rw [<- gsz] at hZ
  have hn : (n1.toNat : Int) = n1 := Int.toNat_of_nonneg q.2.2.1
  have := rsteps_loop id m u b c z s me o a l q.1 at1 n1.toNat q.2.1 (by rw [hn]; exact q.2.2.2) n1.toNat k 0 (by omega) (by omega) (by omega)
  rw [hn] at this
  simpa [ks_] using this
 · rw [if_neg q, if_neg (by simpa using q)]
end
end Go.Proofs.Ytgckcaoncjhgbaa.Geo
namespace Go.Proofs.Ytgckcaoncjhgbaa
open Go.RowKit Go.Proofs.Ytgckcaoncjhgbaa.PL Go.Proofs.YtgckcaoncjhgbaaW.PrintWords Go.Proofs.YtgckcaoncjhgbaaW.PrintLast
open Go.Proofs.Ytgckcaoncjhgbaa.Geo
open Go.Proofs.Ytgckcaoncjhgbaa.PG (S134 k134 xZ_ vD_ xf_ S143 k143 kt_ xN_)
set_option linter.unusedVariables false
set_option linter.unusedSimpArgs false
attribute [local go_sem] List.getElem?_toArray List.getElem?_cons_succ List.getElem?_cons_zero mL tL cL xL rL oL
theorem rof_no (id m u b c z s me o a l : Int) (at1 n1 : Int) (xs : List S143) (E : Int) (hE : ¬ E = 0) (w : World)
  (hS : ∀ W, Calls Try.prog 96 #[.agg #[.int .i64 id, .int .i64 m, .int .i64 u, .int .i64 b, .int .i64 c, .int .i64 z, .int .i64 s, .int .i64 me, .int .i64 o, .int .i64 a, .int .i64 l], .int .i64 at1, .int .i64 n1] W fun e w' => ∃ v0_ : Value, e = .returned v0_ /\ Kd.R k143 143 w' W.heap.size (fun _ => True) v0_ xs /\ Below W.heap.size W w')
  (hK : ∀ W, Calls Try.prog 13 #[.agg #[.int .i64 id, .int .i64 m, .int .i64 u, .int .i64 b, .int .i64 c, .int .i64 z, .int .i64 s, .int .i64 me, .int .i64 o, .int .i64 a, .int .i64 l]] W fun e w' => e = .returned (.int .i64 E) /\ Below W.heap.size W w') :
  Calls Try.prog 49 #[.agg #[.int .i64 id, .int .i64 m, .int .i64 u, .int .i64 b, .int .i64 c, .int .i64 z, .int .i64 s, .int .i64 me, .int .i64 o, .int .i64 a, .int .i64 l], .int .i64 at1, .int .i64 n1] w fun e w' => ∃ v0_ : Value, e = .returned v0_ /\ Kd.R k134 135 w' w.heap.size (fun _ => True) v0_ [] /\ Below w.heap.size w w' := by
 have kb : (E == 0) = false := beq_eq_false_iff_ne.mpr hE
 have HS := hid hS
 have HK := hid hK
 have HC0 := hid (ju_ w (.cells #[.int .i64 id, .int .i64 m, .int .i64 u, .int .i64 b, .int .i64 c, .int .i64 z, .int .i64 s, .int .i64 me, .int .i64 o, .int .i64 a, .int .i64 l] 23))
 obtain ⟨q0, q1, q2, q3, q4, q5, q6, q7, q8, q9, q10⟩ := cz11 HC0.out
 clear hS hK hE
 go_enter Try.func49, Try.ntmps49
 go_wp2_with (go_at_call 96; refine (HS.out _).mono ?_; rintro _ w1 ⟨v0, rfl, hR, hb1⟩; obtain ⟨A, cA, rfl, hcA, hC⟩ := Kd.R_reads hR)
 have HC := hid (jb_ HC0.out hb1)
 have HB1 := hid (jc_ (jg_ (Below.refl _ w) (.cells #[.int .i64 id, .int .i64 m, .int .i64 u, .int .i64 b, .int .i64 c, .int .i64 z, .int .i64 s, .int .i64 me, .int .i64 o, .int .i64 a, .int .i64 l] 23)) hb1)
 clear hR hC hb1 hcA HC0 q0 q1 q2 q3 q4 q5 q6 q7 q8 q9 q10
 go_loopg [7, 9] 0 (fun kx v7 v9 wr => v7 = .slice none 0 0 /\ v9 = .int .i64 0 /\ Hid (Below w1.heap.size w1 wr))
 case atStart => exact ⟨rfl, rfl, hid (Below.refl _ _)⟩
 case round =>
  obtain ⟨rfl, rfl, HB⟩ := hrel
  obtain ⟨q0, q1, q2, q3, q4, q5, q6, q7, q8, q9, q10⟩ := cz11 (jb_ HC.out HB.out)
  by_cases hlt : (0 : Int) < m
  ·
   go_wp2_with (go_at_call 13; refine (HK.out _).mono ?_; rintro _ w2 ⟨rfl, hb2⟩; have HB2 := hid (jc_ HB.out hb2); clear HB hb2)
   go_ret
   exact ⟨_, rfl, Kd.R_nil _ _ _ _ _, jc_ HB1.out HB2.out⟩
  ·
   go_wp2
   go_ret
   exact ⟨_, rfl, Kd.R_nil _ _ _ _ _, jc_ HB1.out HB.out⟩
theorem zL_ (id m u b c z s me o a l : Int) (at1 n1 : Int) : (loadsOf id m u b c z s me o a l at1 n1).length <= 16 := by
 unfold loadsOf
 split
 · next h => have m2 := (good h).1.m2; rw [vI_, List.length_replicate]; omega
 · exact Nat.zero_le _
theorem rof_any (id m u b c z s me o a l : Int) (at1 n1 : Int) (w : World) :
  Calls Try.prog 49 #[.agg #[.int .i64 id, .int .i64 m, .int .i64 u, .int .i64 b, .int .i64 c, .int .i64 z, .int .i64 s, .int .i64 me, .int .i64 o, .int .i64 a, .int .i64 l], .int .i64 at1, .int .i64 n1] w fun e w' => ∃ v0_ : Value, e = .returned v0_ /\ Kd.R k134 135 w' w.heap.size (fun _ => True) v0_ (loadsOf id m u b c z s me o a l at1 n1) /\ Below w.heap.size w w' := by
 have hS := fun W => PG.revetmentref09_Steps.calls 4000000 id m u b c z s me o a l at1 n1 (kP_ id m u b c z s me o a l at1 n1) W (rsteps_all id m u b c z s me o a l at1 n1 4000000 (Nat.le_refl _))
 have hK := fun (E : Int) (hE : jn_ id m u b c z s me o a l = E) (W : World) => PG.revetmentref07_Check.calls id m u b c z s me o a l E W (by unfold PG.revetmentref07_Check.f; rw [hE])
 by_cases hk : jn_ id m u b c z s me o a l = 0
 ·
  have m1 := (good hk).1.m1; have m2 := (good hk).1.m2
  have hm := vh_ hk at1 n1
  have h := rof_yes id m u b c z s me o a l at1 n1 m.toNat (by omega) (by omega) (kP_ id m u b c z s me o a l at1 n1) w hS (hK 0 hk)
  rw [<- of_same m.toNat (kP_ id m u b c z s me o a l at1 n1) (fun s_ hs => by have := hm s_ hs; omega)] at h
  unfold loadsOf; rw [if_pos hk]; exact h
 · unfold loadsOf; rw [if_neg hk]; exact rof_no id m u b c z s me o a l at1 n1 _ _ hk w hS (hK _ rfl)
theorem plays_inv {id m u b c z s me o a l : Int} (hk : jn_ id m u b c z s me o a l = 0) (xs : List S65) : ∀ p : Mdl × List S134, LdInv m p.2 -> LdInv m (xs.foldl (qe_ id m u b c z s me o a l) p).2 := by
 induction xs with
 | nil => intro p h; exact h
 | cons x xs ih => intro p h; rw [List.foldl_cons]; exact ih _ (play_same hk p x h).2
theorem eqL_any (d : Nat) (w : World) (x0 y0 x1 y1 : Int) : (Op.equalIn (d + 2) 134 (.agg #[.int .i64 x0, .int .i64 x1]) (.agg #[.int .i64 y0, .int .i64 y1])).run Try.prog w = .ok (x0 == y0 && x1 == y1) w := by
 refine eqA_of Try.underlying134 (by kernel_rfl) ?_
 refine eqf_cons (by rfl) (by go_simp; rfl) (by go_simp; rfl) (by go_simp) ?_
 exact eqf_last (by rfl) (by go_simp; rfl) (by go_simp; rfl) (by go_simp)
attribute [local go_sem high] eqL_any
theorem live_of : loadsOf 7 4 2 64 24 3 1 3 2 3 7 0 6 = [⟨0, 2⟩, ⟨2, 0⟩, ⟨2, 0⟩, ⟨2, 0⟩] := by kernel_rfl
theorem xX_ (w : World) : Calls Try.prog 46 #[] w fun e w' => e = .returned (.bool true) /\ Below w.heap.size w w' := by
 have H := hid (Pk.start w)
 have hlo := live_of
 have hpl := fun W => conf_Plain.calls 7 4 2 64 24 3 1 3 2 3 7 W rfl
 have hof := fun W => yl_ 7 4 2 64 24 3 1 3 2 3 7 0 6 W
 rw [hlo] at hof
 have HPL := hid hpl; have HOF := hid hof; clear hpl hof hlo
 go_enter Try.func46, Try.ntmps46
 go_wp2_with first
  | (go_at_call 55; refine (HPL.out _).mono ?_; rintro e W1 ⟨rfl, hb⟩; replace H := pc H hb; clear hb)
  | (go_at_call 48; refine (HOF.out _).mono ?_; rintro e W2 ⟨v0_, rfl, hR, hb⟩; have hR2 := (Kd.R_reads hR); obtain ⟨AL, kL, rfl, hk_, hC⟩ := hR2; obtain ⟨ad, e, c0, c1⟩ := xf_ hC 0 (by decide) (by decide); cases e; obtain ⟨ad3, e, d0, d1⟩ := xf_ hC 3 (by decide) (by decide); cases e; have f0 : W2.cell? ad = some (Value.int .i64 0) := c0; have f1 : W2.cell? ⟨ad.block, ad.off + 1, none⟩ = some (Value.int .i64 2) := c1; have h0 : W2.cell? (ad.add 6) = some (Value.int .i64 2) := d0; have h1 : W2.cell? ⟨(ad.add 6).block, (ad.add 6).off + 1, none⟩ = some (Value.int .i64 0) := d1; have h2 : W2.cell? ⟨ad.block, ad.off + 6, none⟩ = some (Value.int .i64 2) := d0; have h3 : W2.cell? ⟨ad.block, ad.off + 6 + 1, none⟩ = some (Value.int .i64 0) := d1; clear c0 c1 d0 d1; replace H := pc H hb; clear hb)
 go_ret
 exact ⟨rfl, H.out.below⟩
end Go.Proofs.Ytgckcaoncjhgbaa
