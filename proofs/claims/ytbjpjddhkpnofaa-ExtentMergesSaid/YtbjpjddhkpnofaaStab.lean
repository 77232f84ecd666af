import Derived.Sort.LotA
namespace Go.Proofs.Stab
open Go.Sort
variable {α : Type} [Inhabited α] {lt : α → α → Bool}

/-! The Go text's steps, over an array. -/
def swpN (d : Array α) (a b : Nat) : Nat → Array α
  | 0 => d
  | i + 1 => swp (swpN d a b i) (a + i) (b + i)
def rotL (m i j : Nat) (d : Array α) : Array α :=
  if 0 < i ∧ 0 < j ∧ i ≠ j then
    if j < i then rotL m (i - j) j (swpN d (m - i) m j) else rotL m i (j - i) (swpN d (m - i) (m + j - i) i)
  else swpN d (m - i) m i
termination_by i + j
def bs (p : Nat → Bool) (i j : Nat) : Nat :=
  if i < j then if p ((i + j) / 2) then bs p ((i + j) / 2 + 1) j else bs p i ((i + j) / 2) else i
termination_by j - i
def shUp (d : Array α) (a : Nat) : Nat → Array α
  | 0 => d
  | k + 1 => swp (shUp d a k) (a + k) (a + k + 1)
def shDn (d : Array α) (m : Nat) : Nat → Array α
  | 0 => d
  | k + 1 => swp (shDn d m k) (m - k) (m - k - 1)
def symS (lt : α → α → Bool) (a m b : Nat) (d : Array α) : Nat :=
  bs (fun c => !lt d[(a + b) / 2 + m - 1 - c]! d[c]!) (if (a + b) / 2 < m then (a + b) / 2 + m - b else a) (if (a + b) / 2 < m then (a + b) / 2 else m)
def symR (lt : α → α → Bool) (a m b : Nat) (d : Array α) : Array α :=
  if symS lt a m b d < m ∧ m < (a + b) / 2 + m - symS lt a m b d then rotL m (m - symS lt a m b d) ((a + b) / 2 + m - symS lt a m b d - m) d else d
def symM (lt : α → α → Bool) : Nat → Nat → Nat → Nat → Array α → Array α
  | 0, _, _, _, d => d
  | f + 1, a, m, b, d =>
    if m - a = 1 then shUp d a (bs (fun h => lt d[h]! d[a]!) m b - 1 - a)
    else if b - m = 1 then shDn d m (m - bs (fun h => !lt d[m]! d[h]!) a m)
    else
      let s := symS lt a m b d
      let d1 := symR lt a m b d
      let d2 := if a < s ∧ s < (a + b) / 2 then symM lt f a s ((a + b) / 2) d1 else d1
      if (a + b) / 2 < (a + b) / 2 + m - s ∧ (a + b) / 2 + m - s < b then symM lt f ((a + b) / 2) ((a + b) / 2 + m - s) b d2 else d2
/-- of 40 at most. -/
def stab (lt : α → α → Bool) (d : Array α) : Array α :=
  if d.size < 20 then insertionSort lt d 0 d.size
  else if 20 < d.size then symM lt d.size 0 20 d.size (insertionSort lt (insertionSort lt d 0 20) 20 d.size) else insertionSort lt d 0 20

/-! What lies where. -/
theorem size_swpN (d : Array α) (a b n : Nat) : (swpN d a b n).size = d.size := by
  induction n with
  | zero => rfl
  | succ n ih => simp only [swpN, size_swp, ih]
theorem size_shUp (d : Array α) (a n : Nat) : (shUp d a n).size = d.size := by
  induction n with
  | zero => rfl
  | succ n ih => simp only [shUp, size_swp, ih]
theorem size_shDn (d : Array α) (a n : Nat) : (shDn d a n).size = d.size := by
  induction n with
  | zero => rfl
  | succ n ih => simp only [shDn, size_swp, ih]
theorem swp_at (d : Array α) (i j k : Nat) (hi : i < d.size) (hj : j < d.size) : (swp d i j)[k]! = if k = j then d[i]! else if k = i then d[j]! else d[k]! := by
  by_cases h : k = j
  · rw [if_pos h, h]; exact swp_right d i j hj
  · rw [if_neg h]
    by_cases h2 : k = i
    · rw [if_pos h2, h2]; exact swp_left d i j hi (by omega)
    · rw [if_neg h2]; exact swp_other d i j k h2 h
theorem swpN_at (d : Array α) (a b n : Nat) (hab : a + n ≤ b) (hb : b + n ≤ d.size) : ∀ k,
    (swpN d a b n)[k]! = if a ≤ k ∧ k < a + n then d[k - a + b]! else if b ≤ k ∧ k < b + n then d[k - b + a]! else d[k]! := by
  induction n with
  | zero => intro k; simp only [swpN]; rw [if_neg (by omega), if_neg (by omega)]
  | succ n ih =>
    intro k
    have ih := ih (by omega) (by omega)
    simp only [swpN]
    rw [swp_at _ _ _ _ (by rw [size_swpN]; omega) (by rw [size_swpN]; omega)]
    simp only [ih]
    repeat' split
    all_goals first | omega | (congr 1; omega) | rfl
/-- [s, m) and [m, e) change places. -/
def Rot (s m e : Nat) (d d' : Array α) : Prop := d'.size = d.size ∧
  ∀ k, d'[k]! = if s ≤ k ∧ k < s + (e - m) then d[k + (m - s)]! else if s + (e - m) ≤ k ∧ k < e then d[k - (e - m)]! else d[k]!
theorem rotL_rot (m : Nat) (n : Nat) : ∀ (i j : Nat) (d : Array α), i + j ≤ n → 0 < i → 0 < j → i ≤ m → m + j ≤ d.size → Rot (m - i) m (m + j) d (rotL m i j d) := by
  induction n with
  | zero => intro i j d h hi hj; omega
  | succ n ih =>
    intro i j d h hi hj him hmj
    unfold rotL
    by_cases hij : i = j
    · subst hij
      rw [if_neg (by omega)]
      refine ⟨size_swpN _ _ _ _, fun k => ?_⟩
      rw [swpN_at _ _ _ _ (by omega) (by omega)]
      repeat' split
      all_goals first | omega | (congr 1; omega) | rfl
    · rw [if_pos ⟨hi, hj, hij⟩]
      by_cases hlt : j < i
      · rw [if_pos hlt]
        obtain ⟨hs, hr⟩ := ih (i - j) j (swpN d (m - i) m j) (by omega) (by omega) hj (by omega) (by rw [size_swpN]; exact hmj)
        refine ⟨by rw [hs, size_swpN], fun k => ?_⟩
        rw [hr]; simp only [swpN_at d (m - i) m j (show m - i + j ≤ m by omega) hmj]
        repeat' split
        all_goals first | omega | (congr 1; omega) | rfl
      · rw [if_neg hlt]
        obtain ⟨hs, hr⟩ := ih i (j - i) (swpN d (m - i) (m + j - i) i) (by omega) (by omega) (by omega) him (by rw [size_swpN]; omega)
        refine ⟨by rw [hs, size_swpN], fun k => ?_⟩
        rw [hr]; simp only [swpN_at d (m - i) (m + j - i) i (show m - i + i ≤ m + j - i by omega) (by omega)]
        repeat' split
        all_goals first | omega | (congr 1; omega) | rfl
theorem size_rotL (m : Nat) (n : Nat) : ∀ (i j : Nat) (d : Array α), i + j ≤ n → (rotL m i j d).size = d.size := by
  induction n with
  | zero => intro i j d h; unfold rotL; rw [if_neg (by omega), size_swpN]
  | succ n ih =>
    intro i j d h
    unfold rotL
    split
    · split
      · rw [ih _ _ _ (by omega), size_swpN]
      · rw [ih _ _ _ (by omega), size_swpN]
    · rw [size_swpN]
theorem size_symM (f : Nat) : ∀ (a m b : Nat) (d : Array α), (symM lt f a m b d).size = d.size := by
  induction f with
  | zero => intro a m b d; rfl
  | succ f ih =>
    intro a m b d
    unfold symM
    split
    · exact size_shUp _ _ _
    split
    · exact size_shDn _ _ _
    have h1 : (symR lt a m b d).size = d.size := by
      unfold symR; split
      · exact size_rotL _ _ _ _ _ (Nat.le_refl _)
      · rfl
    dsimp only
    split <;> (try rw [ih]) <;> split <;> (try rw [ih]) <;> exact h1
theorem shUp_rot (d : Array α) (a t : Nat) (h : a + t < d.size) : Rot a (a + 1) (a + t + 1) d (shUp d a t) := by
  refine ⟨size_shUp _ _ _, ?_⟩
  induction t with
  | zero => intro k; simp only [shUp]; repeat' split
            all_goals first | omega | (congr 1; omega) | rfl
  | succ t ih =>
    intro k
    have ih := ih (by omega)
    simp only [shUp]
    rw [swp_at _ _ _ _ (by rw [size_shUp]; omega) (by rw [size_shUp]; omega)]
    simp only [ih]
    repeat' split
    all_goals first | omega | (congr 1; omega) | rfl
theorem shDn_rot (d : Array α) (m t : Nat) (ht : t ≤ m) (h : m < d.size) : Rot (m - t) m (m + 1) d (shDn d m t) := by
  refine ⟨size_shDn _ _ _, ?_⟩
  induction t with
  | zero => intro k; simp only [shDn]; repeat' split
            all_goals first | omega | (congr 1; omega) | rfl
  | succ t ih =>
    intro k
    have ih := ih (by omega)
    simp only [shDn]
    rw [swp_at _ _ _ _ (by rw [size_shDn]; omega) (by rw [size_shDn]; omega)]
    simp only [ih]
    repeat' split
    all_goals first | omega | (congr 1; omega) | rfl
theorem bs_ok (p : Nat → Bool) (n : Nat) : ∀ i j, j - i ≤ n → i ≤ j → i ≤ bs p i j ∧ bs p i j ≤ j ∧ (bs p i j < j → p (bs p i j) = false) ∧ (i < bs p i j → p (bs p i j - 1) = true) := by
  induction n with
  | zero => intro i j h hij; unfold bs; rw [if_neg (by omega)]; exact ⟨by omega, by omega, by omega, by omega⟩
  | succ n ih =>
    intro i j h hij
    unfold bs
    by_cases hlt : i < j
    · rw [if_pos hlt]
      cases hp : p ((i + j) / 2) with
      | true =>
        rw [if_pos rfl]
        obtain ⟨h1, h2, h3, h4⟩ := ih ((i + j) / 2 + 1) j (by omega) (by omega)
        refine ⟨by omega, h2, h3, fun _ => ?_⟩
        by_cases he : bs p ((i + j) / 2 + 1) j = (i + j) / 2 + 1
        · rw [he]; exact hp
        · exact h4 (by omega)
      | false =>
        rw [if_neg (by simp)]
        obtain ⟨h1, h2, h3, h4⟩ := ih i ((i + j) / 2) (by omega) (by omega)
        refine ⟨h1, by omega, fun _ => ?_, h4⟩
        by_cases he : bs p i ((i + j) / 2) = (i + j) / 2
        · rw [he]; exact hp
        · exact h3 (by omega)
    · rw [if_neg hlt]; exact ⟨by omega, by omega, by omega, by omega⟩

/-! A stable change of places within [a, b). -/
def St (lt : α → α → Bool) (a b : Nat) (d d' : Array α) : Prop := d'.size = d.size ∧ ∃ p : Nat → Nat,
  (∀ k, k < a ∨ b ≤ k → p k = k) ∧ (∀ k, a ≤ k → k < b → a ≤ p k ∧ p k < b) ∧ (∀ i j, p i = p j → i = j) ∧ (∀ k, d'[k]! = d[p k]!) ∧
  ∀ i j, i < j → p i < p j ∨ lt d'[i]! d'[j]! = true ∨ lt d'[j]! d'[i]! = true
theorem St.refl (a b : Nat) (d : Array α) : St lt a b d d := ⟨rfl, id, fun _ _ => rfl, fun _ h1 h2 => ⟨h1, h2⟩, fun _ _ h => h, fun _ => rfl, fun _ _ h => .inl h⟩
theorem St.trans {a b : Nat} {d d' d'' : Array α} (h : St lt a b d d') (h' : St lt a b d' d'') : St lt a b d d'' := by
  obtain ⟨s, p, p1, p2, p3, p4, p5⟩ := h
  obtain ⟨s', q, q1, q2, q3, q4, q5⟩ := h'
  refine ⟨s'.trans s, fun k => p (q k), fun k hk => by show p (q k) = k; rw [q1 k hk, p1 k hk], fun k h1 h2 => p2 _ (q2 k h1 h2).1 (q2 k h1 h2).2, fun i j h => q3 _ _ (p3 _ _ h), fun k => by rw [q4, p4], fun i j hij => ?_⟩
  rcases q5 i j hij with h | h
  · rw [q4 i, q4 j]; exact p5 _ _ h
  · exact .inr h
theorem St.mono {a b a' b' : Nat} {d d' : Array α} (h : St lt a b d d') (ha : a' ≤ a) (hb : b ≤ b') : St lt a' b' d d' := by
  obtain ⟨s, p, p1, p2, p3, p4, p5⟩ := h
  refine ⟨s, p, fun k hk => p1 k (by omega), fun k h1 h2 => ?_, p3, p4, p5⟩
  by_cases hk : a ≤ k ∧ k < b
  · have := p2 k hk.1 hk.2; omega
  · rw [p1 k (by omega)]; exact ⟨h1, h2⟩
theorem St.all {a b : Nat} {d d' : Array α} (h : St lt a b d d') (P : α → Prop) (hP : ∀ i, a ≤ i → i < b → P d[i]!) (i : Nat) (h1 : a ≤ i) (h2 : i < b) : P d'[i]! := by
  obtain ⟨_, p, _, p2, _, p4, _⟩ := h
  rw [p4]; exact hP _ (p2 i h1 h2).1 (p2 i h1 h2).2
theorem St.out {a b : Nat} {d d' : Array α} (h : St lt a b d d') (i : Nat) (hi : i < a ∨ b ≤ i) : d'[i]! = d[i]! := by
  obtain ⟨_, p, p1, _, _, p4, _⟩ := h
  rw [p4, p1 i hi]
theorem Rot.st {s m e a b : Nat} {d d' : Array α} (h : Rot s m e d d') (hsm : s ≤ m) (hme : m ≤ e) (ha : a ≤ s) (hb : e ≤ b)
    (hl : ∀ i j, s ≤ i → i < m → m ≤ j → j < e → lt d[j]! d[i]! = true) : St lt a b d d' := by
  obtain ⟨hs, hr⟩ := h
  refine ⟨hs, fun k => if s ≤ k ∧ k < s + (e - m) then k + (m - s) else if s + (e - m) ≤ k ∧ k < e then k - (e - m) else k, fun k hk => ?_, fun k h1 h2 => ?_, fun i j h => ?_, fun k => ?_, fun i j hij => ?_⟩
  · dsimp only; rw [if_neg (by omega), if_neg (by omega)]
  · dsimp only; repeat' split
    all_goals omega
  · dsimp only at h; revert h; repeat' split
    all_goals omega
  · rw [hr]; dsimp only; repeat' split
    all_goals rfl
  · dsimp only
    by_cases h : (s ≤ i ∧ i < s + (e - m)) ∧ (s + (e - m) ≤ j ∧ j < e)
    · right; left
      rw [hr i, hr j, if_pos h.1, if_neg (by omega), if_pos h.2]
      exact hl _ _ (by omega) (by omega) (by omega) (by omega)
    · left; repeat' split
      all_goals omega
theorem Rot.at1 {s m e : Nat} {d d' : Array α} (h : Rot s m e d d') (k : Nat) (h1 : s ≤ k) (h2 : k < s + (e - m)) : d'[k]! = d[k + (m - s)]! := by rw [h.2, if_pos ⟨h1, h2⟩]
theorem Rot.at2 {s m e : Nat} {d d' : Array α} (h : Rot s m e d d') (k : Nat) (h1 : s + (e - m) ≤ k) (h2 : k < e) : d'[k]! = d[k - (e - m)]! := by rw [h.2, if_neg (by omega), if_pos ⟨h1, h2⟩]
theorem Rot.at3 {s m e : Nat} {d d' : Array α} (h : Rot s m e d d') (k : Nat) (h1 : k < s ∨ e ≤ k) (_hsm : s ≤ m) (_hme : m ≤ e) : d'[k]! = d[k]! := by rw [h.2, if_neg (by omega), if_neg (by omega)]

omit [Inhabited α] in
theorem lt_le (hS : SWO lt) {x y z : α} (h : lt x y = true) (h2 : lt z y = false) : lt x z = true := by
  cases h3 : lt x z with
  | true => rfl
  | false => rw [hS.ntrans x z y h3 h2] at h; exact h
omit [Inhabited α] in
theorem le_lt (hS : SWO lt) {x y z : α} (h : lt x y = true) (h2 : lt x z = false) : lt z y = true := by
  cases h3 : lt z y with
  | true => rfl
  | false => rw [hS.ntrans x z y h2 h3] at h; exact h
omit [Inhabited α] in
theorem asymm (hS : SWO lt) {x y : α} (h : lt x y = true) : lt y x = false := by
  cases h3 : lt y x with
  | false => rfl
  | true => have := hS.trans x y x h h3; rw [hS.irrefl] at this; exact this.symm
/-- sorted, of neighbours that may be one -/
theorem sor {a b : Nat} {d : Array α} (hS : SWO lt) (h : SortedIn lt a b d) {i j : Nat} (h1 : a ≤ i) (h2 : i ≤ j) (h3 : j < b) : lt d[j]! d[i]! = false := by
  by_cases he : i = j
  · rw [he]; exact hS.irrefl _
  · exact h i j h1 (by omega) h3

theorem symS_ok (hS : SWO lt) {a m b : Nat} {d : Array α} (ham : a < m) (hmb : m < b) (hA : SortedIn lt a m d) (hB : SortedIn lt m b d) :
    let s := symS lt a m b d; let e := (a + b) / 2 + m - s
    a ≤ s ∧ s ≤ m ∧ s ≤ (a + b) / 2 ∧ m ≤ e ∧ (a + b) / 2 ≤ e ∧ e ≤ b ∧ s + (e - m) = (a + b) / 2 ∧
    (∀ i j, s ≤ i → i < m → m ≤ j → j < e → lt d[j]! d[i]! = true) ∧ (∀ i j, a ≤ i → i < s → e ≤ j → j < b → lt d[j]! d[i]! = false) := by
  intro s e
  have hmid : a < (a + b) / 2 ∧ (a + b) / 2 < b := by omega
  have hb := bs_ok (fun c => !lt d[(a + b) / 2 + m - 1 - c]! d[c]!) ((if (a + b) / 2 < m then (a + b) / 2 else m) - (if (a + b) / 2 < m then (a + b) / 2 + m - b else a)) (if (a + b) / 2 < m then (a + b) / 2 + m - b else a) (if (a + b) / 2 < m then (a + b) / 2 else m) (Nat.le_refl _) (by split <;> omega)
  change _ ≤ s ∧ s ≤ _ ∧ (s < _ → (!lt d[(a + b) / 2 + m - 1 - s]! d[s]!) = false) ∧ (_ < s → (!lt d[(a + b) / 2 + m - 1 - (s - 1)]! d[s - 1]!) = true) at hb
  have he : e = (a + b) / 2 + m - s := rfl
  clear_value s e
  obtain ⟨h1, h2, h3, h4⟩ := hb
  have hs1 : a ≤ s := by revert h1; split <;> omega
  have hs2 : s ≤ m := by revert h2; split <;> omega
  have hs3 : s ≤ (a + b) / 2 := by revert h2; split <;> omega
  have hs4 : e ≤ b := by revert h1; split <;> omega
  refine ⟨hs1, hs2, hs3, by omega, by omega, hs4, by omega, fun i j hi hi2 hj hj2 => ?_, fun i j hi hi2 hj hj2 => ?_⟩
  · have h3 := h3 (by split <;> omega)
    rw [Bool.not_eq_false', show (a + b) / 2 + m - 1 - s = e - 1 by omega] at h3
    exact le_lt hS (lt_le hS h3 (sor hS hA hs1 hi hi2)) (sor hS hB hj (by omega) (by omega))
  · have h4 := h4 (by revert h1; split <;> omega)
    rw [Bool.not_eq_true', show (a + b) / 2 + m - 1 - (s - 1) = e by omega] at h4
    exact hS.ntrans _ _ _ (sor hS hB (by omega) hj hj2) (hS.ntrans _ _ _ h4 (sor hS hA hi (by omega) (by omega)))

/-- symMerge of two that are sorted. -/
theorem symM_ok (hS : SWO lt) (f : Nat) : ∀ (a m b : Nat) (d : Array α), b - a ≤ f → a < m → m < b → b ≤ d.size → SortedIn lt a m d → SortedIn lt m b d →
    St lt a b d (symM lt f a m b d) ∧ SortedIn lt a b (symM lt f a m b d) := by
  induction f with
  | zero => intro a m b d h; omega
  | succ f ih =>
    intro a m b d hf ham hmb hbd hA hB
    unfold symM
    by_cases c1 : m - a = 1
    · rw [if_pos c1]
      obtain rfl : m = a + 1 := by omega
      obtain ⟨h1, h2, h3, h4⟩ := bs_ok (fun h => lt d[h]! d[a]!) (b - (a + 1)) (a + 1) b (Nat.le_refl _) (by omega)
      generalize hr : bs (fun h => lt d[h]! d[a]!) (a + 1) b = r at h1 h2 h3 h4 ⊢
      have R := shUp_rot d a (r - 1 - a) (by omega)
      rw [show a + (r - 1 - a) + 1 = r by omega] at R
      generalize shUp d a (r - 1 - a) = d' at R ⊢
      have hl : ∀ j, a + 1 ≤ j → j < r → lt d[j]! d[a]! = true := fun j hj hj2 => le_lt hS (h4 (by omega)) (sor hS hB hj (by omega) (by omega))
      have hg : ∀ j, r ≤ j → j < b → lt d[j]! d[a]! = false := fun j hj hj2 => hS.ntrans _ _ _ (sor hS hB (by omega) hj hj2) (h3 (by omega))
      refine ⟨R.st (by omega) (by omega) (Nat.le_refl _) h2 (fun i j hi hi2 hj hj2 => by rw [show i = a by omega]; exact hl j hj hj2), fun i j hi hij hj => ?_⟩
      by_cases x : i < r - 1
      · rw [R.at1 i hi (by omega)]
        by_cases y : j < r - 1
        · rw [R.at1 j (by omega) (by omega)]; exact sor hS hB (by omega) (by omega) (by omega)
        · by_cases z : j = r - 1
          · rw [R.at2 j (by omega) (by omega), show j - (r - (a + 1)) = a by omega]; exact asymm hS (hl _ (by omega) (by omega))
          · rw [R.at3 j (by omega) (by omega) (by omega)]; exact sor hS hB (by omega) (by omega) (by omega)
      · by_cases y : i = r - 1
        · rw [R.at2 i (by omega) (by omega), show i - (r - (a + 1)) = a by omega, R.at3 j (by omega) (by omega) (by omega)]; exact hg j (by omega) hj
        · rw [R.at3 i (by omega) (by omega) (by omega), R.at3 j (by omega) (by omega) (by omega)]; exact sor hS hB (by omega) (by omega) (by omega)
    rw [if_neg c1]
    by_cases c2 : b - m = 1
    · rw [if_pos c2]
      obtain rfl : b = m + 1 := by omega
      obtain ⟨h1, h2, h3, h4⟩ := bs_ok (fun h => !lt d[m]! d[h]!) (m - a) a m (Nat.le_refl _) (by omega)
      generalize hr : bs (fun h => !lt d[m]! d[h]!) a m = r at h1 h2 h3 h4 ⊢
      have R := shDn_rot d m (m - r) (by omega) (by omega)
      rw [show m - (m - r) = r by omega] at R
      generalize shDn d m (m - r) = d' at R ⊢
      have hl : ∀ i, r ≤ i → i < m → lt d[m]! d[i]! = true := fun i hi hi2 => by
        have h3 := h3 (by omega)
        rw [Bool.not_eq_false'] at h3
        exact lt_le hS h3 (sor hS hA h1 hi hi2)
      have hg : ∀ i, a ≤ i → i < r → lt d[m]! d[i]! = false := fun i hi hi2 => by
        have h4 := h4 (by omega)
        rw [Bool.not_eq_true'] at h4
        exact hS.ntrans _ _ _ h4 (sor hS hA hi (by omega) (by omega))
      refine ⟨R.st (by omega) (by omega) h1 (Nat.le_refl _) (fun i j hi hi2 hj hj2 => by rw [show j = m by omega]; exact hl i hi hi2), fun i j hi hij hj => ?_⟩
      by_cases x : i < r
      · rw [R.at3 i (by omega) (by omega) (by omega)]
        by_cases y : j < r
        · rw [R.at3 j (by omega) (by omega) (by omega)]; exact sor hS hA hi (by omega) (by omega)
        · by_cases z : j = r
          · rw [R.at1 j (by omega) (by omega), show j + (m - r) = m by omega]; exact hg i hi x
          · rw [R.at2 j (by omega) (by omega)]; exact sor hS hA hi (by omega) (by omega)
      · by_cases y : i = r
        · rw [R.at1 i (by omega) (by omega), show i + (m - r) = m by omega, R.at2 j (by omega) (by omega)]; exact asymm hS (hl _ (by omega) (by omega))
        · rw [R.at2 i (by omega) (by omega), R.at2 j (by omega) (by omega)]; exact sor hS hA (by omega) (by omega) (by omega)
    rw [if_neg c2]
    obtain ⟨hs1, hs2, hs3, he1, he2, he3, hse, hlt, hle⟩ := symS_ok hS ham hmb hA hB
    have hd1 : symR lt a m b d = if symS lt a m b d < m ∧ m < (a + b) / 2 + m - symS lt a m b d then rotL m (m - symS lt a m b d) ((a + b) / 2 + m - symS lt a m b d - m) d else d := rfl
    dsimp only
    generalize symS lt a m b d = s at hs1 hs2 hs3 he1 he2 he3 hse hlt hle hd1 ⊢
    generalize symR lt a m b d = d1 at hd1 ⊢
    generalize hee : (a + b) / 2 + m - s = e at he1 he2 he3 hse hlt hle hd1 ⊢
    generalize hmi : (a + b) / 2 = mid at hs3 he2 hse hee ⊢
    have R : Rot s m e d d1 := by
      by_cases c : s < m ∧ m < e
      · rw [hd1, if_pos c]
        have := rotL_rot m (m - s + (e - m)) (m - s) (e - m) d (Nat.le_refl _) (by omega) (by omega) (by omega) (by omega)
        rwa [show m - (m - s) = s by omega, show m + (e - m) = e by omega] at this
      · rw [hd1, if_neg c]
        refine ⟨rfl, fun k => ?_⟩
        repeat' split
        all_goals first | omega | (congr 1; omega) | rfl
    clear hd1
    have S1 : St lt a b d d1 := R.st hs2 he1 hs1 he3 hlt
    have z1 : d1.size = d.size := R.1
    -- left and right
    have L1 : SortedIn lt a s d1 := fun i j hi hij hj => by rw [R.at3 i (by omega) hs2 he1, R.at3 j (by omega) hs2 he1]; exact sor hS hA hi (by omega) (by omega)
    have L2 : SortedIn lt s mid d1 := fun i j hi hij hj => by rw [R.at1 i hi (by omega), R.at1 j (by omega) (by omega)]; exact sor hS hB (by omega) (by omega) (by omega)
    have R1 : SortedIn lt mid e d1 := fun i j hi hij hj => by rw [R.at2 i (by omega) (by omega), R.at2 j (by omega) (by omega)]; exact sor hS hA (by omega) (by omega) (by omega)
    have R2 : SortedIn lt e b d1 := fun i j hi hij hj => by rw [R.at3 i (by omega) hs2 he1, R.at3 j (by omega) hs2 he1]; exact sor hS hB (by omega) (by omega) (by omega)
    have X : ∀ i j, a ≤ i → i < mid → mid ≤ j → j < b → lt d1[j]! d1[i]! = false := fun i j hi hi2 hj hj2 => by
      by_cases x : i < s
      · rw [R.at3 i (by omega) hs2 he1]
        by_cases y : j < e
        · rw [R.at2 j (by omega) y]; exact sor hS hA hi (by omega) (by omega)
        · rw [R.at3 j (by omega) hs2 he1]; exact hle i j hi x (by omega) hj2
      · rw [R.at1 i (by omega) (by omega)]
        by_cases y : j < e
        · rw [R.at2 j (by omega) y]; exact asymm hS (hlt _ _ (by omega) (by omega) (by omega) (by omega))
        · rw [R.at3 j (by omega) hs2 he1]; exact sor hS hB (by omega) (by omega) (by omega)
    have hmid : a ≤ mid ∧ mid ≤ b := by omega
    have hmid2 : mid - a ≤ f ∧ b - mid ≤ f := by omega
    have A2 : ∀ d2, d2 = (if a < s ∧ s < mid then symM lt f a s mid d1 else d1) → St lt a mid d1 d2 ∧ SortedIn lt a mid d2 := fun d2 h => by
      by_cases c : a < s ∧ s < mid
      · rw [if_pos c] at h; subst h
        exact ih a s mid d1 hmid2.1 c.1 c.2 (by omega) L1 L2
      · rw [if_neg c] at h; subst h
        refine ⟨St.refl _ _ _, fun i j hi hij hj => ?_⟩
        by_cases q : s ≤ a
        · exact L2 i j (by omega) hij hj
        · exact L1 i j hi hij (by omega)
    obtain ⟨S2, O2⟩ := A2 _ rfl
    generalize (if a < s ∧ s < mid then symM lt f a s mid d1 else d1) = d2 at S2 O2 ⊢
    clear A2 L1 L2
    have z2 : d2.size = d.size := S2.1.trans z1
    have R1 : SortedIn lt mid e d2 := fun i j hi hij hj => by rw [S2.out i (by omega), S2.out j (by omega)]; exact R1 i j hi hij hj
    have R2 : SortedIn lt e b d2 := fun i j hi hij hj => by rw [S2.out i (by omega), S2.out j (by omega)]; exact R2 i j hi hij hj
    have X2 : ∀ i j, a ≤ i → i < mid → mid ≤ j → j < b → lt d2[j]! d2[i]! = false := fun i j hi hi2 hj hj2 => by
      rw [S2.out j (by omega)]
      exact S2.all (fun x => lt d1[j]! x = false) (fun i hi hi2 => X i j hi hi2 hj hj2) i hi hi2
    clear X
    have A3 : ∀ d3, d3 = (if mid < e ∧ e < b then symM lt f mid e b d2 else d2) → St lt mid b d2 d3 ∧ SortedIn lt mid b d3 := fun d3 h => by
      by_cases c : mid < e ∧ e < b
      · rw [if_pos c] at h; subst h
        exact ih mid e b d2 hmid2.2 c.1 c.2 (by omega) R1 R2
      · rw [if_neg c] at h; subst h
        refine ⟨St.refl _ _ _, fun i j hi hij hj => ?_⟩
        by_cases q : e ≤ mid
        · exact R2 i j (by omega) hij hj
        · exact R1 i j hi hij (by omega)
    obtain ⟨S3, O3⟩ := A3 _ rfl
    generalize (if mid < e ∧ e < b then symM lt f mid e b d2 else d2) = d3 at S3 O3 ⊢
    clear A3 R1 R2
    refine ⟨S1.trans ((S2.mono (Nat.le_refl _) hmid.2).trans (S3.mono hmid.1 (Nat.le_refl _))), fun i j hi hij hj => ?_⟩
    by_cases x : j < mid
    · rw [S3.out i (by omega), S3.out j (by omega)]; exact O2 i j hi hij x
    · by_cases y : i < mid
      · rw [S3.out i (by omega)]
        exact S3.all (fun z => lt z d2[i]! = false) (fun j hj hj2 => X2 i j hi y hj hj2) j (by omega) hj
      · exact O3 i j (by omega) hij hj

theorem insInner_st (a b : Nat) (j : Nat) : ∀ d : Array α, j < b → b ≤ d.size → St lt a b d (insInner lt a j d) := by
  induction j with
  | zero => intro d _ _; unfold insInner; exact St.refl _ _ _
  | succ j ih =>
    intro d hj hb
    unfold insInner
    by_cases h : (j + 1 > a && lt d[j + 1]! d[j]!) = true
    · rw [if_pos h]
      simp only [Bool.and_eq_true, decide_eq_true_eq] at h
      have R : Rot j (j + 1) (j + 2) d (swp d (j + 1) j) := ⟨size_swp _ _ _, fun k => by
        rw [swp_at _ _ _ _ (by omega) (by omega)]
        repeat' split
        all_goals first | omega | (congr 1; omega) | rfl⟩
      exact (R.st (by omega) (by omega) (by omega) (by omega) (fun i k hi hi2 hk hk2 => by rw [show i = j by omega, show k = j + 1 by omega]; exact h.2)).trans (ih _ (by omega) (by rw [size_swp]; exact hb))
    · rw [if_neg h]; exact St.refl _ _ _
theorem insOuter_st (a b : Nat) (n : Nat) : ∀ (i : Nat) (d : Array α), b - i ≤ n → b ≤ d.size → St lt a b d (insOuter lt a b i d) := by
  induction n with
  | zero => intro i d h _; unfold insOuter; rw [if_neg (by omega)]; exact St.refl _ _ _
  | succ n ih =>
    intro i d h hb
    unfold insOuter
    by_cases c : i < b
    · rw [if_pos c]
      have h1 := insInner_st (lt := lt) a b i d c hb
      exact h1.trans (ih _ _ (by omega) (by rw [h1.1]; exact hb))
    · rw [if_neg c]; exact St.refl _ _ _
theorem ins_st (a b : Nat) (d : Array α) (hb : b ≤ d.size) : St lt a b d (insertionSort lt d a b) := insOuter_st a b _ _ d (Nat.le_refl _) hb
theorem ins_sorted (hS : SWO lt) (a b : Nat) (d : Array α) (hab : a ≤ b) (hb : b ≤ d.size) : SortedIn lt a b (insertionSort lt d a b) := (insertionSort_holds hS d a b hab hb).2

theorem stab_ok (hS : SWO lt) (d : Array α) : St lt 0 d.size d (stab lt d) ∧ SortedIn lt 0 d.size (stab lt d) := by
  unfold stab
  by_cases h : d.size < 20
  · rw [if_pos h]; exact ⟨ins_st (lt := lt) _ _ d (Nat.le_refl _), ins_sorted hS _ _ d (by omega) (Nat.le_refl _)⟩
  rw [if_neg h]
  have s1 := ins_st (lt := lt) 0 20 d (by omega)
  have o1 := ins_sorted hS 0 20 d (by omega) (by omega)
  generalize insertionSort lt d 0 20 = d1 at s1 o1 ⊢
  by_cases h2 : 20 < d.size
  · rw [if_pos h2]
    have z1 : d1.size = d.size := s1.1
    have s2 := ins_st (lt := lt) 20 d.size d1 (by omega)
    have o2 := ins_sorted hS 20 d.size d1 (by omega) (by omega)
    generalize insertionSort lt d1 20 d.size = d2 at s2 o2 ⊢
    have z2 : d2.size = d.size := s2.1.trans z1
    have o1' : SortedIn lt 0 20 d2 := fun i j hi hij hj => by rw [s2.out i (by omega), s2.out j (by omega)]; exact o1 i j hi hij hj
    obtain ⟨s3, o3⟩ := symM_ok hS d.size 0 20 d.size d2 (by omega) (by omega) h2 (by omega) o1' o2
    exact ⟨(s1.mono (Nat.le_refl _) (by omega)).trans ((s2.mono (by omega) (Nat.le_refl _)).trans s3), o3⟩
  · rw [if_neg h2]
    obtain e : d.size = 20 := by omega
    rw [e]; exact ⟨s1, o1⟩

/-! As lists: the one stable order. -/
def eqv (lt : α → α → Bool) (x y : α) : Bool := !lt x y && !lt y x
theorem pw_eq : ∀ (a b : List Nat), a.Pairwise (· < ·) → b.Pairwise (· < ·) → (∀ x, x ∈ a ↔ x ∈ b) → a = b := by
  intro a
  induction a with
  | nil => intro b _ _ h; cases b with | nil => rfl | cons y b => exact absurd ((h y).2 (by simp)) (by simp)
  | cons x a ih =>
    intro b ha hb h
    cases b with
    | nil => exact absurd ((h x).1 (by simp)) (by simp)
    | cons y b =>
      rw [List.pairwise_cons] at ha hb
      have hxy : x = y := by
        have h1 := (h x).1 (by simp); have h2 := (h y).2 (by simp)
        rw [List.mem_cons] at h1 h2
        rcases h1 with h1 | h1
        · exact h1
        · rcases h2 with h2 | h2
          · exact h2.symm
          · have := hb.1 x h1; have := ha.1 y h2; omega
      subst hxy
      rw [ih b ha.2 hb.2 (fun z => ⟨fun hz => by
        have := (h z).1 (by simp [hz]); rw [List.mem_cons] at this
        rcases this with e | e
        · have := ha.1 z hz; omega
        · exact e, fun hz => by
        have := (h z).2 (by simp [hz]); rw [List.mem_cons] at this
        rcases this with e | e
        · have := hb.1 z hz; omega
        · exact e⟩)]
theorem toList_range (d : Array α) : d.toList = (List.range d.size).map (fun k => d[k]!) := by
  apply List.ext_getElem
  · simp
  · intro k h1 h2
    simp at h1 ⊢
    rw [getElem!_pos d k h1]
theorem len_le : ∀ (l m : List Nat), l.Nodup → (∀ x, x ∈ l → x ∈ m) → l.length ≤ m.length := by
  intro l
  induction l with
  | nil => intro m _ _; exact Nat.zero_le _
  | cons x l ih =>
    intro m hn hs
    rw [List.nodup_cons] at hn
    have hx : x ∈ m := hs x (by simp)
    have := ih (m.erase x) hn.2 (fun y hy => (List.mem_erase_of_ne (fun e => hn.1 (by rw [← e]; exact hy))).2 (hs y (by simp [hy])))
    rw [List.length_erase_of_mem hx] at this
    have := List.length_pos_of_mem hx
    simp only [List.length_cons]; omega
/-- an injection of the first n numbers into themselves leaves none out. -/
theorem inj_onto (n : Nat) (p : Nat → Nat) (hp : ∀ k, k < n → p k < n) (hi : ∀ i j, p i = p j → i = j) (t : Nat) (ht : t < n) : ∃ k, k < n ∧ p k = t := by
  have hnd : ((List.range n).map p).Nodup := by
    rw [List.nodup_iff_pairwise_ne, List.pairwise_map]
    exact List.Pairwise.imp (fun h e => h (hi _ _ e)) (List.nodup_iff_pairwise_ne.1 List.nodup_range)
  refine Classical.byContradiction fun hno => ?_
  have := len_le ((List.range n).map p) ((List.range n).erase t) hnd (fun x hx => by
    obtain ⟨k, hk, rfl⟩ := List.mem_map.1 hx
    exact (List.mem_erase_of_ne (fun e => hno ⟨k, List.mem_range.1 hk, e⟩)).2 (List.mem_range.2 (hp k (List.mem_range.1 hk))))
  rw [List.length_erase_of_mem (List.mem_range.2 ht)] at this
  simp at this; omega
theorem St.filter (hS : SWO lt) {d d' : Array α} (h : St lt 0 d.size d d') (x : α) : d'.toList.filter (eqv lt x) = d.toList.filter (eqv lt x) := by
  obtain ⟨s, p, _, p2, p3, p4, p5⟩ := h
  have hq : ∀ q : Nat → Nat, ((List.range d.size).map (fun k => d[q k]!)).filter (eqv lt x) = (((List.range d.size).map q).filter (fun t => eqv lt x d[t]!)).map (fun t => d[t]!) := fun q => by
    rw [show (fun k => d[q k]!) = (fun t => d[t]!) ∘ q from rfl, ← List.map_map, List.filter_map]; rfl
  rw [toList_range d', toList_range d, s, show (fun k => d'[k]!) = (fun k => d[p k]!) from funext p4, hq p, hq (fun k => k)]
  congr 1
  apply pw_eq
  · rw [List.pairwise_filter, List.pairwise_map]
    refine List.Pairwise.imp ?_ List.pairwise_lt_range
    intro i j hij hi hj
    rcases p5 i j hij with h | h | h
    · exact h
    all_goals
      simp only [eqv, Bool.and_eq_true, Bool.not_eq_true'] at hi hj
      rw [p4 i, p4 j] at h
      first
        | rw [hS.ntrans _ _ _ hi.2 hj.1] at h; exact absurd h (by simp)
        | rw [hS.ntrans _ _ _ hj.2 hi.1] at h; exact absurd h (by simp)
  · rw [List.pairwise_filter, List.map_id']
    exact List.Pairwise.imp (fun h _ _ => h) List.pairwise_lt_range
  · intro t
    simp only [List.mem_filter, List.mem_map, List.mem_range]
    refine and_congr_left fun _ => ⟨fun ⟨k, hk, e⟩ => ⟨t, by rw [← e]; exact (p2 k (Nat.zero_le _) hk).2, rfl⟩, fun ⟨k, hk, e⟩ => ?_⟩
    exact inj_onto d.size p (fun k hk => (p2 k (Nat.zero_le _) hk).2) p3 t (by omega)

omit [Inhabited α] in
theorem uniq (hS : SWO lt) : ∀ (a b : List α), a.Pairwise (fun x y => lt y x = false) → b.Pairwise (fun x y => lt y x = false) → (∀ x, a.filter (eqv lt x) = b.filter (eqv lt x)) → a = b := by
  have self : ∀ x, eqv lt x x = true := fun x => by simp [eqv, hS.irrefl]
  have hm : ∀ (a b : List α), (∀ x, a.filter (eqv lt x) = b.filter (eqv lt x)) → ∀ x, x ∈ a → x ∈ b := fun a b h x hx => by
    have : x ∈ a.filter (eqv lt x) := List.mem_filter.2 ⟨hx, self x⟩
    rw [h x] at this; exact (List.mem_filter.1 this).1
  intro a
  induction a with
  | nil => intro b _ _ h; cases b with | nil => rfl | cons y b => exact absurd (hm _ _ (fun x => (h x).symm) y (by simp)) (by simp)
  | cons x a ih =>
    intro b ha hb h
    cases b with
    | nil => exact absurd (hm _ _ h x (by simp)) (by simp)
    | cons y b =>
      rw [List.pairwise_cons] at ha hb
      have h1 : lt y x = false := by
        have := hm _ _ (fun z => (h z).symm) y (by simp); rw [List.mem_cons] at this
        rcases this with e | e
        · rw [e]; exact hS.irrefl _
        · exact ha.1 y e
      have h2 : lt x y = false := by
        have := hm _ _ h x (by simp); rw [List.mem_cons] at this
        rcases this with e | e
        · rw [e]; exact hS.irrefl _
        · exact hb.1 x e
      have hx := h x
      rw [List.filter_cons_of_pos (self x), List.filter_cons_of_pos (by simp [eqv, h1, h2])] at hx
      obtain ⟨rfl, _⟩ := List.cons.inj hx
      rw [ih b ha.2 hb.2 (fun z => by
        have := h z
        by_cases c : eqv lt z x = true
        · rw [List.filter_cons_of_pos c, List.filter_cons_of_pos c] at this; exact (List.cons.inj this).2
        · rw [List.filter_cons_of_neg c, List.filter_cons_of_neg c] at this; exact this)]

/-- x behind all that are not greater. -/
def put (lt : α → α → Bool) (x : α) : List α → List α
  | [] => [x]
  | y :: l => if lt x y then x :: y :: l else y :: put lt x l
omit [Inhabited α] in
theorem mem_put (x : α) (l : List α) (z : α) : z ∈ put lt x l ↔ z = x ∨ z ∈ l := by
  induction l with
  | nil => simp [put]
  | cons y l ih =>
    unfold put; split
    · simp
    · simp only [List.mem_cons, ih]; grind
omit [Inhabited α] in
theorem put_sorted (hS : SWO lt) (x : α) (l : List α) (h : l.Pairwise (fun x y => lt y x = false)) : (put lt x l).Pairwise (fun x y => lt y x = false) := by
  induction l with
  | nil => simp [put]
  | cons y l ih =>
    rw [List.pairwise_cons] at h
    unfold put
    cases c : lt x y with
    | true =>
      rw [if_pos rfl, List.pairwise_cons, List.pairwise_cons]
      refine ⟨fun z hz => ?_, h⟩
      rw [List.mem_cons] at hz
      rcases hz with rfl | hz
      · exact asymm hS c
      · exact hS.ntrans _ _ _ (h.1 z hz) (asymm hS c)
    | false =>
      rw [if_neg (by simp), List.pairwise_cons]
      refine ⟨fun z hz => ?_, ih h.2⟩
      rw [mem_put] at hz
      rcases hz with rfl | hz
      · exact c
      · exact h.1 z hz
omit [Inhabited α] in
theorem put_filter (hS : SWO lt) (x z : α) (l : List α) (h : l.Pairwise (fun x y => lt y x = false)) : (put lt x l).filter (eqv lt z) = (l ++ [x]).filter (eqv lt z) := by
  induction l with
  | nil => rfl
  | cons y l ih =>
    rw [List.pairwise_cons] at h
    unfold put
    cases c : lt x y with
    | false =>
      rw [if_neg (by simp), List.cons_append, List.filter_cons, List.filter_cons, ih h.2]
    | true =>
      rw [if_pos rfl]
      by_cases d : eqv lt z x = true
      · have hn : (y :: l).filter (eqv lt z) = [] := by
          rw [List.filter_eq_nil_iff]
          intro u hu hu2
          simp only [eqv, Bool.and_eq_true, Bool.not_eq_true'] at hu2 d
          have hxu : lt x u = true := by
            rw [List.mem_cons] at hu
            rcases hu with rfl | hu
            · exact c
            · exact lt_le hS c (h.1 u hu)
          rw [hS.ntrans _ _ _ d.2 hu2.1] at hxu; exact absurd hxu (by simp)
        rw [List.filter_append, hn, List.filter_cons_of_pos d, hn]; simp [d]
      · rw [List.filter_append, List.filter_cons_of_neg d]; simp [d]
def puts (lt : α → α → Bool) (l : List α) : List α := l.foldl (fun s x => put lt x s) []
omit [Inhabited α] in
theorem puts_aux (hS : SWO lt) (l : List α) : ∀ s t : List α, s.Pairwise (fun x y => lt y x = false) → (∀ z, s.filter (eqv lt z) = t.filter (eqv lt z)) →
    (l.foldl (fun s x => put lt x s) s).Pairwise (fun x y => lt y x = false) ∧ ∀ z, (l.foldl (fun s x => put lt x s) s).filter (eqv lt z) = (t ++ l).filter (eqv lt z) := by
  induction l with
  | nil => intro s t hs ht; exact ⟨hs, fun z => by rw [List.append_nil]; exact ht z⟩
  | cons x l ih =>
    intro s t hs ht
    have := ih (put lt x s) (t ++ [x]) (put_sorted hS x s hs) (fun z => by rw [put_filter hS x z s hs, List.filter_append, List.filter_append, ht])
    simpa using this
theorem stab_puts (hS : SWO lt) (d : Array α) : (stab lt d).toList = puts lt d.toList := by
  obtain ⟨h1, h2⟩ := stab_ok hS d
  obtain ⟨h3, h4⟩ := puts_aux hS d.toList [] [] (by simp) (fun _ => rfl)
  refine uniq hS _ _ ?_ h3 (fun z => by rw [h1.filter hS]; exact (h4 z).symm)
  rw [List.pairwise_iff_getElem]
  intro i j hi hj hij
  have z := h1.1
  simp only [Array.length_toList] at hi hj
  have := h2 i j (Nat.zero_le _) hij (by omega)
  rw [getElem!_pos _ i hi, getElem!_pos _ j hj] at this
  simpa using this
end Go.Proofs.Stab
