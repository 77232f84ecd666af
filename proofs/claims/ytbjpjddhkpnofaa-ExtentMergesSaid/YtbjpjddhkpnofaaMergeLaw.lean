/- The law itself: whatever the runs, the same runs merged, those of a member, as many blocks. -/
import Derived.Test.YtbjpjddhkpnofaaFSD
import Derived.Test.YtbjpjddhkpnofaaPAx12
import Derived.Test.YtbjpjddhkpnofaaPAx7
import Derived.Test.YtbjpjddhkpnofaaPAx13
import Derived.Test.YtbjpjddhkpnofaaPAx14
import Derived.Test.YtbjpjddhkpnofaaPAx6
import Derived.Test.YtbjpjddhkpnofaaGeoLaw
import Derived.Test.YtbjpjddhkpnofaaPAx902
import Derived.Test.YtbjpjddhkpnofaaPAx800
import Derived.Test.YtbjpjddhkpnofaaPAx901
import Derived.Test.YtbjpjddhkpnofaaPAx900
import Derived.Test.YtbjpjddhkpnofaaPAx15
namespace Go.Proofs.Ytbjpjddhkpnofaa.Geo
open Go.RowKit Go.Sort Go.Proofs.Stab Go.Proofs.Ytbjpjddhkpnofaa Go.Proofs.Ytbjpjddhkpnofaa.PA Go.Proofs.YtbjpjddhkpnofaaW.PrintWords Go.Proofs.YtbjpjddhkpnofaaW.PrintLast
set_option linter.unusedVariables false
set_option linter.unusedSimpArgs false
theorem w1 (i : Nat) (h : i < 1000000) : wrap64 ((i : Int) + 1) = ((i + 1 : Nat) : Int) := by simp only [wrap64]; omega
theorem w0 (i : Nat) (h : i < 1000000) : wrap64 (((i + 1 : Nat) : Int) - 1) = (i : Int) := by simp only [wrap64]; omega
theorem rd_nat (l : List S27) (i : Nat) : rd_T27 l (i : Int) = l.getD i z27 := by simp [rd_T27]
theorem eta27 (x : S27) : (⟨x.f0, x.f1, x.f2, x.f3⟩ : S27) = x := rfl
theorem same_loop (l : List S27) (h : l.length < 1000) : ∀ (k i : Nat), l.length - i < k → i ≤ l.length → revetmentref41_Same.l0 k l l (i : Int) = some true := by
  intro k
  induction k with
  | zero => intro i h1; omega
  | succ k ih =>
    intro i h1 h2
    unfold revetmentref41_Same.l0
    by_cases hlt : i < l.length
    · rw [if_pos (by omega), if_pos (by omega), if_pos (by omega), if_neg (by simp), w1 i (by omega)]
      exact ih (i + 1) (by omega) (by omega)
    · rw [if_neg (by omega)]
theorem same_self (l : List S27) (h : l.length < 1000) (k : Nat) (hk : 1000 ≤ k) : revetmentref41_Same.f k l l = some true := by
  unfold revetmentref41_Same.f
  rw [if_pos rfl]
  exact same_loop l h k 0 (by omega) (by omega)
def onF (m : Int) (l : List S27) : List S27 := l.filter (fun r => decide (r.f0 = m))
theorem take1 (l : List S27) (i : Nat) (h : i < l.length) : l.take (i + 1) = l.take i ++ [l.getD i z27] := by
  rw [List.take_add_one]; simp [h]
theorem on_loop (m : Int) (l : List S27) (h : l.length < 1000) : ∀ (k i : Nat), l.length - i < k → i ≤ l.length → extent_On.l0 k m (onF m (l.take i)) l (l.length : Int) (i : Int) = some (onF m l) := by
  intro k
  induction k with
  | zero => intro i h1; omega
  | succ k ih =>
    intro i h1 h2
    unfold extent_On.l0
    by_cases hlt : i < l.length
    · have hle : (onF m (l.take i)).length ≤ i := by
        unfold onF; refine Nat.le_trans (List.length_filter_le _ _) ?_; rw [List.length_take]; omega
      rw [if_pos (by omega), if_pos (by omega), if_pos (by omega), w1 i (by omega), rd_nat, eta27]
      have hn := ih (i + 1) (by omega) (by omega)
      rw [take1 l i hlt] at hn
      unfold onF at hn
      rw [List.filter_append] at hn
      by_cases hc : (l.getD i z27).f0 = m
      · rw [if_pos hc, if_pos (by omega)]
        rw [List.filter_cons_of_pos (by simpa using hc), List.filter_nil] at hn
        exact hn
      · rw [if_neg hc]
        rw [List.filter_cons_of_neg (by simpa using hc), List.filter_nil, List.append_nil] at hn
        exact hn
    · rw [if_neg (by omega), List.take_of_length_le (by omega)]
theorem on_eq (m : Int) (l : List S27) (h : l.length < 1000) (k : Nat) (hk : 1000 ≤ k) : extent_On.f k l m = some (onF m l) := on_loop m l h k 0 (by omega) (by omega)
def blk (s : Int) (r : S27) : Int := if 1 ≤ r.f2 ∧ r.f2 ≤ 1099511627776 then wrap64 (s + r.f2) else s
theorem blocks_loop (l : List S27) (h : l.length < 1000) : ∀ (k i : Nat), l.length - i < k → i ≤ l.length → extent_Blocks.l0 k ((l.take i).foldl blk 0) l (l.length : Int) (i : Int) = some (l.foldl blk 0) := by
  intro k
  induction k with
  | zero => intro i h1; omega
  | succ k ih =>
    intro i h1 h2
    unfold extent_Blocks.l0
    by_cases hlt : i < l.length
    · rw [if_pos (by omega), if_pos (by omega), if_pos (by omega), w1 i (by omega), rd_nat]
      have hn := ih (i + 1) (by omega) (by omega)
      rw [take1 l i hlt, List.foldl_append, List.foldl_cons, List.foldl_nil] at hn
      by_cases hc : (l.getD i z27).f2 ≥ 1
      · by_cases hd : (l.getD i z27).f2 ≤ 1099511627776
        · rw [if_pos hc, if_pos hd]
          rw [show blk ((l.take i).foldl blk 0) (l.getD i z27) = wrap64 ((l.take i).foldl blk 0 + (l.getD i z27).f2) from if_pos ⟨hc, hd⟩] at hn
          exact hn
        · rw [if_pos hc, if_neg hd]
          rw [show blk ((l.take i).foldl blk 0) (l.getD i z27) = (l.take i).foldl blk 0 from if_neg (fun h => hd h.2)] at hn
          exact hn
      · rw [if_neg hc]
        rw [show blk ((l.take i).foldl blk 0) (l.getD i z27) = (l.take i).foldl blk 0 from if_neg (fun h => hc h.1)] at hn
        exact hn
    · rw [if_neg (by omega), List.take_of_length_le (by omega)]
theorem blocks_eq (l : List S27) (h : l.length < 1000) (k : Nat) (hk : 1000 ≤ k) : extent_Blocks.f k l = some (l.foldl blk 0) := blocks_loop l h k 0 (by omega) (by omega)
theorem ahead_eq (x y : S27) : revetmentref41_ahead.f x.f0 x.f1 x.f2 x.f3 y.f0 y.f1 y.f2 y.f3 = some (ltOf ordR x y) := by
  unfold revetmentref41_ahead.f ltOf ordR
  by_cases h1 : x.f0 < y.f0
  · simp [h1]
  · by_cases h2 : x.f0 = y.f0
    · simp only [h2, Int.lt_irrefl, if_true, if_false, gt_iff_lt]
      congr 1
      rw [decide_eq_decide]
      repeat' split
      all_goals omega
    · have h3 : y.f0 < x.f0 := by omega
      simp [h1, h2, h3]
theorem put_at (x : S27) : ∀ (s : List S27) (c : Nat), c ≤ s.length → (∀ t, t < c → ltOf ordR x (s.getD t z27) = false) → (∀ t, c ≤ t → t < s.length → ltOf ordR x (s.getD t z27) = true) → put (ltOf ordR) x s = s.take c ++ x :: s.drop c := by
  intro s
  induction s with
  | nil => intro c hc _ _; simp [put]
  | cons y s ih =>
    intro c hc h1 h2
    cases c with
    | zero =>
      have := h2 0 (by omega) (by simp)
      simp only [List.getD_cons_zero] at this
      simp [put, this]
    | succ c =>
      have h := h1 0 (by omega)
      simp only [List.getD_cons_zero] at h
      unfold put
      rw [if_neg (by simp [h])]
      rw [ih c (by simpa using hc) (fun t ht => by have := h1 (t + 1) (by omega); simpa using this) (fun t ht ht2 => by have := h2 (t + 1) (by omega) (by simpa using ht2); simpa using this)]
      simp
def Sor (s : List S27) : Prop := ∀ i j, i < j → j < s.length → ltOf ordR (s.getD j z27) (s.getD i z27) = false
theorem sor_pw {s : List S27} (h : s.Pairwise (fun x y => ltOf ordR y x = false)) : Sor s := by
  intro i j hij hj
  rw [List.pairwise_iff_getElem] at h
  have := h i j (by omega) hj hij
  simpa [show i < s.length by omega, hj] using this
theorem l1_ok (x0 s : List S27) (i : Nat) (hi : i < x0.length) (hs : Sor s) (hsz : s.length < 1000) (hxz : x0.length < 1000) (K : Nat) (r : List S27)
    (hn : ∀ K', K ≤ K' → revetmentref41_Merge.l0 K' x0 (put (ltOf ordR) (x0.getD i z27) s) ((i + 1 : Nat) : Int) = some r) :
    ∀ c, c ≤ s.length → (∀ t, c ≤ t → t < s.length → ltOf ordR (x0.getD i z27) (s.getD t z27) = true) → ∀ F, K + c + 1 ≤ F → revetmentref41_Merge.l1 F x0 s (i : Int) (c : Int) = some r := by
  intro c
  induction c with
  | zero =>
    intro hc ht F hF
    obtain ⟨F, rfl⟩ : ∃ F', F = F' + 1 := ⟨F - 1, by omega⟩
    unfold revetmentref41_Merge.l1
    rw [if_neg (by omega)]
    simp only [Option.bind_some, List.nil_append]
    rw [if_pos (by omega), if_pos (by omega), if_pos (by rw [List.length_nil, List.length_take]; omega), if_pos (by omega), if_pos (by omega), if_pos (by rw [List.length_take]; omega), if_pos (by rw [List.length_append, List.length_take, List.length_drop, List.length_singleton]; omega), w1 i (by omega), rd_nat, eta27]
    rw [← hn F (by omega), put_at _ s 0 (Nat.zero_le _) (fun t h => absurd h (by omega)) ht]
    simp
  | succ c ih =>
    intro hc ht F hF
    obtain ⟨F, rfl⟩ : ∃ F', F = F' + 1 := ⟨F - 1, by omega⟩
    unfold revetmentref41_Merge.l1
    rw [if_pos (by omega), if_pos (by omega), if_pos (by omega), w0 c (by omega), if_pos (by omega), if_pos (by omega), rd_nat, rd_nat, ahead_eq]
    simp only [Option.bind_some, List.nil_append]
    cases ha : ltOf ordR (x0.getD i z27) (s.getD c z27) with
    | true =>
      rw [if_pos rfl]
      exact ih (by omega) (fun t h1 h2 => by
        by_cases e : t = c
        · rw [e]; exact ha
        · exact ht t (by omega) h2) F (by omega)
    | false =>
      rw [if_neg (by simp), if_pos (by omega), if_pos (by omega), if_pos (by rw [List.length_nil, List.length_take]; omega), if_pos (by rw [List.length_take]; omega), if_pos (by rw [List.length_append, List.length_take, List.length_drop, List.length_singleton]; omega), w1 i (by omega), eta27]
      rw [← hn F (by omega), put_at _ s (c + 1) hc (fun t h => by
        by_cases e : t = c
        · rw [e]; exact ha
        · exact swoR.ntrans _ _ _ ha (hs t c (by omega) (by omega))) ht]
      simp
theorem l2_ok (s : List S27) (hs : s.length < 1000) : ∀ (F i : Nat) (out : List S27), s.length - i < F → i ≤ s.length → out.length ≤ i → revetmentref41_Merge.l2 F s out (i : Int) = some ((s.drop i).foldl joinR out) := by
  intro F
  induction F with
  | zero => intro i out h; omega
  | succ F ih =>
    intro i out h1 h2 h3
    unfold revetmentref41_Merge.l2
    by_cases hlt : i < s.length
    · have hd : s.drop i = s.getD i z27 :: s.drop (i + 1) := by
        rw [List.drop_eq_getElem_cons hlt]; simp [hlt]
      rw [if_pos (by omega), hd, List.foldl_cons, w1 i (by omega)]
      rcases List.eq_nil_or_concat out with rfl | ⟨oo, y, rfl⟩
      · rw [if_neg (by simp [wrap64]), if_pos (by omega), if_pos (by simp), rd_nat, eta27]
        exact ih (i + 1) _ (by omega) (by omega) (by simp)
      · rw [List.concat_eq_append] at h3 ⊢
        have hl : (oo ++ [y]).length = oo.length + 1 := by simp
        rw [hl] at h3
        have hw : wrap64 (((oo ++ [y]).length : Int) - 1) = ((oo.length : Nat) : Int) := by rw [hl]; exact w0 _ (by omega)
        have hg : (oo ++ [y]).getD oo.length z27 = y := by simp
        rw [hw, if_pos (by omega), if_pos (by omega), if_pos (by rw [hl]; omega), if_pos (by omega), rd_nat, rd_nat, hg, joinR_snoc]
        have hset : (oo ++ [y]).set (((oo.length : Nat) : Int)).toNat (⟨y.f0, y.f1, wrap64 (y.f2 + (s.getD i z27).f2), y.f3⟩ : S27) = oo ++ [⟨y.f0, y.f1, wrap64 (y.f2 + (s.getD i z27).f2), y.f3⟩] := by
          rw [Int.toNat_natCast, List.set_append_right _ _ (Nat.le_refl _)]; simp
        by_cases c1 : y.f0 = (s.getD i z27).f0
        · by_cases c2 : wrap64 (y.f1 + y.f2) = (s.getD i z27).f1
          · rw [if_pos c1, if_pos c2, if_pos ⟨c1, c2⟩, hset]
            exact ih (i + 1) _ (by omega) (by omega) (by simp; omega)
          · rw [if_pos c1, if_neg c2, if_pos (by rw [hl]; omega), if_neg (fun h => c2 h.2), eta27]
            exact ih (i + 1) _ (by omega) (by omega) (by simp; omega)
        · rw [if_neg c1, if_pos (by rw [hl]; omega), if_neg (fun h => c1 h.1), eta27]
          exact ih (i + 1) _ (by omega) (by omega) (by simp; omega)
    · rw [if_neg (by omega), List.drop_of_length_le (by omega)]; rfl
theorem put_length (x : S27) (l : List S27) : (put (ltOf ordR) x l).length = l.length + 1 := by
  induction l with
  | nil => rfl
  | cons y l ih => unfold put; split <;> simp [ih]
theorem l0_ok (x0 : List S27) (hx : x0.length ≤ 40) : ∀ (n i : Nat) (s : List S27), x0.length - i = n → i ≤ x0.length → s.length ≤ i → s.Pairwise (fun x y => ltOf ordR y x = false) → ∀ F, n * 50 + 60 ≤ F →
    revetmentref41_Merge.l0 F x0 s (i : Int) = some ((((x0.drop i).filter keepR).foldl (fun s x => put (ltOf ordR) x s) s).foldl joinR []) := by
  intro n
  induction n with
  | zero =>
    intro i s h1 h2 h3 hs F hF
    obtain ⟨F, rfl⟩ : ∃ F', F = F' + 1 := ⟨F - 1, by omega⟩
    unfold revetmentref41_Merge.l0
    rw [if_neg (by omega), List.drop_of_length_le (by omega)]
    have := l2_ok s (by omega) F 0 [] (by omega) (by omega) (by simp)
    simpa using this
  | succ n ih =>
    intro i s h1 h2 h3 hs F hF
    obtain ⟨F, rfl⟩ : ∃ F', F = F' + 1 := ⟨F - 1, by omega⟩
    unfold revetmentref41_Merge.l0
    have hlt : i < x0.length := by omega
    have hd : x0.drop i = x0.getD i z27 :: x0.drop (i + 1) := by
      rw [List.drop_eq_getElem_cons hlt]; simp [hlt]
    rw [if_pos (by omega), if_pos (by omega), rd_nat, hd]
    by_cases hk : (x0.getD i z27).f2 < 1
    · rw [if_pos hk, w1 i (by omega), List.filter_cons_of_neg (by unfold keepR; rw [decide_eq_true_eq]; omega)]
      exact ih (i + 1) s (by omega) (by omega) (by omega) hs F (by omega)
    · rw [if_neg hk, List.filter_cons_of_pos (by unfold keepR; rw [decide_eq_true_eq]; omega), List.foldl_cons]
      exact l1_ok x0 s i hlt (sor_pw hs) (by omega) (by omega) (n * 50 + 60) _ (fun K' hK' => ih (i + 1) _ (by omega) (by omega) (by rw [put_length]; omega) (put_sorted swoR _ _ hs) K' hK') s.length (Nat.le_refl _) (fun t h1 h2 => absurd h2 (by omega)) F (by omega)
theorem rmerge_eq (l : List S27) (h : l.length ≤ 40) (k : Nat) (hk : 2100 ≤ k) : revetmentref41_Merge.f k l = some (Geo.mergeF l) := by
  unfold revetmentref41_Merge.f
  have := l0_ok l h l.length 0 [] (by omega) (by omega) (by simp) (by simp) k (by omega)
  rw [List.drop_zero] at this
  exact this
theorem live41_eq : revetmentlaw41_live.f = some true := by
  unfold revetmentlaw41_live.f conf_Plain.f
  simp only [Option.bind_some, extent_Runs.f]
  decide +kernel
theorem puts_length (l : List S27) : ∀ s : List S27, (l.foldl (fun s x => put (ltOf ordR) x s) s).length = s.length + l.length := by
  induction l with
  | nil => intro s; simp
  | cons x l ih => intro s; rw [List.foldl_cons, ih, put_length]; simp; omega
theorem merge_len (l : List S27) : (Geo.mergeF l).length ≤ l.length := by
  unfold Geo.mergeF
  have h1 := join_len (puts (ltOf ordR) (l.filter keepR)) []
  have h2 : (puts (ltOf ordR) (l.filter keepR)).length = (l.filter keepR).length := by
    unfold puts; rw [puts_length]; simp
  have h3 := List.length_filter_le keepR l
  simp only [List.length_nil, Nat.zero_add] at h1
  omega
theorem rright_eq (id m u b c z s me o a l f0 f1 f2 f3 : Int) : revetmentref41_Right.f id m u b c z s me o a l f0 f1 f2 f3 = some (Geo.xrightF id m u b c z s me o a l f0 f1 f2 f3) := by
  unfold revetmentref41_Right.f revetmentref07_Check.f revetmentref07_Size.f Geo.xrightF
  simp only [Option.bind_some]
  by_cases h : checkC id m u b c z s me o a l = 0
  · rw [if_pos h]
    obtain ⟨g, _⟩ := good h
    have hc1 := g.c1; have hc2 := g.c2
    by_cases k1 : f0 < 0
    · rw [if_pos k1]; congr 1; symm; rw [decide_eq_false_iff_not]; omega
    rw [if_neg k1]
    by_cases k2 : f0 ≥ m
    · rw [if_pos k2]; congr 1; symm; rw [decide_eq_false_iff_not]; omega
    rw [if_neg k2]
    by_cases k3 : f1 < 0
    · rw [if_pos k3]; congr 1; symm; rw [decide_eq_false_iff_not]; omega
    rw [if_neg k3]
    by_cases k4 : f1 > c
    · rw [if_pos k4]; congr 1; symm; rw [decide_eq_false_iff_not]; omega
    rw [if_neg k4]
    by_cases k5 : f2 < 0
    · rw [if_pos k5]; congr 1; symm; rw [decide_eq_false_iff_not]; omega
    rw [if_neg k5]
    have hw : wrap64 (c - f1) = c - f1 := by simp only [wrap64]; omega
    rw [hw]
    by_cases k6 : f2 ≤ c - f1
    · rw [if_pos k6]
      by_cases k7 : f3 ≥ 0
      · rw [if_pos k7]; congr 1; rw [decide_eq_decide]; constructor <;> intro q <;> omega
      · rw [if_neg k7]; congr 1; symm; rw [decide_eq_false_iff_not]; omega
    · rw [if_neg k6]; congr 1; symm; rw [decide_eq_false_iff_not]; omega
  · rw [if_neg h]; congr 1; symm; rw [decide_eq_false_iff_not]; exact fun q => h q.1
theorem em_loop (l : List S27) (h : l.length ≤ 40) (mm id m u b c z s me o a li : Int) : ∀ (n i : Nat), l.length - i = n → i ≤ l.length → ∀ F, 5 * n + 2200 ≤ F →
    revetmentlaw41_ExtentMerges.l0 F l mm (onF mm (l.take i)) ((l.take i).foldl blk 0) (i : Int) id m u b c z s me o a li = some true := by
  intro n
  induction n with
  | zero =>
    intro i h1 h2 F hF
    obtain ⟨F, rfl⟩ : ∃ F', F = F' + 1 := ⟨F - 1, by omega⟩
    unfold revetmentlaw41_ExtentMerges.l0
    rw [if_neg (by omega), List.take_of_length_le (by omega)]
    have hm := merge_len l
    have ho : (onF mm l).length ≤ l.length := List.length_filter_le _ _
    have e1 : extent_Merge.f l = some (Geo.mergeF l) := by unfold extent_Merge.f; rw [if_pos (by omega)]
    simp only [e1, rmerge_eq l h F (by omega), same_self _ (show (Geo.mergeF l).length < 1000 by omega) F (by omega), on_eq mm l (by omega) F (by omega), same_self _ (show (onF mm l).length < 1000 by omega) F (by omega), blocks_eq l (by omega) F (by omega), live41_eq, Option.bind_some, if_true]
  | succ n ih =>
    intro i h1 h2 F hF
    obtain ⟨F, rfl⟩ : ∃ F', F = F' + 5 := ⟨F - 5, by omega⟩
    have hlt : i < l.length := by omega
    have live : ∀ k x7 x8, revetmentlaw41_ExtentMerges.j1 (k + 1) l mm x7 x8 (i : Int) true id m u b c z s me o a li = some true := fun k x7 x8 => by
      unfold revetmentlaw41_ExtentMerges.j1
      rw [if_pos rfl, live41_eq]; rfl
    unfold revetmentlaw41_ExtentMerges.l0
    rw [if_pos (by omega), if_pos (by omega), rd_nat]
    by_cases k1 : (l.getD i z27).f1 > 1099511627776
    · rw [if_pos k1]; exact live _ _ _
    rw [if_neg k1]
    by_cases k2 : (l.getD i z27).f1 < -1099511627776
    · rw [if_pos k2]; exact live _ _ _
    rw [if_neg k2]
    by_cases k3 : (l.getD i z27).f2 > 2199023255552
    · rw [decide_eq_true k3]; exact live _ _ _
    rw [decide_eq_false k3]
    have hn := ih (i + 1) (by omega) (by omega) F (by omega)
    rw [take1 l i hlt] at hn
    unfold onF at hn
    rw [List.filter_append, List.foldl_append, List.foldl_cons, List.foldl_nil] at hn
    have j4 : ∀ x7 x8, revetmentlaw41_ExtentMerges.l0 F l mm x7 x8 ((i + 1 : Nat) : Int) id m u b c z s me o a li = some true → revetmentlaw41_ExtentMerges.j4 (F + 1) l mm x7 x8 (i : Int) id m u b c z s me o a li = some true := fun x7 x8 hx => by
      unfold revetmentlaw41_ExtentMerges.j4
      rw [if_pos (by omega), if_pos (by omega), rright_eq]
      unfold extent_Right.f
      simp only [Option.bind_some]
      rw [if_neg (by simp), w1 i (by omega)]
      exact hx
    have j3 : ∀ x7, revetmentlaw41_ExtentMerges.l0 F l mm x7 (blk ((l.take i).foldl blk 0) (l.getD i z27)) ((i + 1 : Nat) : Int) id m u b c z s me o a li = some true →
        revetmentlaw41_ExtentMerges.j2 (F + 3) l mm x7 ((l.take i).foldl blk 0) (i : Int) id m u b c z s me o a li = some true := fun x7 hx => by
      unfold revetmentlaw41_ExtentMerges.j2
      rw [if_pos (by omega), if_pos (by omega), rd_nat]
      by_cases c1 : (l.getD i z27).f2 > 0
      · rw [if_pos c1]
        by_cases c2 : (l.getD i z27).f2 ≤ 1099511627776
        · rw [decide_eq_true c2]
          unfold revetmentlaw41_ExtentMerges.j3
          rw [if_pos rfl, if_pos (by omega), if_pos (by omega), rd_nat]
          rw [show blk ((l.take i).foldl blk 0) (l.getD i z27) = wrap64 ((l.take i).foldl blk 0 + (l.getD i z27).f2) from if_pos ⟨by omega, c2⟩] at hx
          exact j4 _ _ hx
        · rw [decide_eq_false c2]
          unfold revetmentlaw41_ExtentMerges.j3
          rw [if_neg (by simp)]
          rw [show blk ((l.take i).foldl blk 0) (l.getD i z27) = (l.take i).foldl blk 0 from if_neg (fun q => c2 q.2)] at hx
          exact j4 _ _ hx
      · rw [if_neg c1]
        unfold revetmentlaw41_ExtentMerges.j3
        rw [if_neg (by simp)]
        rw [show blk ((l.take i).foldl blk 0) (l.getD i z27) = (l.take i).foldl blk 0 from if_neg (fun q => c1 (by omega))] at hx
        exact j4 _ _ hx
    have hle : (onF mm (l.take i)).length ≤ i := by
      unfold onF; refine Nat.le_trans (List.length_filter_le _ _) ?_; rw [List.length_take]; omega
    unfold revetmentlaw41_ExtentMerges.j1
    rw [if_neg (by simp), if_pos (by omega), if_pos (by omega), rd_nat, eta27]
    by_cases hc : (l.getD i z27).f0 = mm
    · rw [if_pos hc, if_pos (by omega)]
      rw [List.filter_cons_of_pos (by simpa using hc), List.filter_nil] at hn
      exact j3 _ hn
    · rw [if_neg hc]
      rw [List.filter_cons_of_neg (by simpa using hc), List.filter_nil, List.append_nil] at hn
      exact j3 _ hn
theorem extentMerges_true (l : List S27) (mm id m u b c z s me o a li : Int) (k : Nat) (hk : 2400 ≤ k) : revetmentlaw41_ExtentMerges.f k l mm id m u b c z s me o a li = some true := by
  unfold revetmentlaw41_ExtentMerges.f
  by_cases h : (l.length : Int) > 40
  · rw [if_pos h, live41_eq]; rfl
  · rw [if_neg h]
    exact em_loop l (by omega) mm id m u b c z s me o a li l.length 0 (by omega) (by omega) k (by omega)
end Go.Proofs.Ytbjpjddhkpnofaa.Geo
