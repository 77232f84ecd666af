/- Words for revetmentlaw17.does: tables that are answers, carried on. -/
/- Plain law: which zones may be, in words; element j of zones. No program in sight. No condition. -/
/- Plain law: what calls keep: a table that may be, never more zones open or in use than may be. No program in sight. -/
/- Package model in plain Lean: what a command makes of zones, their texts, and how much of each is safe. -/
/- Plain laws of package model: what the table's answers are, when there is an error and when not; the invariant. -/
/- Facts on models that stay, and how an answer to a command is opened. -/
/- Plain laws of package model: the invariant stays, what is written of a zone. -/
import Derived.Test.YtgckcaoncjhgbaaLzOps
import Derived.Test.YtgckcaoncjhgbaaLzWrite
import Derived.Test.YtgckcaoncjhgbaaFGw
namespace Go.Proofs.Ytgckcaoncjhgbaa
open Go.RowKit Go.Proofs.Ytgckcaoncjhgbaa.PL Go.Proofs.YtgckcaoncjhgbaaW.PrintWords Go.Proofs.YtgckcaoncjhgbaaW.PrintLast
set_option linter.unusedVariables false
set_option linter.unusedSimpArgs false
namespace PL
end PL
def TabD (id m u b c z s me o a l : Int) (r : Option (List S59)) (L : List S59) (sl : Value) (base : Nat) (W : World) (v : Value) : Prop := TabR id m u b c z s me o a l r base W v \/ (r = some L /\ v = tabV id m u b c z s me o a l sl)
section
variable {id m u b c z s me o a l : Int} {r : Option (List S59)} {base g : Nat} {W W' : World} {v : Value}
theorem TabR_open (h : TabR id m u b c z s me o a l r base W v) : ∃ (q0 q1 q2 q3 q4 q5 q6 q7 q8 q9 q10 : Int) (A : Option Addr) (n k : Nat), v = tabV q0 q1 q2 q3 q4 q5 q6 q7 q8 q9 q10 (.slice A n k) := by
 rcases h with ⟨_, rfl⟩ | ⟨L, y, _, rfl, hR⟩
 · exact ⟨_, _, _, _, _, _, _, _, _, _, _, _, _, _, rfl⟩
 ·
  obtain ⟨A, k, rfl⟩ := Kd.R_slice hR
  exact ⟨_, _, _, _, _, _, _, _, _, _, _, _, _, _, rfl⟩
theorem TabR_below (h : TabR id m u b c z s me o a l r base W v) (hb : Below W.heap.size W W') : TabR id m u b c z s me o a l r base W' v := by
 rcases h with h | ⟨L, y, h1, h2, hR⟩
 · exact .inl h
 · exact .inr ⟨L, y, h1, h2, Kd.R_below hR hb⟩
theorem TabD_open {L : List S59} {A : Option Addr} {n k : Nat} (h : TabD id m u b c z s me o a l r L (.slice A n k) base W v) : ∃ (q0 q1 q2 q3 q4 q5 q6 q7 q8 q9 q10 : Int) (A : Option Addr) (n k : Nat), v = tabV q0 q1 q2 q3 q4 q5 q6 q7 q8 q9 q10 (.slice A n k) := by
 rcases h with h | ⟨_, rfl⟩
 · exact TabR_open h
 · exact ⟨_, _, _, _, _, _, _, _, _, _, _, _, _, _, rfl⟩
theorem xw_ {L : List S59} {sl : Value} (h : TabD id m u b c z s me o a l r L sl base W v) (hb : Below W.heap.size W W') : TabD id m u b c z s me o a l r L sl base W' v := h.imp (fun h => TabR_below h hb) (fun h => h)
end
end Go.Proofs.Ytgckcaoncjhgbaa
open Go.RowKit Go.Proofs.Ytgckcaoncjhgbaa Go.Proofs.Ytgckcaoncjhgbaa.PL Go.Proofs.YtgckcaoncjhgbaaW.PrintWords Go.Proofs.YtgckcaoncjhgbaaW.PrintLast
set_option linter.unusedVariables false
set_option linter.unusedSimpArgs false
namespace Go.Proofs.Ytgckcaoncjhgbaa.Geo
theorem rz_iff (size : Int) (x : S59) : rzP size x = true ↔ 0 <= x.f2 /\ x.f2 <= 1099511627776 /\ 0 <= x.f1 /\ (x.f0 = 0 /\ x.f1 = 0 \/ x.f0 = 1 /\ x.f1 < size \/ x.f0 = 2 /\ 0 < x.f1 /\ x.f1 < size \/ x.f0 = 3 /\ x.f1 <= size) := by
 unfold rzP rzB
 split
 · simp; omega
 ·
  split
  · simp; omega
  ·
   split
   · simp; omega
   ·
    split
    · simp; omega
    · simp; omega
theorem rd_get (L : List S59) (j : Nat) (h : j < L.length) : jl_ L (j : Int) = L[j] := by
 unfold jl_; rw [Int.toNat_natCast, List.getD_eq_getElem?_getD, List.getElem?_eq_getElem h]; rfl
end Go.Proofs.Ytgckcaoncjhgbaa.Geo
open Go.RowKit Go.Proofs.Ytgckcaoncjhgbaa Go.Proofs.Ytgckcaoncjhgbaa.PL Go.Proofs.YtgckcaoncjhgbaaW.PrintWords Go.Proofs.YtgckcaoncjhgbaaW.PrintLast
set_option linter.unusedVariables false
set_option linter.unusedSimpArgs false
namespace Go.Proofs.Ytgckcaoncjhgbaa.Geo
theorem rd_at (L : List S59) (i : Int) (h0 : 0 <= i) (h1 : i < (L.length : Int)) : jl_ L i = L[i.toNat]'(by omega) := by
 have := rd_get L i.toNat (by omega)
 rw [Int.toNat_of_nonneg h0] at this
 exact this
theorem cnt_set (lo hi : Int) (L : List S59) (i : Nat) (h : i < L.length) (y : S59) : cntZ lo hi (L.set i y) = cntZ lo hi L - (if lo <= L[i].f0 /\ L[i].f0 <= hi then 1 else 0) + (if lo <= y.f0 /\ y.f0 <= hi then 1 else 0) := by
 unfold cntZ
 rw [List.countP_set h]
 have hp : (decide (lo <= L[i].f0) && decide (L[i].f0 <= hi)) = true -> 0 < L.countP (fun x => decide (lo <= x.f0) && decide (x.f0 <= hi)) := fun e => List.countP_pos_iff.mpr ⟨L[i], List.getElem_mem h, e⟩
 simp only [Bool.and_eq_true, decide_eq_true_eq] at hp ⊢
 by_cases a1 : lo <= L[i].f0 /\ L[i].f0 <= hi
 ·
  have := hp a1
  rw [if_pos a1, if_pos a1]
  split <;> omega
 ·
  rw [if_neg a1, if_neg a1]
  split <;> omega
def Inv (id m u b c z s me o a l : Int) (L : List S59) : Prop := kf_ id m u b c z s me o a l L = true /\ cntZ 1 1 L <= o /\ cntZ 1 2 L <= a
section
variable {id m u b c z s me o a l : Int}
theorem ym_ {L : List S59} {i : Int} {y : S59} (h : Inv id m u b c z s me o a l L) (i0 : 0 <= i) (i1 : i < (L.length : Int)) (hy : rzP (kg_ m u b c z s me o a l) y = true) (h1 : y.f0 = 1 -> (jl_ L i).f0 = 1 \/ cntZ 1 1 L < o) (h2 : 1 <= y.f0 /\ y.f0 <= 2 -> 1 <= (jl_ L i).f0 /\ (jl_ L i).f0 <= 2 \/ cntZ 1 2 L < a) : Inv id m u b c z s me o a l (L.set i.toNat y) := by
 obtain ⟨hr, hc1, hc2⟩ := h
 have hi : i.toNat < L.length := by omega
 rw [rd_at L i i0 i1] at h1 h2
 refine ⟨?_, ?_, ?_⟩
 ·
  simp only [kf_, Bool.and_eq_true, decide_eq_true_eq] at hr ⊢
  refine ⟨hr.1, by rw [List.length_set]; exact hr.2.1, ?_⟩
  rw [List.all_eq_true]
  intro x hx
  rcases List.mem_or_eq_of_mem_set hx with hx | rfl
  · exact List.all_eq_true.mp hr.2.2 x hx
  · exact hy
 ·
  rw [cnt_set 1 1 L _ hi]
  split <;> split <;> omega
 ·
  rw [cnt_set 1 2 L _ hi]
  split <;> split <;> omega
theorem ya_ {L : List S59} {i : Int} (h : Inv id m u b c z s me o a l L) (i0 : 0 <= i) (i1 : i < (L.length : Int)) : rzP (kg_ m u b c z s me o a l) (jl_ L i) = true := by
 have hr := h.1
 simp only [kf_, Bool.and_eq_true, decide_eq_true_eq] at hr
 rw [rd_at L i i0 i1]
 exact List.all_eq_true.mp hr.2.2 _ (List.getElem_mem _)
theorem inv_new (h : jn_ id m u b c z s me o a l = 0) : Inv id m u b c z s me o a l (List.replicate z.toNat z59) := by
 have hb := kB_ (kM_ h).1
 have hc : ∀ lo hi : Int, 1 <= lo -> cntZ lo hi (List.replicate z.toNat z59) = 0 := by
  intro lo hi hlo
  unfold cntZ
  rw [List.countP_replicate, if_neg]
  · rfl
  ·
   have : ¬ lo <= z59.f0 := by show ¬ lo <= 0; omega
   simp [this]
 refine ⟨?_, by rw [hc 1 1 (by omega)]; omega, by rw [hc 1 2 (by omega)]; omega⟩
 unfold kf_
 rw [decide_eq_true h, List.length_replicate, decide_eq_true (by omega), Bool.true_and, Bool.true_and, List.all_eq_true]
 intro x hx
 rw [(List.mem_replicate.mp hx).2]
 rfl
theorem inv_close {L : List S59} {i : Int} (h : Inv id m u b c z s me o a l L) (e : (jV_ id m u b c z s me o a l L i).2 = 0) : ∃ L', (jV_ id m u b c z s me o a l L i).1 = some L' /\ Inv id m u b c z s me o a l L' := by
 unfold jV_ at e ⊢
 by_cases h0 : (atZ id m u b c z s me o a l L i).2 = 0
 ·
  obtain ⟨i0, i1, hl, hx, hr⟩ := vc_ h0
  rw [if_neg (by simp [h0])] at e ⊢
  rw [hx] at e ⊢
  have hz := (rz_iff _ _).mp (ya_ h i0 i1)
  by_cases h1 : (jl_ L i).f0 = 1
  ·
   rw [if_pos h1]
   refine ⟨_, rfl, ym_ h i0 i1 ?_ ?_ ?_⟩
   · rw [rz_iff]; dsimp only; split <;> omega
   · dsimp only; intro q; left; exact h1
   · dsimp only; intro q; left; omega
  · rw [if_neg h1] at e; exact absurd e (by decide)
 · rw [if_pos h0] at e; exact absurd e h0
theorem inv_finish {L : List S59} {i : Int} (h : Inv id m u b c z s me o a l L) (e : (jL_ id m u b c z s me o a l L i).2 = 0) : ∃ L', (jL_ id m u b c z s me o a l L i).1 = some L' /\ Inv id m u b c z s me o a l L' := by
 unfold jL_ at e ⊢
 by_cases h0 : (atZ id m u b c z s me o a l L i).2 = 0
 ·
  obtain ⟨i0, i1, hl, hx, hr⟩ := vc_ h0
  rw [if_neg (by simp [h0])] at e ⊢
  rw [hx] at e ⊢
  have hz := (rz_iff _ _).mp (ya_ h i0 i1)
  have hs := vy_ (ka_ hr).1
  refine ⟨_, rfl, ym_ h i0 i1 ?_ ?_ ?_⟩
  · rw [rz_iff]; dsimp only; omega
  · dsimp only; omega
  · dsimp only; omega
 · rw [if_pos h0] at e; exact absurd e h0
theorem inv_reset {L : List S59} {i : Int} (h : Inv id m u b c z s me o a l L) (e : (jT_ id m u b c z s me o a l L i).2 = 0) : ∃ L', (jT_ id m u b c z s me o a l L i).1 = some L' /\ Inv id m u b c z s me o a l L' := by
 unfold jT_ at e ⊢
 by_cases h0 : (atZ id m u b c z s me o a l L i).2 = 0
 ·
  obtain ⟨i0, i1, hl, hx, hr⟩ := vc_ h0
  rw [if_neg (by simp [h0])] at e ⊢
  rw [hx] at e ⊢
  have hz := (rz_iff _ _).mp (ya_ h i0 i1)
  by_cases h1 : (jl_ L i).f0 = 0
  ·
   rw [if_pos h1]
   exact ⟨_, rfl, ym_ h i0 i1 (ya_ h i0 i1) (fun q => .inl q) (fun q => .inl q)⟩
  ·
   rw [if_neg h1] at e ⊢
   by_cases h2 : 1099511627776 <= (jl_ L i).f2
   · rw [if_pos h2] at e; exact absurd e (by decide)
   ·
    rw [if_neg h2]
    have hw : wrap64 ((jl_ L i).f2 + 1) = (jl_ L i).f2 + 1 := by unfold wrap64; omega
    refine ⟨_, rfl, ym_ h i0 i1 ?_ ?_ ?_⟩
    · rw [rz_iff, hw]; dsimp only; omega
    · dsimp only; omega
    · dsimp only; omega
 · rw [if_pos h0] at e; exact absurd e h0
theorem opened_ok {L : List S59} {x : S59} (e : (jP_ a o L x).2 = 0) (hst : x.f0 = 0 \/ x.f0 = 1 \/ x.f0 = 2) : (jP_ a o L x).1 = ⟨1, x.f1, x.f2⟩ /\ (x.f0 = 1 \/ cntZ 1 1 L < o) /\ (1 <= x.f0 /\ x.f0 <= 2 \/ cntZ 1 2 L < a) := by
 unfold jP_ at e ⊢
 by_cases h1 : x.f0 = 1
 ·
  rw [if_pos h1]; refine ⟨?_, .inl h1, .inl (by omega)⟩
  obtain ⟨st, wp, gen⟩ := x
  dsimp only at h1 ⊢
  rw [h1]
 ·
  rw [if_neg h1] at e ⊢
  by_cases h2 : x.f0 = 0 /\ a <= cntZ 1 2 L
  · rw [if_pos h2] at e; exact absurd e (show ¬ (8 : Int) = 0 by decide)
  ·
   rw [if_neg h2] at e ⊢
   by_cases h3 : o <= cntZ 1 1 L
   · rw [if_pos h3] at e; exact absurd e (show ¬ (7 : Int) = 0 by decide)
   · rw [if_neg h3]; exact ⟨rfl, .inr (by omega), by omega⟩
theorem inv_open {L : List S59} {i : Int} (h : Inv id m u b c z s me o a l L) (e : (kv_ id m u b c z s me o a l L i).2 = 0) : ∃ L', (kv_ id m u b c z s me o a l L i).1 = some L' /\ Inv id m u b c z s me o a l L' := by
 unfold kv_ at e ⊢
 by_cases h0 : (atZ id m u b c z s me o a l L i).2 = 0
 ·
  obtain ⟨i0, i1, hl, hx, hr⟩ := vc_ h0
  rw [if_neg (by simp [h0])] at e ⊢
  rw [hx] at e ⊢
  have hz := (rz_iff _ _).mp (ya_ h i0 i1)
  have hs := vy_ (ka_ hr).1
  by_cases h1 : (jl_ L i).f0 = 3
  · rw [if_pos h1] at e; exact absurd e (by decide)
  ·
   rw [if_neg h1] at e ⊢
   by_cases h2 : (jP_ a o L (jl_ L i)).2 = 0
   ·
    rw [if_neg (by simp [h2])]
    obtain ⟨e1, g1, g2⟩ := opened_ok h2 (by omega)
    rw [e1]
    refine ⟨_, rfl, ym_ h i0 i1 ?_ (fun _ => g1) (fun _ => g2)⟩
    rw [rz_iff]; dsimp only; omega
   · rw [if_pos h2] at e; exact absurd e h2
 · rw [if_pos h0] at e; exact absurd e h0
theorem inv_write {L : List S59} {i p k : Int} (h : Inv id m u b c z s me o a l L) (e : (ke_ id m u b c z s me o a l L i p k).2 = 0) : ∃ L', (ke_ id m u b c z s me o a l L i p k).1 = some L' /\ Inv id m u b c z s me o a l L' := by
 unfold ke_ at e ⊢
 by_cases h0 : (atZ id m u b c z s me o a l L i).2 = 0
 ·
  obtain ⟨i0, i1, hl, hx, hr⟩ := vc_ h0
  rw [if_neg (by simp [h0])] at e ⊢
  rw [hx] at e ⊢
  have hz := (rz_iff _ _).mp (ya_ h i0 i1)
  have hs := vy_ (ka_ hr).1
  by_cases h1 : k < 1
  · rw [if_pos h1] at e; exact absurd e (by decide)
  rw [if_neg h1] at e ⊢
  by_cases h2 : (jl_ L i).f0 = 3
  · rw [if_pos h2] at e; exact absurd e (by decide)
  rw [if_neg h2] at e ⊢
  by_cases h3 : p ≠ (jl_ L i).f1
  · rw [if_pos h3] at e; exact absurd e (by decide)
  rw [if_neg h3] at e ⊢
  by_cases h4 : wrap64 (kg_ m u b c z s me o a l - (jl_ L i).f1) < k
  · rw [if_pos h4] at e; exact absurd e (by decide)
  rw [if_neg h4] at e ⊢
  have hw : wrap64 (kg_ m u b c z s me o a l - (jl_ L i).f1) = kg_ m u b c z s me o a l - (jl_ L i).f1 := by unfold wrap64; omega
  rw [hw] at h4
  have hw2 : wrap64 ((jl_ L i).f1 + k) = (jl_ L i).f1 + k := by unfold wrap64; omega
  by_cases h5 : (jP_ a o L (jl_ L i)).2 = 0
  ·
   rw [if_neg (by simp [h5])]
   obtain ⟨e1, g1, g2⟩ := opened_ok h5 (by omega)
   rw [e1]
   dsimp only
   rw [hw2]
   by_cases h6 : (jl_ L i).f1 + k = kg_ m u b c z s me o a l
   ·
    rw [if_pos h6]
    refine ⟨_, rfl, ym_ h i0 i1 ?_ ?_ ?_⟩
    · rw [rz_iff]; dsimp only; omega
    · dsimp only; omega
    · dsimp only; omega
   ·
    rw [if_neg h6]
    refine ⟨_, rfl, ym_ h i0 i1 ?_ (fun _ => g1) (fun _ => g2)⟩
    rw [rz_iff]; dsimp only; omega
  · rw [if_pos h5] at e; exact absurd e h5
 · rw [if_pos h0] at e; exact absurd e h0
end
end Go.Proofs.Ytgckcaoncjhgbaa.Geo
namespace Go.Proofs.Ytgckcaoncjhgbaa
open Go.RowKit Go.Proofs.Ytgckcaoncjhgbaa.PL Go.Proofs.YtgckcaoncjhgbaaW.PrintWords
structure Mdl where
 L : List S59
 T : List ByteArray
 S : List Int
def flushM (M : Mdl) : Mdl := ⟨M.L, M.T, M.L.map (·.f1)⟩
def withM (M : Mdl) (i : Int) (t : ByteArray) (s : Int) : Mdl := ⟨M.L, M.T.set i.toNat t, M.S.set i.toNat s⟩
def tabOf (r : Option (List S59)) (L : List S59) : List S59 := r.getD L
def jM_ (id m u b c z s me o a l : Int) (M : Mdl) (i p : Int) (d : List Int) (f : Bool) : Mdl × Int :=
 if ¬ (0 <= i /\ i < (M.T.length : Int)) then (M, 2)
 else if ¬ (d.length : Int) % b = 0 then (M, 3)
 else if ¬ (ke_ id m u b c z s me o a l M.L i p ((d.length : Int) / b)).2 = 0 then (M, (ke_ id m u b c z s me o a l M.L i p ((d.length : Int) / b)).2)
 else ((fun N => if f = true then flushM N else N) ⟨tabOf (ke_ id m u b c z s me o a l M.L i p ((d.length : Int) / b)).1 M.L, M.T.set i.toNat (rdOf default M.T i ++ strOfNums d), M.S.set i.toNat (rdOf default M.S i)⟩, 0)
def vY_ (id m u b c z s me o a l : Int) (M : Mdl) (i p n : Int) : Int × ByteArray :=
 if ¬ xo_ id m u b c z s me o a l M.L i p n = 0 then (xo_ id m u b c z s me o a l M.L i p n, ByteArray.empty) else (0, (rdOf default M.T i).extract (p * b).toNat ((p + n) * b).toNat)
def jr_ (M : Mdl) (k i : Int) (r : Option (List S59) × Int) : Mdl × Int :=
 if ¬ r.2 = 0 then (M, r.2)
 else if k = 3 then (withM ⟨tabOf r.1 M.L, M.T, M.S⟩ i ByteArray.empty 0, 0)
 else if k = 4 then (flushM ⟨tabOf r.1 M.L, M.T, M.S⟩, 0)
 else (⟨tabOf r.1 M.L, M.T, M.S⟩, 0)
def doM (id m u b c z s me o a l : Int) (M : Mdl) (x : S65) : Mdl × Int × ByteArray × S59 :=
 if x.f0 = 0 then ((jM_ id m u b c z s me o a l M x.f1 x.f2 x.f4 x.f5).1, (jM_ id m u b c z s me o a l M x.f1 x.f2 x.f4 x.f5).2, ByteArray.empty, z59)
 else if x.f0 = 1 then (M, (vY_ id m u b c z s me o a l M x.f1 x.f2 x.f3).1, (vY_ id m u b c z s me o a l M x.f1 x.f2 x.f3).2, z59)
 else if x.f0 = 2 then (flushM M, 0, ByteArray.empty, z59)
 else if x.f0 = 3 then ((jr_ M 3 x.f1 (jT_ id m u b c z s me o a l M.L x.f1)).1, (jr_ M 3 x.f1 (jT_ id m u b c z s me o a l M.L x.f1)).2, ByteArray.empty, z59)
 else if x.f0 = 4 then ((jr_ M 4 x.f1 (jL_ id m u b c z s me o a l M.L x.f1)).1, (jr_ M 4 x.f1 (jL_ id m u b c z s me o a l M.L x.f1)).2, ByteArray.empty, z59)
 else if x.f0 = 5 then ((jr_ M 5 x.f1 (kv_ id m u b c z s me o a l M.L x.f1)).1, (jr_ M 5 x.f1 (kv_ id m u b c z s me o a l M.L x.f1)).2, ByteArray.empty, z59)
 else if x.f0 = 6 then ((jr_ M 6 x.f1 (jV_ id m u b c z s me o a l M.L x.f1)).1, (jr_ M 6 x.f1 (jV_ id m u b c z s me o a l M.L x.f1)).2, ByteArray.empty, z59)
 else if x.f0 = 7 then (if 0 <= x.f1 /\ x.f1 < (M.T.length : Int) then (M, 0, ByteArray.empty, jl_ M.L x.f1) else (M, 2, ByteArray.empty, z59))
 else (M, 1, ByteArray.empty, z59)
def MInv (id m u b c z s me o a l : Int) (M : Mdl) : Prop :=
 kf_ id m u b c z s me o a l M.L = true /\ M.T.length = M.L.length /\ M.S.length = M.L.length /\
 ∀ j : Nat, j < M.L.length -> ((rdOf default M.T j).size : Int) = (jl_ M.L j).f1 * b /\ 0 <= rdOf default M.S j /\ rdOf default M.S j <= (jl_ M.L j).f1
def MC (w : World) (x y q : Value) (M : Mdl) : Prop := SlC k59 w x M.L /\ SlC Kd.string w y M.T /\ SlC (Kd.int .i64) w q M.S
def MD (base : Nat) (w : World) (x0 y0 q0 : Value) (M0 : Mdl) (x y q : Value) (M : Mdl) : Prop :=
 RowD k59 59 base w x0 M0.L x M.L /\ RowD Kd.string 9 base w y0 M0.T y M.T /\ RowD (Kd.int .i64) 3 base w q0 M0.S q M.S
def MR (base : Nat) (w : World) (x y q : Value) (M : Mdl) : Prop :=
 Kd.R k59 59 w base (fun _ => True) x M.L /\ Kd.R Kd.string 9 w base (fun _ => True) y M.T /\ Kd.R (Kd.int .i64) 3 w base (fun _ => True) q M.S
theorem kL_ {w w' : World} {x y q : Value} {M : Mdl} (h : MC w x y q M) (hb : Below w.heap.size w w') : MC w' x y q M := ⟨kj_ h.1 hb, kj_ h.2.1 hb, kj_ h.2.2 hb⟩
theorem MC_R {base : Nat} {w : World} {x y q : Value} {M : Mdl} (h : MR base w x y q M) : MC w x y q M := ⟨SlC_R h.1, SlC_R h.2.1, SlC_R h.2.2⟩
theorem MD_R {base base' : Nat} {w : World} {x0 y0 q0 x y q : Value} {M0 M : Mdl} (h : MD base w x0 y0 q0 M0 x y q M) (h0 : MR base' w x0 y0 q0 M0) (hb : base' <= base) : MR base' w x y q M := ⟨RowD_R h.1 h0.1 hb, RowD_R h.2.1 h0.2.1 hb, RowD_R h.2.2 h0.2.2 hb⟩
theorem kp_ {base : Nat} {w : World} {x y q : Value} {M : Mdl} : MD base w x y q M x y q M := ⟨kd_, kd_, kd_⟩
section
variable {id m u b c z s me o a l : Int} {L : List S59}
def OneOf (L : List S59) (r : Option (List S59) × Int) : Prop := (¬ r.2 = 0 /\ r.1 = none) \/ (r.2 = 0 /\ ∃ L', r.1 = some L' /\ L'.length = L.length)
theorem kU_ {e : Int} (h : ¬ e = 0) : OneOf L (none, e) := .inl ⟨h, rfl⟩
theorem xL_ (i : Nat) (x : S59) : OneOf L (some (L.set i x), 0) := .inr ⟨rfl, _, rfl, List.length_set⟩
theorem xM_ {p : Prop} [Decidable p] {x y : Option (List S59) × Int} (h : p -> OneOf L x) (h' : ¬ p -> OneOf L y) : OneOf L (if p then x else y) := by
 by_cases hp : p
 · rw [if_pos hp]; exact h hp
 · rw [if_neg hp]; exact h' hp
theorem kY_ (i p k : Int) : OneOf L (ke_ id m u b c z s me o a l L i p k) := by
 unfold ke_
 repeat' (first | exact kU_ (by decide) | exact xL_ _ _ | exact kU_ (by assumption) | (refine xM_ (fun _ => ?_) (fun _ => ?_)))
theorem xV_ (i : Int) : OneOf L (jT_ id m u b c z s me o a l L i) := by
 unfold jT_
 repeat' (first | exact kU_ (by decide) | exact xL_ _ _ | exact kU_ (by assumption) | (refine xM_ (fun _ => ?_) (fun _ => ?_)))
theorem xE_ (i : Int) : OneOf L (jL_ id m u b c z s me o a l L i) := by
 unfold jL_
 repeat' (first | exact kU_ (by decide) | exact xL_ _ _ | exact kU_ (by assumption) | (refine xM_ (fun _ => ?_) (fun _ => ?_)))
theorem yz_ (i : Int) : OneOf L (kv_ id m u b c z s me o a l L i) := by
 unfold kv_
 repeat' (first | exact kU_ (by decide) | exact xL_ _ _ | exact kU_ (by assumption) | (refine xM_ (fun _ => ?_) (fun _ => ?_)))
theorem yc_ (i : Int) : OneOf L (jV_ id m u b c z s me o a l L i) := by
 unfold jV_
 repeat' (first | exact kU_ (by decide) | exact xL_ _ _ | exact kU_ (by assumption) | (refine xM_ (fun _ => ?_) (fun _ => ?_)))
end
section
variable {id m u b c z s me o a l : Int} {base : Nat} {W : World} {v : Value} {L : List S59}
theorem xv_ (h : TabR id m u b c z s me o a l none base W v) : v = tabV 0 0 0 0 0 0 0 0 0 0 0 (.slice none 0 0) := by
 rcases h with ⟨_, h⟩ | ⟨L', y, h1, _⟩
 · exact h
 · cases h1
theorem vA_ (h : TabR id m u b c z s me o a l (some L) base W v) : ∃ (A : Option Addr) (k : Nat), v = tabV id m u b c z s me o a l (.slice A L.length k) /\ Kd.R k59 59 W base (fun _ => True) (.slice A L.length k) L := by
 rcases h with ⟨h, _⟩ | ⟨L', y, h1, h2, h3⟩
 · cases h
 ·
  obtain rfl := Option.some.inj h1
  obtain ⟨A, k, rfl⟩ := Kd.R_slice h3
  exact ⟨A, k, h2, h3⟩
end
theorem readZ_ok {id m u b c z s me o a l : Int} {L : List S59} {i p k : Int} (hrt : kf_ id m u b c z s me o a l L = true) (h : xo_ id m u b c z s me o a l L i p k = 0) : 0 <= i /\ i < (L.length : Int) /\ 1 <= k /\ 0 <= p /\ p + k <= (jl_ L i).f1 := by
 unfold xo_ at h
 by_cases h0 : (atZ id m u b c z s me o a l L i).2 ≠ 0
 · rw [if_pos h0] at h; exact absurd h h0
 rw [if_neg h0] at h
 obtain ⟨i0, i1, _, hz, _⟩ := vc_ (Decidable.not_not.mp h0)
 rw [hz] at h
 have hr := (ka_ hrt).2.2.2
 have hx := List.all_eq_true.1 hr (jl_ L i) (by
  have e : jl_ L i = L[i.toNat]'(by omega) := by simp [jl_, List.getD_eq_getElem?_getD, List.getElem?_eq_getElem (show i.toNat < L.length by omega)]
  rw [e]; exact List.getElem_mem _)
 obtain ⟨_, _, hw, hst⟩ := (Geo.rz_iff _ _).1 hx
 have hb := kB_ (kM_ (ka_ hrt).1).1
 by_cases h1 : k < 1
 · rw [if_pos h1] at h; exact absurd h (by decide)
 rw [if_neg h1] at h
 by_cases h2 : p < 0
 · rw [if_pos h2] at h; exact absurd h (by decide)
 rw [if_neg h2] at h
 by_cases h3 : (jl_ L i).f1 < p
 · rw [if_pos h3] at h; exact absurd h (by decide)
 rw [if_neg h3] at h
 have hsz : (jl_ L i).f1 <= 9223372036854775807 := by have := vy_ (ka_ hrt).1; omega
 have hwr : wrap64 ((jl_ L i).f1 - p) = (jl_ L i).f1 - p := by unfold wrap64; omega
 rw [hwr] at h
 by_cases h4 : (jl_ L i).f1 - p < k
 · rw [if_pos h4] at h; exact absurd h (by decide)
 exact ⟨i0, i1, by omega, by omega, by omega⟩
def RepP (id m u b c z s me o a l : Int) (x y q : Value) (D N : Mdl) (E : Int) (data : List Int) (zn : S59) (w : World) (e : Ending) (w' : World) : Prop :=
 ∃ x' y' q' dv : Value, e = .returned (.tuple #[modV id m u b c z s me o a l x' y' q', repV E dv zn.f0 zn.f1 zn.f2]) /\ MD w.heap.size w' x y q D x' y' q' N /\ BR w' dv data /\ Below w.heap.size w w'
theorem kl_ {id m u b c z s me o a l : Int} {x y q : Value} {D N : Mdl} {E : Int} {data : List Int} {zn : S59} {w : World} {e : Ending} {w' : World} {x' y' q' dv : Value} (h1 : e = .returned (.tuple #[modV id m u b c z s me o a l x' y' q', repV E dv zn.f0 zn.f1 zn.f2])) (h2 : MD w.heap.size w' x y q D x' y' q' N) (h3 : BR w' dv data) (h4 : Below w.heap.size w w') : RepP id m u b c z s me o a l x y q D N E data zn w e w' := ⟨_, _, _, _, h1, h2, h3, h4⟩
theorem jK_ {id m u b c z s me o a l : Int} {x y q : Value} {D : Mdl} {w : World} (h : MC w x y q D) (hi : MInv id m u b c z s me o a l D) : ∃ (A1 A2 A3 : Option Addr) (n1 n2 n3 k1 k2 k3 : Nat), x = .slice A1 n1 k1 /\ y = .slice A2 n2 k2 /\ q = .slice A3 n3 k3 /\ n1 = D.L.length /\ n2 = D.T.length /\ n3 = D.S.length /\ Kd.C k59 w A1 n1 D.L /\ Kd.C Kd.string w A2 n2 D.T /\ Kd.C (Kd.int .i64) w A3 n3 D.S /\ D.L.length <= k1 /\ D.T.length <= k2 /\ D.S.length <= k3 /\ kf_ id m u b c z s me o a l D.L = true /\ n1 <= 64 /\ 0 < n1 /\ n2 = n1 /\ n3 = n1 /\ (1 <= b /\ b <= 4096) := by
 obtain ⟨hrt, hlT, hlS, -⟩ := hi
 have hl0 := ka_ hrt
 have hcb := kB_ (kM_ hl0.1).1
 obtain ⟨⟨A1, k1, e1, hk1, hC1⟩, ⟨A2, k2, e2, hk2, hC2⟩, ⟨A3, k3, e3, hk3, hC3⟩⟩ := h
 exact ⟨A1, A2, A3, _, _, _, k1, k2, k3, e1, e2, e3, rfl, rfl, rfl, hC1, hC2, hC3, hk1, hk2, hk3, hrt, hl0.2.2.1, by have := hl0.2.1; omega, hlT, hlS, by omega⟩
section
variable {α : Type} {k : Kd α} {e base base' : Nat} {w w' : World} {v v0 : Value} {l l0 : List α}
theorem yd_ (h : RowD k e base w v0 l0 v l) (hb : Below w.heap.size w w') : RowD k e base w' v0 l0 v l := by
 rcases h with h | h
 · exact .inl h
 · exact .inr (Kd.R_below h hb)
theorem RowD_st {g i t : Nat} {ys : List Value} {cs : Array Value} (hw : w' = w.setCells g i ys) (h : RowD k e base w v0 l0 v l) (hb : w.heap[g]? = some (.cells cs t (0, 0))) (ht : ∀ q, q ∈ e :: k.E -> q ≠ t) : RowD k e base w' v0 l0 v l := by
 rcases h with h | h
 · exact .inl h
 · exact .inr (st_R hw h hb ht)
theorem kA_ (h : RowD k e base w v0 l0 v l) (hb : base' <= base) : RowD k e base' w v0 l0 v l := by
 rcases h with h | h
 · exact .inl h
 · exact .inr (Kd.R_lower h hb)
theorem vK_ {A : Option Addr} {n c : Nat} (h : RowD k e base w (.slice A n c) l0 v l) : ∃ (A : Option Addr) (n c : Nat), v = .slice A n c := by
 rcases h with ⟨h, _⟩ | h
 · exact ⟨_, _, _, h⟩
 · obtain ⟨A, c, h⟩ := Kd.R_slice h; exact ⟨_, _, _, h⟩
end
theorem ye_ {base base' : Nat} {w : World} {x0 y0 q0 x y q : Value} {D N : Mdl} (h : MD base w x0 y0 q0 D x y q N) (hb : base' <= base) : MD base' w x0 y0 q0 D x y q N := ⟨kA_ h.1 hb, kA_ h.2.1 hb, kA_ h.2.2 hb⟩
def MdF (base : Nat) (x0 y0 q0 : Value) (D : Mdl) (x y q : Value) (N : Mdl) : Fct where
 P := fun W => MD base W x0 y0 q0 D x y q N
 T := [59, 9, 3]
 below := fun hb h => ⟨yd_ h.1 hb, yd_ h.2.1 hb, yd_ h.2.2 hb⟩
 set := fun hw hb ht h => by
  have hn := vJ_ ht
  refine ⟨RowD_st hw h.1 hb (fun q hq => hn q ?_), RowD_st hw h.2.1 hb (fun q hq => hn q ?_), RowD_st hw h.2.2 hb (fun q hq => hn q ?_)⟩
  ·
   have h2 : q ∈ [59] := hq
   rw [List.mem_singleton.1 h2]; decide
  ·
   have h2 : q ∈ [9] := hq
   rw [List.mem_singleton.1 h2]; decide
  ·
   have h2 : q ∈ [3] := hq
   rw [List.mem_singleton.1 h2]; decide
theorem BR_shape {w : World} {v : Value} {l : List Int} (h : BR w v l) : ∃ (A : Option Addr) (n c : Nat), v = .slice A n c := by
 rcases h with ⟨h, _⟩ | ⟨g, c, cs, mk, h, _⟩
 · exact ⟨_, _, _, h⟩
 · exact ⟨_, _, _, h⟩
theorem vC_ {id m u b c z s me o a l : Int} {A1 A2 A3 : Option Addr} {n1 k1 n2 k2 n3 k3 : Nat} {D N : Mdl} {E : Int} {data : List Int} {zn : S59} {w : World} {e : Ending} {w' : World} (h : RepP id m u b c z s me o a l (.slice A1 n1 k1) (.slice A2 n2 k2) (.slice A3 n3 k3) D N E data zn w e w') :
  ∃ (B1 : Option Addr) (m1 j1 : Nat) (B2 : Option Addr) (m2 j2 : Nat) (B3 : Option Addr) (m3 j3 : Nat) (B4 : Option Addr) (m4 j4 : Nat), e = .returned (.tuple #[modV id m u b c z s me o a l (.slice B1 m1 j1) (.slice B2 m2 j2) (.slice B3 m3 j3), repV E (.slice B4 m4 j4) zn.f0 zn.f1 zn.f2]) /\ MD w.heap.size w' (.slice A1 n1 k1) (.slice A2 n2 k2) (.slice A3 n3 k3) D (.slice B1 m1 j1) (.slice B2 m2 j2) (.slice B3 m3 j3) N /\ BR w' (.slice B4 m4 j4) data /\ Below w.heap.size w w' := by
 obtain ⟨x', y', q', dv, he, hM, hB, hb⟩ := h
 obtain ⟨B1, m1, j1, rfl⟩ := vK_ hM.1
 obtain ⟨B2, m2, j2, rfl⟩ := vK_ hM.2.1
 obtain ⟨B3, m3, j3, rfl⟩ := vK_ hM.2.2
 obtain ⟨B4, m4, j4, rfl⟩ := BR_shape hB
 exact ⟨_, _, _, _, _, _, _, _, _, _, _, _, he, hM, hB, hb⟩
theorem resetZ_in {id m u b c z s me o a l : Int} {L : List S59} {i : Int} (h : (jT_ id m u b c z s me o a l L i).2 = 0) : 0 <= i /\ i < (L.length : Int) := by
 unfold jT_ at h
 by_cases h0 : (atZ id m u b c z s me o a l L i).2 ≠ 0
 · rw [if_pos h0] at h; exact absurd h h0
 · have := vc_ (Decidable.not_not.mp h0); exact ⟨this.1, this.2.1⟩
set_option linter.unusedVariables false
section
variable {id m u b c z s me o a l : Int} {L : List S59}
theorem rdZ_set (L : List S59) (i : Int) (y : S59) (i0 : 0 <= i) (i1 : i < (L.length : Int)) (j : Nat) : jl_ (L.set i.toNat y) (j : Int) = if (j : Int) = i then y else jl_ L (j : Int) := by
 have h1 : i.toNat < L.length := by omega
 by_cases h : (j : Int) = i
 ·
  have e : j = i.toNat := by omega
  rw [if_pos h]; subst e
  simp only [jl_, Int.toNat_natCast, List.getD_eq_getElem?_getD, List.getElem?_set_self h1, Option.getD_some]
 ·
  have e : i.toNat ≠ j := by omega
  rw [if_neg h]
  simp [jl_, List.getD_eq_getElem?_getD, List.getElem?_set_ne e]
theorem rdO_set {α : Type} (d : α) (T : List α) (i : Int) (y : α) (i0 : 0 <= i) (i1 : i < (T.length : Int)) (j : Int) (j0 : 0 <= j) : rdOf d (T.set i.toNat y) j = if j = i then y else rdOf d T j := by
 have h1 : i.toNat < T.length := by omega
 by_cases h : j = i
 ·
  subst h
  rw [if_pos rfl]
  simp [rdOf, List.getD_eq_getElem?_getD, List.getElem?_set_self h1]
 ·
  have e : i.toNat ≠ j.toNat := by omega
  rw [if_neg h]
  simp [rdOf, List.getD_eq_getElem?_getD, List.getElem?_set_ne e]
theorem zone_rt {i : Int} (h : kf_ id m u b c z s me o a l L = true) (i0 : 0 <= i) (i1 : i < (L.length : Int)) : rzP (kg_ m u b c z s me o a l) (jl_ L i) = true := by
 refine List.all_eq_true.1 (ka_ h).2.2.2 _ ?_
 have e : jl_ L i = L[i.toNat]'(by omega) := by simp [jl_, List.getD_eq_getElem?_getD, List.getElem?_eq_getElem (show i.toNat < L.length by omega)]
 rw [e]; exact List.getElem_mem _
def Sets (L : List S59) (i : Int) (v : Int) (r : Option (List S59) × Int) : Prop := 0 <= i /\ i < (L.length : Int) /\ ∃ y : S59, r = (some (L.set i.toNat y), 0) /\ y.f1 = v
theorem at_in {i : Int} (h : ¬ (atZ id m u b c z s me o a l L i).2 ≠ 0) : 0 <= i /\ i < (L.length : Int) /\ (atZ id m u b c z s me o a l L i).1 = jl_ L i := by
 have := vc_ (Decidable.not_not.mp h); exact ⟨this.1, this.2.1, this.2.2.2.1⟩
theorem zf_ {i : Int} (h : (jL_ id m u b c z s me o a l L i).2 = 0) : Sets L i (jl_ L i).f1 (jL_ id m u b c z s me o a l L i) := by
 unfold jL_ at h ⊢
 by_cases h0 : (atZ id m u b c z s me o a l L i).2 ≠ 0
 · rw [if_pos h0] at h; exact absurd h h0
 rw [if_neg h0]; obtain ⟨a0, a1, a2⟩ := at_in h0
 exact ⟨a0, a1, _, rfl, by show (atZ id m u b c z s me o a l L i).1.f1 = _; rw [a2]⟩
theorem zS_ {i : Int} (h : (jV_ id m u b c z s me o a l L i).2 = 0) : Sets L i (jl_ L i).f1 (jV_ id m u b c z s me o a l L i) := by
 unfold jV_ at h ⊢
 by_cases h0 : (atZ id m u b c z s me o a l L i).2 ≠ 0
 · rw [if_pos h0] at h; exact absurd h h0
 rw [if_neg h0] at h ⊢; obtain ⟨a0, a1, a2⟩ := at_in h0
 by_cases h1 : (atZ id m u b c z s me o a l L i).1.f0 = 1
 · rw [if_pos h1]; exact ⟨a0, a1, _, rfl, by show (atZ id m u b c z s me o a l L i).1.f1 = _; rw [a2]⟩
 · rw [if_neg h1] at h; exact absurd h (by decide)
theorem zG_ {i : Int} (hr : kf_ id m u b c z s me o a l L = true) (h : (jT_ id m u b c z s me o a l L i).2 = 0) : Sets L i 0 (jT_ id m u b c z s me o a l L i) := by
 unfold jT_ at h ⊢
 by_cases h0 : (atZ id m u b c z s me o a l L i).2 ≠ 0
 · rw [if_pos h0] at h; exact absurd h h0
 rw [if_neg h0] at h ⊢; obtain ⟨a0, a1, a2⟩ := at_in h0
 by_cases h1 : (atZ id m u b c z s me o a l L i).1.f0 = 0
 ·
  rw [if_pos h1]; refine ⟨a0, a1, _, rfl, ?_⟩
  rw [a2] at h1 ⊢
  have hx := zone_rt hr a0 a1
  have := (Geo.rz_iff _ _).1 hx
  omega
 ·
  rw [if_neg h1] at h ⊢
  by_cases h2 : 1099511627776 <= (atZ id m u b c z s me o a l L i).1.f2
  · rw [if_pos h2] at h; exact absurd h (by decide)
  · rw [if_neg h2]; exact ⟨a0, a1, _, rfl, rfl⟩
theorem opened_f1 (x : S59) : (jP_ a o L x).1.f1 = x.f1 := by
 unfold jP_
 repeat' split
 all_goals rfl
theorem openZ_sets {i : Int} (h : (kv_ id m u b c z s me o a l L i).2 = 0) : Sets L i (jl_ L i).f1 (kv_ id m u b c z s me o a l L i) := by
 unfold kv_ at h ⊢
 by_cases h0 : (atZ id m u b c z s me o a l L i).2 ≠ 0
 · rw [if_pos h0] at h; exact absurd h h0
 rw [if_neg h0] at h ⊢; obtain ⟨a0, a1, a2⟩ := at_in h0
 by_cases h1 : (atZ id m u b c z s me o a l L i).1.f0 = 3
 · rw [if_pos h1] at h; exact absurd h (by decide)
 rw [if_neg h1] at h ⊢
 by_cases h2 : (jP_ a o L (atZ id m u b c z s me o a l L i).1).2 ≠ 0
 · rw [if_pos h2] at h; exact absurd h h2
 rw [if_neg h2]; exact ⟨a0, a1, _, rfl, by rw [opened_f1, a2]⟩
theorem zt_ {i p k : Int} (hr : kf_ id m u b c z s me o a l L = true) (h : (ke_ id m u b c z s me o a l L i p k).2 = 0) : Sets L i ((jl_ L i).f1 + k) (ke_ id m u b c z s me o a l L i p k) /\ 1 <= k /\ p = (jl_ L i).f1 /\ (jl_ L i).f1 + k <= kg_ m u b c z s me o a l := by
 unfold ke_ at h ⊢
 by_cases h0 : (atZ id m u b c z s me o a l L i).2 ≠ 0
 · rw [if_pos h0] at h; exact absurd h h0
 rw [if_neg h0] at h ⊢; obtain ⟨a0, a1, a2⟩ := at_in h0
 by_cases h1 : k < 1
 · rw [if_pos h1] at h; exact absurd h (by decide)
 rw [if_neg h1] at h ⊢
 by_cases h2 : (atZ id m u b c z s me o a l L i).1.f0 = 3
 · rw [if_pos h2] at h; exact absurd h (by decide)
 rw [if_neg h2] at h ⊢
 by_cases h3 : p ≠ (atZ id m u b c z s me o a l L i).1.f1
 · rw [if_pos h3] at h; exact absurd h (by decide)
 rw [if_neg h3] at h ⊢
 have hp := Decidable.not_not.mp h3
 rw [a2] at hp h ⊢
 have hx := (Geo.rz_iff _ _).1 (zone_rt hr a0 a1)
 have hz := vy_ (ka_ hr).1
 have hw : wrap64 (kg_ m u b c z s me o a l - (jl_ L i).f1) = kg_ m u b c z s me o a l - (jl_ L i).f1 := by unfold wrap64; omega
 rw [hw] at h ⊢
 by_cases h4 : kg_ m u b c z s me o a l - (jl_ L i).f1 < k
 · rw [if_pos h4] at h; exact absurd h (by decide)
 rw [if_neg h4] at h ⊢
 by_cases h5 : (jP_ a o L (jl_ L i)).2 ≠ 0
 · rw [if_pos h5] at h; exact absurd h h5
 rw [if_neg h5]
 refine ⟨⟨a0, a1, _, rfl, ?_⟩, by omega, hp, by omega⟩
 show wrap64 ((jP_ a o L (jl_ L i)).1.f1 + k) = _
 rw [opened_f1]; unfold wrap64; omega
def zZ_ (id m u b c z s me o a l : Int) (D : Mdl) : Prop := MInv id m u b c z s me o a l D /\ Geo.Inv id m u b c z s me o a l D.L
theorem strOf_size2 (xs : List Int) : (strOfNums xs).size = xs.length := by simp [strOfNums, ByteArray.size]
theorem size_app (x y : ByteArray) : (x ++ y).size = x.size + y.size := ByteArray.size_append
theorem rd_wp {D : Mdl} (h : MInv id m u b c z s me o a l D) (j : Nat) (hj : j < D.L.length) : 0 <= (jl_ D.L j).f1 /\ (jl_ D.L j).f1 <= kg_ m u b c z s me o a l := by
 have := (Geo.rz_iff _ _).1 (zone_rt h.1 (show (0 : Int) <= j by omega) (by omega))
 have := vy_ (ka_ h.1).1
 omega
theorem yL_ {D : Mdl} (h : MInv id m u b c z s me o a l D) {i : Int} (i0 : 0 <= i) (i1 : i < (D.T.length : Int)) : ((rdOf default D.T i).size : Int) <= 1099511627776 := by
 have hj : i.toNat < D.L.length := by have := h.2.1; omega
 have hz := (h.2.2.2 i.toNat hj).1
 have hw := rd_wp h i.toNat hj
 rw [Int.toNat_of_nonneg i0] at hz hw
 have hb := kB_ (kM_ (ka_ h.1).1).1
 have hc := vy_ (ka_ h.1).1
 have h1 : (jl_ D.L i).f1 * b <= 3932160 * b := Int.mul_le_mul_of_nonneg_right (by omega) (by omega)
 omega
theorem xy_ {D : Mdl} (h : MInv id m u b c z s me o a l D) {i p : Int} {n : Nat} (ha : (n : Int) % b = 0) (e : (ke_ id m u b c z s me o a l D.L i p ((n : Int) / b)).2 = 0) : (rdOf default D.T i).size + n <= 1099511627776 := by
 obtain ⟨⟨i0, i1, _⟩, hk, _, hs⟩ := zt_ h.1 e
 have hz := (h.2.2.2 i.toNat (by omega)).1
 have hw := rd_wp h i.toNat (by omega)
 rw [Int.toNat_of_nonneg i0] at hz hw
 have hb := kB_ (kM_ (ka_ h.1).1).1
 have hc := vy_ (ka_ h.1).1
 have hn : (n : Int) = (n : Int) / b * b := (Int.ediv_mul_cancel_of_emod_eq_zero ha).symm
 have h1 : ((jl_ D.L i).f1 + (n : Int) / b) * b <= 3932160 * b := Int.mul_le_mul_of_nonneg_right (by omega) (by omega)
 rw [Int.add_mul, <- hz, <- hn] at h1
 omega
theorem minv_set {D : Mdl} (h : MInv id m u b c z s me o a l D) {i : Int} {y : S59} {t : ByteArray} {sf : Int} (i0 : 0 <= i) (i1 : i < (D.L.length : Int)) (hr : kf_ id m u b c z s me o a l (D.L.set i.toNat y) = true) (ht : (t.size : Int) = y.f1 * b) (hs : 0 <= sf /\ sf <= y.f1) : MInv id m u b c z s me o a l ⟨D.L.set i.toNat y, D.T.set i.toNat t, D.S.set i.toNat sf⟩ := by
 obtain ⟨h1, h2, h3, h4⟩ := h
 refine ⟨hr, by simp [h2], by simp [h3], fun j hj => ?_⟩
 have hj' : j < D.L.length := by simpa using hj
 show ((rdOf default (D.T.set i.toNat t) (j : Int)).size : Int) = (jl_ (D.L.set i.toNat y) (j : Int)).f1 * b /\ 0 <= rdOf default (D.S.set i.toNat sf) (j : Int) /\ rdOf default (D.S.set i.toNat sf) (j : Int) <= (jl_ (D.L.set i.toNat y) (j : Int)).f1
 rw [rdZ_set D.L i y i0 i1, rdO_set default D.T i t i0 (by omega) j (by omega), rdO_set default D.S i sf i0 (by omega) j (by omega)]
 by_cases e : (j : Int) = i
 · rw [if_pos e, if_pos e, if_pos e]; exact ⟨ht, hs⟩
 · rw [if_neg e, if_neg e, if_neg e]; exact h4 j hj'
theorem yS_ {D : Mdl} (h : MInv id m u b c z s me o a l D) : MInv id m u b c z s me o a l (flushM D) := by
 obtain ⟨h1, h2, h3, h4⟩ := h
 refine ⟨h1, h2, by simp [flushM], fun j hj => ⟨(h4 j hj).1, ?_⟩⟩
 have hj' : j < D.L.length := hj
 have e : rdOf default (D.L.map (·.f1)) (j : Int) = (jl_ D.L (j : Int)).f1 := by
  simp [rdOf, jl_, List.getD_eq_getElem?_getD, List.getElem?_eq_getElem hj']
 show 0 <= rdOf default (D.L.map (·.f1)) (j : Int) /\ rdOf default (D.L.map (·.f1)) (j : Int) <= (jl_ D.L (j : Int)).f1
 rw [e]
 have := (rd_wp ⟨h1, h2, h3, h4⟩ j hj').1
 exact ⟨this, by omega⟩
theorem zr_ {α : Type} (d : α) (T : List α) (i : Int) (i0 : 0 <= i) (i1 : i < (T.length : Int)) : T.set i.toNat (rdOf d T i) = T := by
 have h : i.toNat < T.length := by omega
 have e : rdOf d T i = T[i.toNat] := by simp [rdOf, List.getD_eq_getElem?_getD, List.getElem?_eq_getElem h]
 rw [e]; exact List.set_getElem_self h
theorem minv_keep {D : Mdl} (h : MInv id m u b c z s me o a l D) {i : Int} {y : S59} (i0 : 0 <= i) (i1 : i < (D.L.length : Int)) (hr : kf_ id m u b c z s me o a l (D.L.set i.toNat y) = true) (hy : y.f1 = (jl_ D.L i).f1) : MInv id m u b c z s me o a l ⟨D.L.set i.toNat y, D.T, D.S⟩ := by
 have hz := h.2.2.2 i.toNat (by omega)
 rw [Int.toNat_of_nonneg i0] at hz
 have := minv_set h (t := rdOf default D.T i) (sf := rdOf default D.S i) i0 i1 hr (by rw [hy]; exact hz.1) (by rw [hy]; exact hz.2)
 rw [zr_ default D.T i i0 (by have := h.2.1; omega), zr_ default D.S i i0 (by have := h.2.2.1; omega)] at this
 exact this
theorem writeM_ok {D : Mdl} (h : zZ_ id m u b c z s me o a l D) {i p : Int} {d : List Int} {f : Bool} (e : (jM_ id m u b c z s me o a l D i p d f).2 = 0) : 0 <= i /\ i < (D.L.length : Int) /\ zZ_ id m u b c z s me o a l (jM_ id m u b c z s me o a l D i p d f).1 /\ (jM_ id m u b c z s me o a l D i p d f).1.T = D.T.set i.toNat (rdOf default D.T i ++ strOfNums d) := by
 unfold jM_ at e ⊢
 by_cases h0 : ¬ (0 <= i /\ i < (D.T.length : Int))
 · rw [if_pos h0] at e; exact absurd e (by show ¬ (2 : Int) = 0; decide)
 rw [if_neg h0] at e ⊢
 by_cases h1 : ¬ (d.length : Int) % b = 0
 · rw [if_pos h1] at e; exact absurd e (by show ¬ (3 : Int) = 0; decide)
 rw [if_neg h1] at e ⊢
 by_cases h2 : ¬ (ke_ id m u b c z s me o a l D.L i p ((d.length : Int) / b)).2 = 0
 · rw [if_pos h2] at e; exact absurd e h2
 rw [if_neg h2] at e ⊢
 have h2 := Decidable.not_not.mp h2; have h1 := Decidable.not_not.mp h1
 obtain ⟨⟨i0, i1, y, hy, hy1⟩, hk, hp, _⟩ := zt_ h.1.1 h2
 obtain ⟨L', hL, hI⟩ := Geo.inv_write h.2 h2
 rw [hy] at hL ⊢
 obtain rfl := Option.some.inj hL
 have hz := h.1.2.2.2 i.toNat (by omega)
 rw [Int.toNat_of_nonneg i0] at hz
 have hm : MInv id m u b c z s me o a l ⟨D.L.set i.toNat y, D.T.set i.toNat (rdOf default D.T i ++ strOfNums d), D.S.set i.toNat (rdOf default D.S i)⟩ := by
  refine minv_set h.1 i0 i1 hI.1 ?_ ?_
  ·
   rw [size_app, strOf_size2, hy1]; push_cast
   rw [hz.1, Int.add_mul, Int.ediv_mul_cancel_of_emod_eq_zero h1]
  · rw [hy1]; omega
 refine ⟨i0, i1, ?_, ?_⟩
 ·
  cases f
  · exact ⟨hm, hI⟩
  · exact ⟨yS_ hm, hI⟩
 · cases f <;> rfl
theorem changeM_ok {D : Mdl} (h : zZ_ id m u b c z s me o a l D) {k i v : Int} {r : Option (List S59) × Int} (hs : Sets D.L i v r) (hI : ∃ L', r.1 = some L' /\ Geo.Inv id m u b c z s me o a l L') (hv : k = 3 -> v = 0) (hw : ¬ k = 3 -> v = (jl_ D.L i).f1) : zZ_ id m u b c z s me o a l (jr_ D k i r).1 /\ (jr_ D k i r).1.T = if k = 3 then D.T.set i.toNat ByteArray.empty else D.T := by
 obtain ⟨i0, i1, y, rfl, hy⟩ := hs
 obtain ⟨L', hL, hI⟩ := hI
 obtain rfl := Option.some.inj hL
 unfold jr_
 rw [if_neg (by simp)]
 by_cases h3 : k = 3
 ·
  rw [if_pos h3, if_pos h3]
  refine ⟨⟨?_, hI⟩, rfl⟩
  exact minv_set h.1 i0 i1 hI.1 (by rw [hy, hv h3]; simp [ByteArray.size]) (by rw [hy, hv h3]; omega)
 ·
  have hm : MInv id m u b c z s me o a l ⟨D.L.set i.toNat y, D.T, D.S⟩ := minv_keep h.1 i0 i1 hI.1 (by rw [hy, hw h3])
  rw [if_neg h3, if_neg h3]
  by_cases h4 : k = 4
  · rw [if_pos h4]; exact ⟨⟨yS_ hm, hI⟩, rfl⟩
  · rw [if_neg h4]; exact ⟨⟨hm, hI⟩, rfl⟩
theorem writeM_err {D : Mdl} {i p : Int} {d : List Int} {f : Bool} (e : ¬ (jM_ id m u b c z s me o a l D i p d f).2 = 0) : (jM_ id m u b c z s me o a l D i p d f).1 = D := by
 unfold jM_ at e ⊢
 by_cases h0 : ¬ (0 <= i /\ i < (D.T.length : Int))
 · rw [if_pos h0]
 rw [if_neg h0] at e ⊢
 by_cases h1 : ¬ (d.length : Int) % b = 0
 · rw [if_pos h1]
 rw [if_neg h1] at e ⊢
 by_cases h2 : ¬ (ke_ id m u b c z s me o a l D.L i p ((d.length : Int) / b)).2 = 0
 · rw [if_pos h2]
 rw [if_neg h2] at e
 exact absurd rfl e
theorem zU_ {D : Mdl} {k i : Int} {r : Option (List S59) × Int} (e : ¬ (jr_ D k i r).2 = 0) : (jr_ D k i r).1 = D := by
 unfold jr_ at e ⊢
 by_cases h : ¬ r.2 = 0
 · rw [if_pos h]
 ·
  rw [if_neg h] at e
  exfalso; revert e
  repeat' split
  all_goals simp
theorem changeM_two {D : Mdl} {k i : Int} {r : Option (List S59) × Int} : (jr_ D k i r).2 = 0 ↔ r.2 = 0 := by
 unfold jr_
 by_cases h : ¬ r.2 = 0
 · rw [if_pos h]
 ·
  rw [if_neg h]
  have h := Decidable.not_not.mp h
  repeat' split
  all_goals simp [h]
def TextIs (D : Mdl) (x : S65) (N : Mdl) (e : Int) : Prop :=
 N.T = if e = 0 /\ x.f0 = 0 then D.T.set x.f1.toNat (rdOf default D.T x.f1 ++ strOfNums x.f4) else if e = 0 /\ x.f0 = 3 then D.T.set x.f1.toNat ByteArray.empty else D.T
theorem doM_ok {D : Mdl} (h : zZ_ id m u b c z s me o a l D) (x : S65) : zZ_ id m u b c z s me o a l (doM id m u b c z s me o a l D x).1 /\ TextIs D x (doM id m u b c z s me o a l D x).1 (doM id m u b c z s me o a l D x).2.1 /\ (((doM id m u b c z s me o a l D x).2.1 = 0 /\ (x.f0 = 0 \/ x.f0 = 3)) -> 0 <= x.f1 /\ x.f1 < (D.L.length : Int)) := by
 have hch : ∀ (k : Int) (r : Option (List S59) × Int) (v : Int), x.f0 = k -> ¬ k = 0 -> (r.2 = 0 -> Sets D.L x.f1 v r) -> (r.2 = 0 -> ∃ L', r.1 = some L' /\ Geo.Inv id m u b c z s me o a l L') -> (k = 3 -> v = 0) -> (¬ k = 3 -> v = (jl_ D.L x.f1).f1) -> zZ_ id m u b c z s me o a l (jr_ D k x.f1 r).1 /\ TextIs D x (jr_ D k x.f1 r).1 (jr_ D k x.f1 r).2 /\ (((jr_ D k x.f1 r).2 = 0 /\ (x.f0 = 0 \/ x.f0 = 3)) -> 0 <= x.f1 /\ x.f1 < (D.L.length : Int)) := by
  intro k r v hk k0 hs hI hv hw
  by_cases e : (jr_ D k x.f1 r).2 = 0
  ·
   have e2 := changeM_two.1 e
   have := changeM_ok h (hs e2) (hI e2) hv hw
   refine ⟨this.1, ?_, fun _ => ⟨(hs e2).1, (hs e2).2.1⟩⟩
   unfold TextIs
   rw [this.2, e, hk]
   by_cases h3 : k = 3
   · simp [h3]
   · simp [h3, k0]
  ·
   refine ⟨by rw [zU_ e]; exact h, ?_, fun hh => absurd hh.1 e⟩
   unfold TextIs
   rw [zU_ e, if_neg (fun hh => e hh.1), if_neg (fun hh => e hh.1)]
 unfold doM
 by_cases k0 : x.f0 = 0
 ·
  rw [if_pos k0]
  by_cases e : (jM_ id m u b c z s me o a l D x.f1 x.f2 x.f4 x.f5).2 = 0
  ·
   obtain ⟨i0, i1, hm, ht⟩ := writeM_ok h e
   exact ⟨hm, by show _ = _; rw [ht, if_pos ⟨e, k0⟩], fun _ => ⟨i0, i1⟩⟩
  ·
   refine ⟨by show zZ_ id m u b c z s me o a l (jM_ id m u b c z s me o a l D x.f1 x.f2 x.f4 x.f5).1; rw [writeM_err e]; exact h, ?_, fun hh => absurd hh.1 e⟩
   show (jM_ id m u b c z s me o a l D x.f1 x.f2 x.f4 x.f5).1.T = _
   rw [writeM_err e, if_neg (fun hh => e hh.1), if_neg (fun hh => e hh.1)]
 rw [if_neg k0]
 by_cases k1 : x.f0 = 1
 ·
  rw [if_pos k1]
  refine ⟨h, ?_, fun hh => by omega⟩
  show D.T = _
  rw [if_neg (fun hh => by omega), if_neg (fun hh => by omega)]
 rw [if_neg k1]
 by_cases k2 : x.f0 = 2
 ·
  rw [if_pos k2]
  refine ⟨⟨yS_ h.1, h.2⟩, ?_, fun hh => by omega⟩
  show D.T = _
  rw [if_neg (fun hh => by omega), if_neg (fun hh => by omega)]
 rw [if_neg k2]
 by_cases k3 : x.f0 = 3
 · rw [if_pos k3]; exact hch 3 _ 0 k3 (by decide) (zG_ h.1.1) (Geo.inv_reset h.2) (fun _ => rfl) (fun hh => absurd rfl hh)
 rw [if_neg k3]
 by_cases k4 : x.f0 = 4
 · rw [if_pos k4]; exact hch 4 _ _ k4 (by decide) zf_ (Geo.inv_finish h.2) (fun hh => absurd hh (by decide)) (fun _ => rfl)
 rw [if_neg k4]
 by_cases k5 : x.f0 = 5
 · rw [if_pos k5]; exact hch 5 _ _ k5 (by decide) openZ_sets (Geo.inv_open h.2) (fun hh => absurd hh (by decide)) (fun _ => rfl)
 rw [if_neg k5]
 by_cases k6 : x.f0 = 6
 · rw [if_pos k6]; exact hch 6 _ _ k6 (by decide) zS_ (Geo.inv_close h.2) (fun hh => absurd hh (by decide)) (fun _ => rfl)
 rw [if_neg k6]
 have hsame : ∀ e : Int, TextIs D x D e := fun e => by
  unfold TextIs; rw [if_neg (fun hh => by omega), if_neg (fun hh => by omega)]
 by_cases k7 : x.f0 = 7
 ·
  rw [if_pos k7]
  by_cases hin : 0 <= x.f1 /\ x.f1 < (D.T.length : Int)
  · rw [if_pos hin]; exact ⟨h, hsame _, fun hh => by omega⟩
  · rw [if_neg hin]; exact ⟨h, hsame _, fun hh => by omega⟩
 · rw [if_neg k7]; exact ⟨h, hsame _, fun hh => by omega⟩
end
end Go.Proofs.Ytgckcaoncjhgbaa
