/- lzone.Counts: how many zones are open, and in use. -/
import Derived.WalkKit
import Derived.WalkSpells
import Derived.WalkLawsBesides
import Derived.Lib.Hide
import Derived.Test.YtgckcaoncjhgbaaLzWords
namespace Go.Proofs.Ytgckcaoncjhgbaa
open Go.RowKit Go.Proofs.Ytgckcaoncjhgbaa.PL Go.Proofs.YtgckcaoncjhgbaaW.PrintWords Go.Proofs.YtgckcaoncjhgbaaW.PrintLast
set_option linter.unusedVariables false
set_option linter.unusedSimpArgs false
/-- How many have a state from one to another. -/
def cntZ (lo hi : Int) (L : List S59) : Int := (L.countP (fun x => decide (lo ≤ x.f0) && decide (x.f0 ≤ hi)) : Nat)
theorem cntZ_le (lo hi : Int) (L : List S59) : 0 ≤ cntZ lo hi L ∧ cntZ lo hi L ≤ L.length := by
  unfold cntZ; have := List.countP_le_length (p := fun x : S59 => decide (lo ≤ x.f0) && decide (x.f0 ≤ hi)) (l := L); omega
theorem cntZ_next (lo hi : Int) (L : List S59) (j : Nat) (h : j < L.length) : cntZ lo hi (L.take (j + 1)) = cntZ lo hi (L.take j) + (if lo ≤ (rd_T59 L (j : Int)).f0 ∧ (rd_T59 L (j : Int)).f0 ≤ hi then 1 else 0) := by
  have e : rd_T59 L (j : Int) = L[j] := by unfold rd_T59; rw [Int.toNat_natCast, List.getD_eq_getElem?_getD, List.getElem?_eq_getElem h]; rfl
  unfold cntZ
  rw [e, List.take_add_one, List.countP_append, List.getElem?_eq_getElem h]
  simp only [Option.toList_some, List.countP_singleton]
  split <;> split <;> simp_all <;> omega
set_option maxHeartbeats 2000000 in
set_option maxRecDepth 100000 in
theorem counts_any (id m u b c z s me o a l : Int) (A0 : Option Addr) (c0 : Nat) (L : List S59) (w : World) (hr0 : Kd.C k59 w A0 L.length L) (hc0 : L.length ≤ c0) :
    Calls Try.prog 18 #[tabV id m u b c z s me o a l (.slice A0 L.length c0)] w fun e w' => e = .returned (.tuple #[.int .i64 (cntZ 1 1 L), .int .i64 (cntZ 1 2 L)]) ∧ Below w.heap.size w w' := by
  have HR := Lib.hid hr0
  obtain ⟨n, hn⟩ : ∃ n, n = L.length := ⟨_, rfl⟩
  rw [← hn]
  have Hn := Lib.hid hn
  clear hr0 hn
  have H := al1 w (tabO id m u b c z s me o a l (.slice A0 n c0))
  have HB0 := Lib.hid H.2
  obtain ⟨x0, x1, x2, x3, x4, x5, x6, x7, x8, x9, x10, x11⟩ := cz12 H.1
  clear H
  have HM := Lib.hid (Kd.C_max HR.out)
  go_enter Try.func18, Try.ntmps18
  go_wp2
  clear x0 x1 x2 x3 x4 x5 x6 x7 x8 x9 x10 x11
  go_loopw [2, 3, 9] (fun v2 v3 v9 wr => ∃ j : Nat, v2 = .int .i64 (cntZ 1 1 (L.take j)) ∧ v3 = .int .i64 (cntZ 1 2 (L.take j)) ∧ v9 = .int .i64 j ∧ j ≤ n ∧ Hid (Below w.heap.size w wr)) (fun v2 v3 v9 _ => ((n : Int) - intOf v9).toNat)
  case atStart => exact ⟨0, by simp [cntZ], by simp [cntZ], rfl, by omega, HB0⟩
  case round =>
    obtain ⟨j, rfl, rfl, rfl, hj, HB⟩ := hrel
    by_cases hlt : j < n
    · have c1 : (j : Int) < (n : Int) := by omega
      have hC := Kd.C_below HR.out HB.out
      obtain ⟨ad, e, y0, y1, y2⟩ := at_T59 hC (j : Int) (by omega) (by have := Hn.out; omega)
      subst e
      have hM := HM.out; have hN := Hn.out
      have n1 := cntZ_next 1 1 L j (by omega)
      have n2 := cntZ_next 1 2 L j (by omega)
      have l1 := cntZ_le 1 1 (L.take j); have l2 := cntZ_le 1 2 (L.take j)
      rw [List.length_take] at l1 l2
      obtain ⟨x, hx⟩ : ∃ x, x = rd_T59 L (j : Int) := ⟨_, rfl⟩
      rw [← hx] at y0 y1 y2 n1 n2
      simp only [Int.toNat_natCast] at y0 y1 y2
      clear hx hC
      have z0 : ∀ W : World, (W.alloc (zoO x.f0 x.f1 x.f2)).cell? ⟨W.heap.size, 0, none⟩ = some (.int .i64 x.f0) := fun W => (blk_cell (blk_new W _) 0).trans rfl
      have N1 := Lib.hid n1; have N2 := Lib.hid n2; have L1 := Lib.hid l1; have L2 := Lib.hid l2; have HN := Lib.hid hN; clear n1 n2 l1 l2 hN
      have fin : ∀ W : World, Below w.heap.size w W → ∃ j' : Nat, Value.int .i64 (cntZ 1 1 (L.take (j + 1))) = .int .i64 (cntZ 1 1 (L.take j')) ∧ Value.int .i64 (cntZ 1 2 (L.take (j + 1))) = .int .i64 (cntZ 1 2 (L.take j')) ∧ Value.int .i64 ((j + 1 : Nat) : Int) = .int .i64 (j' : Int) ∧ j' ≤ n ∧ Hid (Below w.heap.size w W) := fun W h => ⟨j + 1, rfl, rfl, rfl, by omega, Lib.hid h⟩
      have e2 : wrap64 ((j : Int) + 1) = ((j + 1 : Nat) : Int) := by have := HN.out; unfold wrap64; push_cast; omega
      by_cases s1 : x.f0 = 1
      · have s1b : (x.f0 == 1) = true := beq_iff_eq.mpr s1
        have e3 : wrap64 (cntZ 1 1 (L.take j) + 1) = cntZ 1 1 (L.take (j + 1)) := by have t := N1.out; have := L1.out; have := HN.out; rw [if_pos (show 1 ≤ x.f0 ∧ x.f0 ≤ 1 by omega)] at t; unfold wrap64; omega
        have e4 : wrap64 (cntZ 1 2 (L.take j) + 1) = cntZ 1 2 (L.take (j + 1)) := by have t := N2.out; have := L2.out; have := HN.out; rw [if_pos (show 1 ≤ x.f0 ∧ x.f0 ≤ 2 by omega)] at t; unfold wrap64; omega
        have E2 := Lib.hid e2; have E3 := Lib.hid e3; have E4 := Lib.hid e4; clear e2 e3 e4 s1
        go_wp2
        rw [E2.out, E3.out, E4.out]
        exact ⟨fin _ (below_alloc HB.out _), by simp only [intOf]; push_cast; omega⟩
      · have s1b : (x.f0 == 1) = false := beq_eq_false_iff_ne.mpr s1
        have e3 : cntZ 1 1 (L.take (j + 1)) = cntZ 1 1 (L.take j) := by have := N1.out; rw [if_neg (by omega)] at this; omega
        by_cases s2 : x.f0 = 2
        · have s2b : (x.f0 == 2) = true := beq_iff_eq.mpr s2
          have e4 : wrap64 (cntZ 1 2 (L.take j) + 1) = cntZ 1 2 (L.take (j + 1)) := by have t := N2.out; have := L2.out; have := HN.out; rw [if_pos (show 1 ≤ x.f0 ∧ x.f0 ≤ 2 by omega)] at t; unfold wrap64; omega
          have E2 := Lib.hid e2; have E3 := Lib.hid e3; have E4 := Lib.hid e4; clear e2 e3 e4 s1 s2
          go_wp2
          rw [E2.out, ← E3.out, E4.out]
          exact ⟨fin _ (below_alloc HB.out _), by simp only [intOf]; push_cast; omega⟩
        · have s2b : (x.f0 == 2) = false := beq_eq_false_iff_ne.mpr s2
          have e4 : cntZ 1 2 (L.take (j + 1)) = cntZ 1 2 (L.take j) := by have := N2.out; rw [if_neg (by omega)] at this; omega
          have E2 := Lib.hid e2; have E3 := Lib.hid e3; have E4 := Lib.hid e4; clear e2 e3 e4 s1 s2
          go_wp2
          rw [E2.out, ← E3.out, ← E4.out]
          exact ⟨fin _ (below_alloc HB.out _), by simp only [intOf]; push_cast; omega⟩
    · have e : j = n := by omega
      go_wp2
      refine bodyPost_ret (results_tmp2 rfl _ _ _) rfl ?_
      exact ⟨by rw [e, Hn.out, List.take_length]; rfl, HB.out⟩
end Go.Proofs.Ytgckcaoncjhgbaa
