/- lzone.rightZone: may a zone be? The closure over the size, slices.IndexFunc, ContainsFunc. -/
import Derived.WalkKit
import Derived.WalkSpells
import Derived.WalkLawsBesides
import Derived.Lib.Hide
import Derived.Test.YtgckcaoncjhgbaaPLx0
namespace Go.Proofs.Ytgckcaoncjhgbaa
open Go.RowKit Go.Proofs.Ytgckcaoncjhgbaa.PL Go.Proofs.YtgckcaoncjhgbaaW.PrintWords Go.Proofs.YtgckcaoncjhgbaaW.PrintLast
set_option linter.unusedVariables false
set_option linter.unusedSimpArgs false
def rzB (low high : Int) (z : S59) : Bool := decide (low ≤ z.f1) && (decide (z.f1 ≤ high) && (decide (0 ≤ z.f2) && decide (z.f2 ≤ 1099511627776)))
/-- May a zone be, of a size? -/
def rzP (size : Int) (z : S59) : Bool := if z.f0 = 0 then rzB 0 0 z else if z.f0 = 2 then rzB 1 (size - 1) z else if z.f0 = 1 then rzB 0 (size - 1) z else if z.f0 = 3 then rzB 0 size z else false
set_option maxHeartbeats 2000000 in
set_option maxRecDepth 100000 in
theorem rightZone_any (z : S59) (size : Int) (h0 : 0 ≤ size) (h1 : size ≤ 1000000000) (w : World) :
    Calls Try.prog 71 #[.agg #[.int .i64 z.f0, .int .i64 z.f1, .int .i64 z.f2], .int .i64 size] w fun e w' => e = .returned (.bool (rzP size z)) ∧ Below w.heap.size w w' := by
  obtain ⟨st, wp, gen⟩ := z
  have hw : wrap64 (size - 1) = size - 1 := by unfold wrap64; omega
  have hb := blk_new w (.cells #[.int .i64 st, .int .i64 wp, .int .i64 gen] 59)
  have x0 := (blk_cell hb 0).trans rfl
  have x1 := (blk_cell hb 1).trans rfl
  have x2 := (blk_cell hb 2).trans rfl
  have key : ∀ low high : Int, rzB low high ⟨st, wp, gen⟩ = (decide (low ≤ wp) && (decide (wp ≤ high) && (decide (0 ≤ gen) && decide (gen ≤ 1099511627776)))) := fun _ _ => rfl
  clear hb
  have hr : rzP size ⟨st, wp, gen⟩ = (if st = 0 then rzB 0 0 ⟨st, wp, gen⟩ else if st = 2 then rzB 1 (size - 1) ⟨st, wp, gen⟩ else if st = 1 then rzB 0 (size - 1) ⟨st, wp, gen⟩ else if st = 3 then rzB 0 size ⟨st, wp, gen⟩ else false) := rfl
  by_cases c0 : st = 0
  · rw [hr, if_pos c0, key]; clear hr key
    subst c0
    go_enter Try.func71, Try.ntmps71
    go_wp2
    all_goals (go_ret; refine ⟨?_, below_alloc (Below.refl _ w) _⟩; first | rfl | (simp [*]; done) | (simp [*]; omega) | (congr 2; symm; simp; omega))
  · rw [hr, if_neg c0]; clear hr
    have c0b : (st == 0) = false := beq_eq_false_iff_ne.mpr c0
    by_cases c2 : st = 2
    · rw [if_pos c2, key]; clear key
      subst c2
      go_enter Try.func71, Try.ntmps71
      go_wp2
      all_goals (go_ret; refine ⟨?_, below_alloc (Below.refl _ w) _⟩; first | rfl | (simp [*]; done) | (simp [*]; omega) | (congr 2; symm; simp; omega))
    · have c2b : (st == 2) = false := beq_eq_false_iff_ne.mpr c2
      rw [if_neg c2]
      by_cases c1 : st = 1
      · rw [if_pos c1, key]; clear key
        subst c1
        go_enter Try.func71, Try.ntmps71
        go_wp2
        all_goals (go_ret; refine ⟨?_, below_alloc (Below.refl _ w) _⟩; first | rfl | (simp [*]; done) | (simp [*]; omega) | (congr 2; symm; simp; omega))
      · have c1b : (st == 1) = false := beq_eq_false_iff_ne.mpr c1
        rw [if_neg c1]
        by_cases c3 : st = 3
        · rw [if_pos c3, key]; clear key
          subst c3
          go_enter Try.func71, Try.ntmps71
          go_wp2
          all_goals (go_ret; refine ⟨?_, below_alloc (Below.refl _ w) _⟩; first | rfl | (simp [*]; done) | (simp [*]; omega) | (congr 2; symm; simp; omega))
        · have c3b : (st == 3) = false := beq_eq_false_iff_ne.mpr c3
          rw [if_neg c3]; clear key
          go_enter Try.func71, Try.ntmps71
          go_wp2
          all_goals (go_ret; refine ⟨?_, below_alloc (Below.refl _ w) _⟩; first | rfl | (simp [*]; done) | (simp [*]; omega) | (congr 2; symm; simp; omega))
set_option maxHeartbeats 2000000 in
set_option maxRecDepth 100000 in
theorem notRight_any (z : S59) (size : Int) (h0 : 0 ≤ size) (h1 : size ≤ 1000000000) (B : Nat) (w : World) (hB : w.heap[B]? = some (.cells #[.int .i64 size] 3 (0, 0))) :
    Calls Try.prog 70 #[.agg #[.int .i64 z.f0, .int .i64 z.f1, .int .i64 z.f2], .pointer (some ⟨B, 0, none⟩)] w fun e w' => e = .returned (.bool (!rzP size z)) ∧ Below w.heap.size w w' := by
  have hb := blk_new w (.cells #[.int .i64 z.f0, .int .i64 z.f1, .int .i64 z.f2] 59)
  have x0 := (blk_cell hb 0).trans rfl
  have x1 := (blk_cell hb 1).trans rfl
  have x2 := (blk_cell hb 2).trans rfl
  have y0 := (blk_cell (blk_alloc hB (.cells #[.int .i64 z.f0, .int .i64 z.f1, .int .i64 z.f2] 59)) 0).trans rfl
  clear hb hB
  go_enter Try.func70, Try.ntmps70
  go_wp2_with (go_at_call 71; refine (rightZone_any z size h0 h1 _).mono ?_; rintro e w1 ⟨rfl, hb1⟩; have HB1 := Lib.hid (below_step (below_alloc (Below.refl _ w) (.cells #[.int .i64 z.f0, .int .i64 z.f1, .int .i64 z.f2] 59)) hb1); clear hb1)
  go_ret
  exact ⟨rfl, HB1.out⟩
set_option maxHeartbeats 2000000 in
set_option maxRecDepth 100000 in
theorem index_any (A0 : Option Addr) (c0 : Nat) (L : List S59) (size : Int) (h0 : 0 ≤ size) (h1 : size ≤ 1000000000) (B : Nat) (w : World) (hB : w.heap[B]? = some (.cells #[.int .i64 size] 3 (0, 0))) (hr0 : Kd.C k59 w A0 L.length L) (hc0 : L.length ≤ c0) :
    Calls Try.prog 108 #[.slice A0 L.length c0, .func (.func 70) #[] #[.pointer (some ⟨B, 0, none⟩)]] w fun e w' => ∃ i : Int, e = .returned (.int .i64 i) ∧ decide (0 ≤ i) = L.any (fun z => !rzP size z) ∧ Below w.heap.size w w' := by
  have HR := Lib.hid hr0; have HBX := Lib.hid hB
  obtain ⟨n, hn⟩ : ∃ n, n = L.length := ⟨_, rfl⟩
  rw [← hn]
  have Hn := Lib.hid hn
  clear hr0 hB hn
  go_enter Try.func108, Try.ntmps108
  go_wp2
  have HM := Lib.hid (Kd.C_max HR.out)
  go_loopw [8] (fun v8 wr => ∃ j : Nat, v8 = .int .i64 j ∧ j ≤ n ∧ Hid (∀ i : Nat, i < j → rzP size (L.getD i z59) = true) ∧ Hid (Below w.heap.size w wr)) (fun v8 _ => ((n : Int) - intOf v8).toNat)
  case atStart => exact ⟨0, rfl, by omega, Lib.hid (fun i hi => by omega), Lib.hid (Below.refl _ _)⟩
  case round =>
    obtain ⟨j, rfl, hj, HA, HB⟩ := hrel
    by_cases hlt : j < n
    · have c1 : (j : Int) < (n : Int) := by omega
      have hC := Kd.C_below HR.out HB.out
      obtain ⟨ad, e, y0, y1, y2⟩ := at_T59 hC (j : Int) (by omega) (by have := Hn.out; omega)
      subst e
      obtain ⟨x, hx⟩ : ∃ x, x = rd_T59 L (j : Int) := ⟨_, rfl⟩
      rw [← hx] at y0 y1 y2
      simp only [Int.toNat_natCast] at y0 y1 y2
      have HX := Lib.hid hx; clear hx hC
      have hmem : x ∈ L := by
        rw [HX.out]; unfold rd_T59; rw [Int.toNat_natCast, List.getD_eq_getElem?_getD, List.getElem?_eq_getElem (by have := Hn.out; omega)]; exact List.getElem_mem _
      have hgx : L.getD j z59 = x := by rw [HX.out]; unfold rd_T59; rw [Int.toNat_natCast]
      have HMX := Lib.hid hmem; have HGX := Lib.hid hgx; clear hmem hgx
      by_cases hz : rzP size x = true
      · go_wp2_with (go_at_call 70; refine (notRight_any x size h0 h1 B _ (blk_below HBX.out HB.out)).mono ?_; rintro e w1 ⟨rfl, hb1⟩; have HB1 := Lib.hid (below_step HB.out hb1); clear hb1)
        have hM := HM.out; have hN := Hn.out
        have e2 : wrap64 ((j : Int) + 1) = ((j + 1 : Nat) : Int) := by unfold wrap64; push_cast; omega
        rw [e2]
        refine ⟨⟨j + 1, rfl, by omega, Lib.hid (fun i hi => ?_), HB1⟩, ?_⟩
        · by_cases e : i = j
          · subst e; rw [HGX.out]; exact hz
          · exact HA.out i (by omega)
        · simp only [intOf]; push_cast; omega
      · have hz : rzP size x = false := by simpa using hz
        go_wp2_with (go_at_call 70; refine (notRight_any x size h0 h1 B _ (blk_below HBX.out HB.out)).mono ?_; rintro e w1 ⟨rfl, hb1⟩; have HB1 := Lib.hid (below_step HB.out hb1); clear hb1)
        go_ret
        refine ⟨_, rfl, ?_, HB1.out⟩
        rw [decide_eq_true (by omega)]; symm
        rw [List.any_eq_true]; exact ⟨x, HMX.out, by rw [hz]; rfl⟩
    · go_wp2
      go_ret
      refine ⟨_, rfl, ?_, HB.out⟩
      rw [decide_eq_false (by decide)]; symm
      rw [List.any_eq_false]
      intro x hx
      obtain ⟨i, hi, rfl⟩ := List.getElem_of_mem hx
      have := HA.out i (by have := Hn.out; omega)
      rw [List.getD_eq_getElem?_getD, List.getElem?_eq_getElem hi] at this
      simpa using this
set_option maxHeartbeats 2000000 in
set_option maxRecDepth 100000 in
theorem contains_any (A0 : Option Addr) (c0 : Nat) (L : List S59) (size : Int) (h0 : 0 ≤ size) (h1 : size ≤ 1000000000) (B : Nat) (w : World) (hB : w.heap[B]? = some (.cells #[.int .i64 size] 3 (0, 0))) (hr0 : Kd.C k59 w A0 L.length L) (hc0 : L.length ≤ c0) :
    Calls Try.prog 69 #[.slice A0 L.length c0, .func (.func 70) #[] #[.pointer (some ⟨B, 0, none⟩)]] w fun e w' => e = .returned (.bool (L.any (fun z => !rzP size z))) ∧ Below w.heap.size w w' := by
  go_enter Try.func69, Try.ntmps69
  go_wp2_with (go_at_call 108; refine (index_any A0 c0 L size h0 h1 B _ hB hr0 hc0).mono ?_; rintro e w1 ⟨i, rfl, hi, hb1⟩)
  go_ret
  refine ⟨?_, hb1⟩
  rw [← hi]; rfl
end Go.Proofs.Ytgckcaoncjhgbaa
