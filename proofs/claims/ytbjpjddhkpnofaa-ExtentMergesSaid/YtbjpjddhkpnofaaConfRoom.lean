/- What Room and Check of package conf answer at any settings. No condition. -/
import Derived.Test.YtbjpjddhkpnofaaConf
import Derived.Deep.RegionWith
namespace Go.Proofs.Ytbjpjddhkpnofaa
open Go.RowKit
set_option linter.unusedVariables false
set_option linter.unusedSimpArgs false

set_option maxHeartbeats 1000000 in
set_option maxRecDepth 100000 in
theorem of_yes_room (id m u b c z s me o a l : Int) (w : World) (hs : saneC m u b c z s me o a l = true) (p : Value) (r : Int)
    (hk : ∀ w1, Below w.heap.size w w1 → Calls Try.prog 43 #[p] w1 fun e w' => e = .returned (.int .i64 r) ∧ w1 = w') :
    Calls Try.prog 41 #[.agg (confCells id m u b c z s me o a l), .func (Fn.func 43) #[] #[p]] w fun e w' => e = .returned (.int .i64 r) ∧ Below w.heap.size w w' := by
  have Hs := Lib.hid hs; clear hs
  have Hk := Lib.hid hk; clear hk
  unfold confCells
  go_enter Try.func41, Try.ntmps41
  go_wp2_with fail
  refine (numbers_any _ _).mono ?_
  rintro e w1 ⟨rfl, rfl⟩
  go_wp2_with fail
  refine (sane_any _ w.heap.size [m, u, b, c, z, s, me, o, a, l] _ rfl ?hp ?hc).mono ?_
  case hp => exact fun k hk => ptrs_cell (w.alloc _) _ k _ (by simp) hk
  case hc => exact fun k hk => conf_cell w _ id m u b c z s me o a l k hk
  rintro e w1 ⟨rfl, rfl⟩
  rw [show ([m, u, b, c, z, s, me, o, a, l].all okN) = true from Hs.out]
  go_wp2_with fail
  refine (Hk.out _ ?hb).mono ?_
  case hb => exact (((Below.refl _ w).alloc (Nat.le_refl _) _).alloc (by simp) _).drew
  rintro e w1 ⟨rfl, rfl⟩
  go_wp2
  go_ret
  exact ⟨rfl, (((Below.refl _ w).alloc (Nat.le_refl _) _).alloc (by simp) _).drew⟩
set_option maxHeartbeats 1000000 in
set_option maxRecDepth 100000 in
theorem room1_any (g : Nat) (m u b z : Int) (w : World) (hm1 : 1 ≤ m) (hm2 : m ≤ 1048576) (hu1 : 1 ≤ u) (hu2 : u ≤ 1048576) (hb1 : 1 ≤ b) (hb2 : b ≤ 1048576) (hz1 : 1 ≤ z) (hz2 : z ≤ 1048576) (cm : w.cell? ⟨g, 1, none⟩ = some (.int .i64 m)) (cu : w.cell? ⟨g, 2, none⟩ = some (.int .i64 u)) (cb : w.cell? ⟨g, 3, none⟩ = some (.int .i64 b)) (cz : w.cell? ⟨g, 5, none⟩ = some (.int .i64 z)) :
    Calls Try.prog 43 #[.pointer (some ⟨g, 0, none⟩)] w fun e w' => e = .returned (.int .i64 ((bytesC m u b z + b - 1) / b + 2)) ∧ w = w' := by
  have k1 : 0 ≤ (z + 1) * u := Int.mul_nonneg (by omega) (by omega)
  have k2 : (z + 1) * u ≤ 1048577 * 1048576 := Int.mul_le_mul (by omega) hu2 (by omega) (by omega)
  have k3 : 0 ≤ (z + 1) * u * b := Int.mul_nonneg k1 (by omega)
  have k4 : (z + 1) * u * b ≤ 1048577 * 1048576 * 1048576 := Int.mul_le_mul k2 hb2 (by omega) (by omega)
  have k5 : 0 ≤ (320 + 48 * z + 8 * m + (z + 1) * u * b + b - 1) / b := Int.ediv_nonneg (by omega) (by omega)
  have k6 : (320 + 48 * z + 8 * m + (z + 1) * u * b + b - 1) / b ≤ 320 + 48 * z + 8 * m + (z + 1) * u * b + b - 1 := Int.ediv_le_self _ (by omega)
  unfold bytesC
  go_enter Try.func43, Try.ntmps43
  go_wp2
  go_ret
  exact ⟨rfl, rfl⟩
set_option maxHeartbeats 1000000 in
set_option maxRecDepth 100000 in
theorem room_any (id m u b c z s me o a l : Int) (w : World) :
    Calls Try.prog 28 #[.agg #[.int .i64 id, .int .i64 m, .int .i64 u, .int .i64 b, .int .i64 c, .int .i64 z, .int .i64 s, .int .i64 me, .int .i64 o, .int .i64 a, .int .i64 l]] w fun e w' => e = .returned (.int .i64 (roomC m u b c z s me o a l)) ∧ Below w.heap.size w w' := by
  cases hs : saneC m u b c z s me o a l with
  | true =>
    obtain ⟨⟨hm1, hm2⟩, ⟨hu1, hu2⟩, ⟨hb1, hb2⟩, ⟨hc1, hc2⟩, ⟨hz1, hz2⟩, ⟨hs1, hs2⟩, ⟨hme1, hme2⟩, ⟨ho1, ho2⟩, ⟨ha1, ha2⟩, ⟨hl1, hl2⟩⟩ := saneC_bd hs
    have hv : roomC m u b c z s me o a l = (bytesC m u b z + b - 1) / b + 2 := by rw [roomC, if_pos hs]
    rw [hv]
    clear hv
    have Hs := Lib.hid hs; clear hs
    go_enter Try.func28, Try.ntmps28
    go_wp2_with fail
    refine (of_yes_room id m u b c z s me o a l _ Hs.out _ ((bytesC m u b z + b - 1) / b + 2) ?hk).mono ?_
    case hk =>
      intro w1 hb
      exact room1_any w.heap.size m u b z w1 hm1 hm2 hu1 hu2 hb1 hb2 hz1 hz2 ((hb.cell (p := ⟨w.heap.size, 1, none⟩) (by simp)).trans (by simp [go_sem])) ((hb.cell (p := ⟨w.heap.size, 2, none⟩) (by simp)).trans (by simp [go_sem])) ((hb.cell (p := ⟨w.heap.size, 3, none⟩) (by simp)).trans (by simp [go_sem])) ((hb.cell (p := ⟨w.heap.size, 5, none⟩) (by simp)).trans (by simp [go_sem]))
    rintro e w1 ⟨rfl, hb⟩
    go_wp2
    go_ret
    exact ⟨rfl, ((Below.refl _ w).alloc (Nat.le_refl _) _).trans (hb.mono (by simp))⟩
  | false =>
    have hv : roomC m u b c z s me o a l = 0 := by rw [roomC, if_neg (by rw [hs]; decide)]
    rw [hv]
    clear hv
    have Hs := Lib.hid hs; clear hs
    go_enter Try.func28, Try.ntmps28
    go_wp2_with fail
    refine (of_no id m u b c z s me o a l _ Hs.out _).mono ?_
    rintro e w1 ⟨rfl, hb⟩
    go_wp2
    go_ret
    exact ⟨rfl, ((Below.refl _ w).alloc (Nat.le_refl _) _).trans (hb.mono (by simp))⟩

set_option maxHeartbeats 400000 in
theorem in_any (n lo hi : Int) (w : World) :
    Calls Try.prog 26 #[.int .i64 n, .int .i64 lo, .int .i64 hi] w fun e w' => e = .returned (.bool (inB n lo hi)) ∧ w = w' := by
  by_cases h1 : lo ≤ n
  · by_cases h2 : n ≤ hi
    · have hv : inB n lo hi = true := by simp [inB, h1, h2]
      rw [hv]; clear hv
      go_enter Try.func26, Try.ntmps26
      go_wp2
      go_ret
      exact ⟨rfl, rfl⟩
    · have hv : inB n lo hi = false := by simp [inB, h2]
      rw [hv]; clear hv
      go_enter Try.func26, Try.ntmps26
      go_wp2
      go_ret
      exact ⟨rfl, rfl⟩
  · have hv : inB n lo hi = false := by simp [inB, h1]
    rw [hv]; clear hv
    go_enter Try.func26, Try.ntmps26
    go_wp2
    go_ret
    exact ⟨rfl, rfl⟩

theorem bcell_c {W w1 : World} (hb : Below W.heap.size W w1) : (∀ b o, b < W.heap.size → w1.cell? ⟨b, o, none⟩ = W.cell? ⟨b, o, none⟩) ∧ (∀ b o, b < W.heap.size → w1.frozen? ⟨b, o, none⟩ = W.frozen? ⟨b, o, none⟩) :=
  ⟨fun b o h => hb.cell (p := ⟨b, o, none⟩) h, fun b o h => hb.frozen (p := ⟨b, o, none⟩) h⟩

end Go.Proofs.Ytbjpjddhkpnofaa
