/- What the functions of package conf answer at any settings: Row, Stripes, Data, All, Room (0 where a number is out of 1 to 2^20), and Check. No condition. -/
import Derived.Test.YtbjpjddhkpnofaaProg
import Derived.Test.YtbjpjddhkpnofaaConfLaw
import Derived.WalkKit
import Derived.WalkSpells
import Derived.WalkLawsBesides
import Derived.BigRegion
import Derived.StillTailTactics
import Derived.Deep.QuietTactic
import Derived.BigQuiet
import Derived.Lib.Hide
namespace Go.Proofs.Ytbjpjddhkpnofaa
open Go.RowKit
set_option linter.unusedVariables false
set_option linter.unusedSimpArgs false
def ptrsOf (g : Nat) : Array Value := #[.pointer (some ⟨g, 1, none⟩), .pointer (some ⟨g, 2, none⟩), .pointer (some ⟨g, 3, none⟩), .pointer (some ⟨g, 4, none⟩), .pointer (some ⟨g, 5, none⟩), .pointer (some ⟨g, 6, none⟩), .pointer (some ⟨g, 7, none⟩), .pointer (some ⟨g, 8, none⟩), .pointer (some ⟨g, 9, none⟩), .pointer (some ⟨g, 10, none⟩)]
set_option maxHeartbeats 400000 in
set_option maxRecDepth 100000 in
theorem numbers_any (g : Nat) (w : World) :
    Calls Try.prog 53 #[.pointer (some ⟨g, 0, none⟩)] w fun e w' => e = .returned (.slice (some ⟨w.heap.size, 0, none⟩) 10 10) ∧ (w.alloc (.cells (ptrsOf g) 76)).drew = w' := by
  go_enter Try.func53, Try.ntmps53
  go_wp2
  go_still_tail 30, (by kernel_rfl)
  change wpList _ _ _ _ _ w.drew
  have hz : w.drew.heap.size = w.heap.size := rfl
  have hfin : ((w.drew).alloc (.cells (ptrsOf g) 76)) = (w.alloc (.cells (ptrsOf g) 76)).drew := rfl
  generalize w.drew = w2 at *
  have hfin' := Lib.hid hfin; clear hfin
  have hz' := Lib.hid hz; clear hz
  go_wp2
  go_ret
  exact ⟨by show Ending.returned (.slice (some ⟨w2.heap.size, 0, none⟩) 10 10) = _; rw [hz'.out], hfin'.out.symm⟩
theorem ret_bool {a b : Bool} (h : a = b) : Ending.returned (.bool a) = .returned (.bool b) := by rw [h]
theorem ret_int {k : IntKind} {a b : Int} (h : a = b) : Ending.returned (.int k a) = .returned (.int k b) := by rw [h]
set_option maxHeartbeats 400000 in
set_option maxRecDepth 100000 in
theorem sane_any (b g : Nat) (ns : List Int) (w : World) (hn : ns.length = 10)
    (hp : ∀ k : Nat, k < 10 → w.cell? ⟨b, k, none⟩ = some (.pointer (some ⟨g, k + 1, none⟩)))
    (hc : ∀ k : Nat, k < 10 → w.cell? ⟨g, k + 1, none⟩ = some (.int .i64 (ns.getD k 0))) :
    Calls Try.prog 52 #[.slice (some ⟨b, 0, none⟩) 10 10] w fun e w' => e = .returned (.bool (ns.all okN)) ∧ w = w' := by
  have Hn := Lib.hid hn; clear hn
  have Hp := Lib.hid hp; clear hp
  have Hc := Lib.hid hc; clear hc
  go_enter Try.func52, Try.ntmps52
  go_wp2
  go_loop [7, 4] (fun i _ => ∃ k : Nat, k ≤ 10 ∧ i = .int .i64 k ∧ (ns.take k).all okN = true) (fun i _ => 10 - (intOf i).toNat)
  case atStart => exact ⟨0, by omega, rfl, by simp⟩
  case round =>
    obtain ⟨k, hk, rfl, hall⟩ := hrel
    have Hall := Lib.hid hall; clear hall
    by_cases hlt : k < 10
    · have h1 := Hp.out k hlt
      have h2 := Hc.out k hlt
      have h2' : ns[k]?.getD 0 = ns.getD k 0 := by simp
      have H2' := Lib.hid h2'; clear h2'
      go_wp2
      · go_ret
        have h : ns[k]?.getD 0 < 1 ∨ 1048576 < ns[k]?.getD 0 := by assumption
        exact ⟨ret_bool (all_no okN ns k (by rw [Hn.out]; exact hlt) (okN_no (by rw [← H2'.out]; exact h))).symm, rfl⟩
      · go_round
        case rel =>
          have h : 1 ≤ ns[k]?.getD 0 ∧ ns[k]?.getD 0 ≤ 1048576 := by assumption
          exact ⟨k + 1, by omega, by go_num, all_snoc okN ns k (by rw [Hn.out]; exact hlt) Hall.out (okN_yes (by rw [← H2'.out]; exact h))⟩
        case measure => simp [intOf]; omega
      · go_ret
        have h : ns[k]?.getD 0 < 1 := by assumption
        exact ⟨ret_bool (all_no okN ns k (by rw [Hn.out]; exact hlt) (okN_no (by rw [← H2'.out]; exact .inl h))).symm, rfl⟩
    · have hk10 : 10 ≤ k := by omega
      go_wp2
      go_ret
      have h := Hall.out
      rw [List.take_of_length_le (by rw [Hn.out]; omega)] at h
      exact ⟨ret_bool h.symm, rfl⟩
def confCells (id m u b c z s me o a l : Int) : Array Value := #[.int .i64 id, .int .i64 m, .int .i64 u, .int .i64 b, .int .i64 c, .int .i64 z, .int .i64 s, .int .i64 me, .int .i64 o, .int .i64 a, .int .i64 l]
theorem ptrs_cell (w0 : World) (g k b : Nat) (hb : w0.heap.size = b) (hk : k < 10) : ((w0.alloc (.cells (ptrsOf g) 76)).drew).cell? ⟨b, k, none⟩ = some (.pointer (some ⟨g, k + 1, none⟩)) := by
  subst hb
  match k, hk with
  | 0, _ | 1, _ | 2, _ | 3, _ | 4, _ | 5, _ | 6, _ | 7, _ | 8, _ | 9, _ => simp [ptrsOf, go_sem]
theorem conf_cell (w : World) (O : Obj) (id m u b c z s me o a l : Int) (k : Nat) (hk : k < 10) : (((w.alloc (.cells #[.int .i64 id, .int .i64 m, .int .i64 u, .int .i64 b, .int .i64 c, .int .i64 z, .int .i64 s, .int .i64 me, .int .i64 o, .int .i64 a, .int .i64 l] 24)).alloc O).drew).cell? ⟨w.heap.size, k + 1, none⟩ = some (.int .i64 ([m, u, b, c, z, s, me, o, a, l].getD k 0)) := by
  match k, hk with
  | 0, _ | 1, _ | 2, _ | 3, _ | 4, _ | 5, _ | 6, _ | 7, _ | 8, _ | 9, _ => simp [go_sem]
set_option maxHeartbeats 1000000 in
set_option maxRecDepth 100000 in
theorem of_no (id m u b c z s me o a l : Int) (w : World) (hs : saneC m u b c z s me o a l = false) (v : Value) :
    Calls Try.prog 41 #[.agg (confCells id m u b c z s me o a l), v] w fun e w' => e = .returned (.int .i64 0) ∧ Below w.heap.size w w' := by
  have Hs := Lib.hid hs; clear hs
  unfold confCells
  go_enter Try.func41, Try.ntmps41
  go_wp2_with fail
  refine (numbers_any _ _).mono ?_
  rintro e w1 ⟨rfl, rfl⟩
  go_wp2_with fail
  refine (sane_any _ w.heap.size [m, u, b, c, z, s, me, o, a, l] _ rfl ?hp ?hc).mono ?_
  case hp => exact fun k hk => ptrs_cell (w.alloc _) _ k _ (by simp) hk
  case hc => exact fun k hk => conf_cell w _ id m u b c z s me o a l k hk
  rintro e w1 ⟨rfl, rfl⟩
  rw [show ([m, u, b, c, z, s, me, o, a, l].all okN) = false from Hs.out]
  go_wp2_with fail
  go_ret
  exact ⟨rfl, (((Below.refl _ w).alloc (Nat.le_refl _) _).alloc (by simp) _).drew⟩

set_option maxHeartbeats 1000000 in
set_option maxRecDepth 100000 in
theorem of_yes_row (id m u b c z s me o a l : Int) (w : World) (hs : saneC m u b c z s me o a l = true) (p : Value) (r : Int)
    (hk : ∀ w1, Below w.heap.size w w1 → Calls Try.prog 45 #[p] w1 fun e w' => e = .returned (.int .i64 r) ∧ w1 = w') :
    Calls Try.prog 41 #[.agg (confCells id m u b c z s me o a l), .func (Fn.func 45) #[] #[p]] w fun e w' => e = .returned (.int .i64 r) ∧ Below w.heap.size w w' := by
  have Hs := Lib.hid hs; clear hs
  have Hk := Lib.hid hk; clear hk
  unfold confCells
  go_enter Try.func41, Try.ntmps41
  go_wp2_with fail
  refine (numbers_any _ _).mono ?_
  rintro e w1 ⟨rfl, rfl⟩
  go_wp2_with fail
  refine (sane_any _ w.heap.size [m, u, b, c, z, s, me, o, a, l] _ rfl ?hp ?hc).mono ?_
  case hp => exact fun k hk => ptrs_cell (w.alloc _) _ k _ (by simp) hk
  case hc => exact fun k hk => conf_cell w _ id m u b c z s me o a l k hk
  rintro e w1 ⟨rfl, rfl⟩
  rw [show ([m, u, b, c, z, s, me, o, a, l].all okN) = true from Hs.out]
  go_wp2_with fail
  refine (Hk.out _ ?hb).mono ?_
  case hb => exact (((Below.refl _ w).alloc (Nat.le_refl _) _).alloc (by simp) _).drew
  rintro e w1 ⟨rfl, rfl⟩
  go_wp2
  go_ret
  exact ⟨rfl, (((Below.refl _ w).alloc (Nat.le_refl _) _).alloc (by simp) _).drew⟩
set_option maxHeartbeats 1000000 in
set_option maxRecDepth 100000 in
theorem row1_any (g : Nat) (m u : Int) (w : World) (hm1 : 1 ≤ m) (hm2 : m ≤ 1048576) (hu1 : 1 ≤ u) (hu2 : u ≤ 1048576) (cm : w.cell? ⟨g, 1, none⟩ = some (.int .i64 m)) (cu : w.cell? ⟨g, 2, none⟩ = some (.int .i64 u)) :
    Calls Try.prog 45 #[.pointer (some ⟨g, 0, none⟩)] w fun e w' => e = .returned (.int .i64 ((m - 1) * u)) ∧ w = w' := by
  have k1 : 0 ≤ (m - 1) * u := Int.mul_nonneg (by omega) (by omega)
  have k2 : (m - 1) * u ≤ 1048576 * 1048576 := Int.mul_le_mul (by omega) hu2 (by omega) (by omega)
  go_enter Try.func45, Try.ntmps45
  go_wp2
  go_ret
  exact ⟨rfl, rfl⟩
set_option maxHeartbeats 1000000 in
set_option maxRecDepth 100000 in
theorem row_any (id m u b c z s me o a l : Int) (w : World) :
    Calls Try.prog 30 #[.agg #[.int .i64 id, .int .i64 m, .int .i64 u, .int .i64 b, .int .i64 c, .int .i64 z, .int .i64 s, .int .i64 me, .int .i64 o, .int .i64 a, .int .i64 l]] w fun e w' => e = .returned (.int .i64 (rowC m u b c z s me o a l)) ∧ Below w.heap.size w w' := by
  cases hs : saneC m u b c z s me o a l with
  | true =>
    obtain ⟨⟨hm1, hm2⟩, ⟨hu1, hu2⟩, ⟨hb1, hb2⟩, ⟨hc1, hc2⟩, ⟨hz1, hz2⟩, ⟨hs1, hs2⟩, ⟨hme1, hme2⟩, ⟨ho1, ho2⟩, ⟨ha1, ha2⟩, ⟨hl1, hl2⟩⟩ := saneC_bd hs
    have hv : rowC m u b c z s me o a l = (m - 1) * u := by rw [rowC, if_pos hs]
    rw [hv]
    clear hv
    have Hs := Lib.hid hs; clear hs
    go_enter Try.func30, Try.ntmps30
    go_wp2_with fail
    refine (of_yes_row id m u b c z s me o a l _ Hs.out _ ((m - 1) * u) ?hk).mono ?_
    case hk =>
      intro w1 hb
      exact row1_any w.heap.size m u w1 hm1 hm2 hu1 hu2 ((hb.cell (p := ⟨w.heap.size, 1, none⟩) (by simp)).trans (by simp [go_sem])) ((hb.cell (p := ⟨w.heap.size, 2, none⟩) (by simp)).trans (by simp [go_sem]))
    rintro e w1 ⟨rfl, hb⟩
    go_wp2
    go_ret
    exact ⟨rfl, ((Below.refl _ w).alloc (Nat.le_refl _) _).trans (hb.mono (by simp))⟩
  | false =>
    have hv : rowC m u b c z s me o a l = 0 := by rw [rowC, if_neg (by rw [hs]; decide)]
    rw [hv]
    clear hv
    have Hs := Lib.hid hs; clear hs
    go_enter Try.func30, Try.ntmps30
    go_wp2_with fail
    refine (of_no id m u b c z s me o a l _ Hs.out _).mono ?_
    rintro e w1 ⟨rfl, hb⟩
    go_wp2
    go_ret
    exact ⟨rfl, ((Below.refl _ w).alloc (Nat.le_refl _) _).trans (hb.mono (by simp))⟩

set_option maxHeartbeats 1000000 in
set_option maxRecDepth 100000 in
theorem of_yes_stripes (id m u b c z s me o a l : Int) (w : World) (hs : saneC m u b c z s me o a l = true) (p : Value) (r : Int)
    (hk : ∀ w1, Below w.heap.size w w1 → Calls Try.prog 44 #[p] w1 fun e w' => e = .returned (.int .i64 r) ∧ w1 = w') :
    Calls Try.prog 41 #[.agg (confCells id m u b c z s me o a l), .func (Fn.func 44) #[] #[p]] w fun e w' => e = .returned (.int .i64 r) ∧ Below w.heap.size w w' := by
  have Hs := Lib.hid hs; clear hs
  have Hk := Lib.hid hk; clear hk
  unfold confCells
  go_enter Try.func41, Try.ntmps41
  go_wp2_with fail
  refine (numbers_any _ _).mono ?_
  rintro e w1 ⟨rfl, rfl⟩
  go_wp2_with fail
  refine (sane_any _ w.heap.size [m, u, b, c, z, s, me, o, a, l] _ rfl ?hp ?hc).mono ?_
  case hp => exact fun k hk => ptrs_cell (w.alloc _) _ k _ (by simp) hk
  case hc => exact fun k hk => conf_cell w _ id m u b c z s me o a l k hk
  rintro e w1 ⟨rfl, rfl⟩
  rw [show ([m, u, b, c, z, s, me, o, a, l].all okN) = true from Hs.out]
  go_wp2_with fail
  refine (Hk.out _ ?hb).mono ?_
  case hb => exact (((Below.refl _ w).alloc (Nat.le_refl _) _).alloc (by simp) _).drew
  rintro e w1 ⟨rfl, rfl⟩
  go_wp2
  go_ret
  exact ⟨rfl, (((Below.refl _ w).alloc (Nat.le_refl _) _).alloc (by simp) _).drew⟩
set_option maxHeartbeats 1000000 in
set_option maxRecDepth 100000 in
theorem stripes1_any (g : Nat) (c u : Int) (w : World) (hc1 : 1 ≤ c) (hc2 : c ≤ 1048576) (hu1 : 1 ≤ u) (hu2 : u ≤ 1048576) (cc : w.cell? ⟨g, 4, none⟩ = some (.int .i64 c)) (cu : w.cell? ⟨g, 2, none⟩ = some (.int .i64 u)) :
    Calls Try.prog 44 #[.pointer (some ⟨g, 0, none⟩)] w fun e w' => e = .returned (.int .i64 (c / u)) ∧ w = w' := by
  go_enter Try.func44, Try.ntmps44
  go_wp2
  go_ret
  exact ⟨rfl, rfl⟩
set_option maxHeartbeats 1000000 in
set_option maxRecDepth 100000 in
theorem stripes_any (id m u b c z s me o a l : Int) (w : World) :
    Calls Try.prog 29 #[.agg #[.int .i64 id, .int .i64 m, .int .i64 u, .int .i64 b, .int .i64 c, .int .i64 z, .int .i64 s, .int .i64 me, .int .i64 o, .int .i64 a, .int .i64 l]] w fun e w' => e = .returned (.int .i64 (stripesC m u b c z s me o a l)) ∧ Below w.heap.size w w' := by
  cases hs : saneC m u b c z s me o a l with
  | true =>
    obtain ⟨⟨hm1, hm2⟩, ⟨hu1, hu2⟩, ⟨hb1, hb2⟩, ⟨hc1, hc2⟩, ⟨hz1, hz2⟩, ⟨hs1, hs2⟩, ⟨hme1, hme2⟩, ⟨ho1, ho2⟩, ⟨ha1, ha2⟩, ⟨hl1, hl2⟩⟩ := saneC_bd hs
    have hv : stripesC m u b c z s me o a l = c / u := by rw [stripesC, if_pos hs]
    rw [hv]
    clear hv
    have Hs := Lib.hid hs; clear hs
    go_enter Try.func29, Try.ntmps29
    go_wp2_with fail
    refine (of_yes_stripes id m u b c z s me o a l _ Hs.out _ (c / u) ?hk).mono ?_
    case hk =>
      intro w1 hb
      exact stripes1_any w.heap.size c u w1 hc1 hc2 hu1 hu2 ((hb.cell (p := ⟨w.heap.size, 4, none⟩) (by simp)).trans (by simp [go_sem])) ((hb.cell (p := ⟨w.heap.size, 2, none⟩) (by simp)).trans (by simp [go_sem]))
    rintro e w1 ⟨rfl, hb⟩
    go_wp2
    go_ret
    exact ⟨rfl, ((Below.refl _ w).alloc (Nat.le_refl _) _).trans (hb.mono (by simp))⟩
  | false =>
    have hv : stripesC m u b c z s me o a l = 0 := by rw [stripesC, if_neg (by rw [hs]; decide)]
    rw [hv]
    clear hv
    have Hs := Lib.hid hs; clear hs
    go_enter Try.func29, Try.ntmps29
    go_wp2_with fail
    refine (of_no id m u b c z s me o a l _ Hs.out _).mono ?_
    rintro e w1 ⟨rfl, hb⟩
    go_wp2
    go_ret
    exact ⟨rfl, ((Below.refl _ w).alloc (Nat.le_refl _) _).trans (hb.mono (by simp))⟩

set_option maxHeartbeats 1000000 in
set_option maxRecDepth 100000 in
theorem of_yes_data (id m u b c z s me o a l : Int) (w : World) (hs : saneC m u b c z s me o a l = true) (p : Value) (r : Int)
    (hk : ∀ w1, Below w.heap.size w w1 → Calls Try.prog 57 #[p] w1 fun e w' => e = .returned (.int .i64 r) ∧ w1 = w') :
    Calls Try.prog 41 #[.agg (confCells id m u b c z s me o a l), .func (Fn.func 57) #[] #[p]] w fun e w' => e = .returned (.int .i64 r) ∧ Below w.heap.size w w' := by
  have Hs := Lib.hid hs; clear hs
  have Hk := Lib.hid hk; clear hk
  unfold confCells
  go_enter Try.func41, Try.ntmps41
  go_wp2_with fail
  refine (numbers_any _ _).mono ?_
  rintro e w1 ⟨rfl, rfl⟩
  go_wp2_with fail
  refine (sane_any _ w.heap.size [m, u, b, c, z, s, me, o, a, l] _ rfl ?hp ?hc).mono ?_
  case hp => exact fun k hk => ptrs_cell (w.alloc _) _ k _ (by simp) hk
  case hc => exact fun k hk => conf_cell w _ id m u b c z s me o a l k hk
  rintro e w1 ⟨rfl, rfl⟩
  rw [show ([m, u, b, c, z, s, me, o, a, l].all okN) = true from Hs.out]
  go_wp2_with fail
  refine (Hk.out _ ?hb).mono ?_
  case hb => exact (((Below.refl _ w).alloc (Nat.le_refl _) _).alloc (by simp) _).drew
  rintro e w1 ⟨rfl, rfl⟩
  go_wp2
  go_ret
  exact ⟨rfl, (((Below.refl _ w).alloc (Nat.le_refl _) _).alloc (by simp) _).drew⟩
set_option maxHeartbeats 1000000 in
set_option maxRecDepth 100000 in
theorem data1_any (g : Nat) (m : Int) (w : World) (hm1 : 1 ≤ m) (hm2 : m ≤ 1048576) (cm : w.cell? ⟨g, 1, none⟩ = some (.int .i64 m)) :
    Calls Try.prog 57 #[.pointer (some ⟨g, 0, none⟩)] w fun e w' => e = .returned (.int .i64 (m - 1)) ∧ w = w' := by
  go_enter Try.func57, Try.ntmps57
  go_wp2
  go_ret
  exact ⟨rfl, rfl⟩
set_option maxHeartbeats 1000000 in
set_option maxRecDepth 100000 in
theorem data_any (id m u b c z s me o a l : Int) (w : World) :
    Calls Try.prog 55 #[.agg #[.int .i64 id, .int .i64 m, .int .i64 u, .int .i64 b, .int .i64 c, .int .i64 z, .int .i64 s, .int .i64 me, .int .i64 o, .int .i64 a, .int .i64 l]] w fun e w' => e = .returned (.int .i64 (dataC m u b c z s me o a l)) ∧ Below w.heap.size w w' := by
  cases hs : saneC m u b c z s me o a l with
  | true =>
    obtain ⟨⟨hm1, hm2⟩, ⟨hu1, hu2⟩, ⟨hb1, hb2⟩, ⟨hc1, hc2⟩, ⟨hz1, hz2⟩, ⟨hs1, hs2⟩, ⟨hme1, hme2⟩, ⟨ho1, ho2⟩, ⟨ha1, ha2⟩, ⟨hl1, hl2⟩⟩ := saneC_bd hs
    have hv : dataC m u b c z s me o a l = m - 1 := by rw [dataC, if_pos hs]
    rw [hv]
    clear hv
    have Hs := Lib.hid hs; clear hs
    go_enter Try.func55, Try.ntmps55
    go_wp2_with fail
    refine (of_yes_data id m u b c z s me o a l _ Hs.out _ (m - 1) ?hk).mono ?_
    case hk =>
      intro w1 hb
      exact data1_any w.heap.size m w1 hm1 hm2 ((hb.cell (p := ⟨w.heap.size, 1, none⟩) (by simp)).trans (by simp [go_sem]))
    rintro e w1 ⟨rfl, hb⟩
    go_wp2
    go_ret
    exact ⟨rfl, ((Below.refl _ w).alloc (Nat.le_refl _) _).trans (hb.mono (by simp))⟩
  | false =>
    have hv : dataC m u b c z s me o a l = 0 := by rw [dataC, if_neg (by rw [hs]; decide)]
    rw [hv]
    clear hv
    have Hs := Lib.hid hs; clear hs
    go_enter Try.func55, Try.ntmps55
    go_wp2_with fail
    refine (of_no id m u b c z s me o a l _ Hs.out _).mono ?_
    rintro e w1 ⟨rfl, hb⟩
    go_wp2
    go_ret
    exact ⟨rfl, ((Below.refl _ w).alloc (Nat.le_refl _) _).trans (hb.mono (by simp))⟩

set_option maxHeartbeats 1000000 in
set_option maxRecDepth 100000 in
theorem of_yes_all (id m u b c z s me o a l : Int) (w : World) (hs : saneC m u b c z s me o a l = true) (p : Value) (r : Int)
    (hk : ∀ w1, Below w.heap.size w w1 → Calls Try.prog 42 #[p] w1 fun e w' => e = .returned (.int .i64 r) ∧ w1 = w') :
    Calls Try.prog 41 #[.agg (confCells id m u b c z s me o a l), .func (Fn.func 42) #[] #[p]] w fun e w' => e = .returned (.int .i64 r) ∧ Below w.heap.size w w' := by
  have Hs := Lib.hid hs; clear hs
  have Hk := Lib.hid hk; clear hk
  unfold confCells
  go_enter Try.func41, Try.ntmps41
  go_wp2_with fail
  refine (numbers_any _ _).mono ?_
  rintro e w1 ⟨rfl, rfl⟩
  go_wp2_with fail
  refine (sane_any _ w.heap.size [m, u, b, c, z, s, me, o, a, l] _ rfl ?hp ?hc).mono ?_
  case hp => exact fun k hk => ptrs_cell (w.alloc _) _ k _ (by simp) hk
  case hc => exact fun k hk => conf_cell w _ id m u b c z s me o a l k hk
  rintro e w1 ⟨rfl, rfl⟩
  rw [show ([m, u, b, c, z, s, me, o, a, l].all okN) = true from Hs.out]
  go_wp2_with fail
  refine (Hk.out _ ?hb).mono ?_
  case hb => exact (((Below.refl _ w).alloc (Nat.le_refl _) _).alloc (by simp) _).drew
  rintro e w1 ⟨rfl, rfl⟩
  go_wp2
  go_ret
  exact ⟨rfl, (((Below.refl _ w).alloc (Nat.le_refl _) _).alloc (by simp) _).drew⟩
set_option maxHeartbeats 1000000 in
set_option maxRecDepth 100000 in
theorem all1_any (g : Nat) (me z s : Int) (w : World) (hme1 : 1 ≤ me) (hme2 : me ≤ 1048576) (hz1 : 1 ≤ z) (hz2 : z ≤ 1048576) (hs1 : 1 ≤ s) (hs2 : s ≤ 1048576) (cme : w.cell? ⟨g, 7, none⟩ = some (.int .i64 me)) (cz : w.cell? ⟨g, 5, none⟩ = some (.int .i64 z)) (cs : w.cell? ⟨g, 6, none⟩ = some (.int .i64 s)) :
    Calls Try.prog 42 #[.pointer (some ⟨g, 0, none⟩)] w fun e w' => e = .returned (.int .i64 (me + z + s)) ∧ w = w' := by
  go_enter Try.func42, Try.ntmps42
  go_wp2
  go_ret
  exact ⟨rfl, rfl⟩
set_option maxHeartbeats 1000000 in
set_option maxRecDepth 100000 in
theorem all_any (id m u b c z s me o a l : Int) (w : World) :
    Calls Try.prog 27 #[.agg #[.int .i64 id, .int .i64 m, .int .i64 u, .int .i64 b, .int .i64 c, .int .i64 z, .int .i64 s, .int .i64 me, .int .i64 o, .int .i64 a, .int .i64 l]] w fun e w' => e = .returned (.int .i64 (allC m u b c z s me o a l)) ∧ Below w.heap.size w w' := by
  cases hs : saneC m u b c z s me o a l with
  | true =>
    obtain ⟨⟨hm1, hm2⟩, ⟨hu1, hu2⟩, ⟨hb1, hb2⟩, ⟨hc1, hc2⟩, ⟨hz1, hz2⟩, ⟨hs1, hs2⟩, ⟨hme1, hme2⟩, ⟨ho1, ho2⟩, ⟨ha1, ha2⟩, ⟨hl1, hl2⟩⟩ := saneC_bd hs
    have hv : allC m u b c z s me o a l = me + z + s := by rw [allC, if_pos hs]
    rw [hv]
    clear hv
    have Hs := Lib.hid hs; clear hs
    go_enter Try.func27, Try.ntmps27
    go_wp2_with fail
    refine (of_yes_all id m u b c z s me o a l _ Hs.out _ (me + z + s) ?hk).mono ?_
    case hk =>
      intro w1 hb
      exact all1_any w.heap.size me z s w1 hme1 hme2 hz1 hz2 hs1 hs2 ((hb.cell (p := ⟨w.heap.size, 7, none⟩) (by simp)).trans (by simp [go_sem])) ((hb.cell (p := ⟨w.heap.size, 5, none⟩) (by simp)).trans (by simp [go_sem])) ((hb.cell (p := ⟨w.heap.size, 6, none⟩) (by simp)).trans (by simp [go_sem]))
    rintro e w1 ⟨rfl, hb⟩
    go_wp2
    go_ret
    exact ⟨rfl, ((Below.refl _ w).alloc (Nat.le_refl _) _).trans (hb.mono (by simp))⟩
  | false =>
    have hv : allC m u b c z s me o a l = 0 := by rw [allC, if_neg (by rw [hs]; decide)]
    rw [hv]
    clear hv
    have Hs := Lib.hid hs; clear hs
    go_enter Try.func27, Try.ntmps27
    go_wp2_with fail
    refine (of_no id m u b c z s me o a l _ Hs.out _).mono ?_
    rintro e w1 ⟨rfl, hb⟩
    go_wp2
    go_ret
    exact ⟨rfl, ((Below.refl _ w).alloc (Nat.le_refl _) _).trans (hb.mono (by simp))⟩

end Go.Proofs.Ytbjpjddhkpnofaa
