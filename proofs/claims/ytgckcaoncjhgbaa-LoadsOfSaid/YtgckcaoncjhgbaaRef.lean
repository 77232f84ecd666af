/- What List, sane and Numbers of the reference 07 answer at any settings, and Row, Size, Stripes out of them. No condition. -/
import Derived.Test.YtgckcaoncjhgbaaFCf
set_option maxHeartbeats 2000000
set_option maxRecDepth 100000
open Go.Lib (hid)
namespace Go.Proofs.Ytgckcaoncjhgbaa
open Go.RowKit
set_option linter.unusedVariables false
set_option linter.unusedSimpArgs false
theorem ix_1 (x0 x1 x2 x3 x4 x5 x6 : Value) (w : World) : (Instr.index 106 (.agg #[x0, x1, x2, x3, x4, x5, x6]) (.int .i64 1)).run Try.prog w = .ok x1 w := by kernel_rfl
theorem ix_3 (x0 x1 x2 x3 x4 x5 x6 : Value) (w : World) : (Instr.index 106 (.agg #[x0, x1, x2, x3, x4, x5, x6]) (.int .i64 3)).run Try.prog w = .ok x3 w := by kernel_rfl
theorem ix_6 (x0 x1 x2 x3 x4 x5 x6 : Value) (w : World) : (Instr.index 106 (.agg #[x0, x1, x2, x3, x4, x5, x6]) (.int .i64 6)).run Try.prog w = .ok x6 w := by kernel_rfl
theorem vZ_ {w : World} {g : Nat} {t : TypeId} {cs cs' : Array Value} (h : w.heap[g]? = some (.cells cs t (0, 0))) (i : Nat) (u : Value) (e : cs.setIfInBounds i u = cs') : (w.setCell ⟨g, i, none⟩ u).heap[g]? = some (.cells cs' t (0, 0)) := by
 subst e; simp [World.setCell, Array.getElem?_modify, h]
theorem m_new (w : World) (o : Obj) (k : Nat) (hk : w.heap.size = k) : (w.alloc o).heap[k]? = some o := by
 subst hk; show (w.heap.push o)[w.heap.size]? = some o; simp
theorem m_below {w w1 : World} {g B : Nat} {o : Obj} (h : w.heap[g]? = some o) (hb : Below B w w1) (hg : g < B) : w1.heap[g]? = some o := (hb.block g hg).trans h
theorem m_drew {w : World} {g : Nat} {o : Obj} (h : w.heap[g]? = some o) : w.drew.heap[g]? = some o := h
theorem list_cell (w : World) (id m u b c z s me o a l : Int) (k : Nat) (hk : k < 10) : ((w.alloc (.cells #[.int .i64 id, .int .i64 m, .int .i64 u, .int .i64 b, .int .i64 c, .int .i64 z, .int .i64 s, .int .i64 me, .int .i64 o, .int .i64 a, .int .i64 l] 23)).alloc (.cells #[.int .i64 m, .int .i64 u, .int .i64 b, .int .i64 c, .int .i64 z, .int .i64 s, .int .i64 me, .int .i64 o, .int .i64 a, .int .i64 l] 3)).cell? ⟨w.heap.size + 1, k, none⟩ = some (.int .i64 ([m, u, b, c, z, s, me, o, a, l].getD k 0)) := by
 match k, hk with
 | 0, _ | 1, _ | 2, _ | 3, _ | 4, _ | 5, _ | 6, _ | 7, _ | 8, _ | 9, _ => simp [go_sem]
theorem list_any (id m u b c z s me o a l : Int) (w : World) :
  Calls Try.prog 100 #[.agg #[.int .i64 id, .int .i64 m, .int .i64 u, .int .i64 b, .int .i64 c, .int .i64 z, .int .i64 s, .int .i64 me, .int .i64 o, .int .i64 a, .int .i64 l]] w fun e w' => e = .returned (.slice (some ⟨w.heap.size + 1, 0, none⟩) 10 10) /\ Below w.heap.size w w' /\ (∀ k : Nat, k < 10 -> w'.cell? ⟨w.heap.size + 1, k, none⟩ = some (.int .i64 ([m, u, b, c, z, s, me, o, a, l].getD k 0))) /\ w.heap.size + 1 < w'.heap.size := by
 go_enter Try.func100, Try.ntmps100
 go_wp2
 go_ret
 exact ⟨rfl, ((Below.refl _ w).alloc (Nat.le_refl _) _).alloc (by simp) _, fun k hk => list_cell w id m u b c z s me o a l k hk, by simp⟩
theorem kc_ (id m u b c z s me o a l : Int) (w : World) :
  Calls Try.prog 53 #[.agg #[.int .i64 id, .int .i64 m, .int .i64 u, .int .i64 b, .int .i64 c, .int .i64 z, .int .i64 s, .int .i64 me, .int .i64 o, .int .i64 a, .int .i64 l]] w fun e w' => e = .returned (.bool (jZ_ m u b c z s me o a l)) /\ Below w.heap.size w w' := by
 obtain ⟨ns, hns⟩ : ∃ ns : List Int, ns = [m, u, b, c, z, s, me, o, a, l] := ⟨_, rfl⟩
 have Hn := hid (show ns.length = 10 by rw [hns]; rfl)
 have Hs := hid (show jZ_ m u b c z s me o a l = ns.all okN by rw [hns, jZ_])
 rw [Hs.out]
 have Hns := hid hns; clear hns
 go_enter Try.func53, Try.ntmps53
 go_wp2_with fail
 refine (list_any id m u b c z s me o a l _).mono ?_
 rintro e w1 ⟨rfl, hb, hc, hz⟩
 have hB : Below w.heap.size w w1 := ((Below.refl _ w).alloc (Nat.le_refl _) _).trans (hb.mono (by simp))
 rw [<- Hns.out] at hc
 have HB := hid hB
 have HC := hid hc
 clear hB hb hc hz
 have HC := hid (show ∀ (k : Nat), k < 10 -> w1.cell? ⟨w.heap.size + 1 + 1, k, none⟩ = some (Value.int IntKind.i64 (ns.getD k 0)) by simpa using HC.out)
 go_wp2
 go_loop [4] (fun i => ∃ k : Nat, k <= 10 /\ i = .int .i64 k /\ (ns.take k).all okN = true) (fun i => 10 - (intOf i).toNat)
 case atStart => exact ⟨0, by omega, rfl, by simp⟩
 case round =>
  obtain ⟨k, hk, rfl, hall⟩ := hrel
  have Hall := hid hall; clear hall
  by_cases hlt : k < 10
  ·
   have h2 := HC.out k hlt
   have h2' : ns[k]?.getD 0 = ns.getD k 0 := by simp
   have H2' := hid h2'; clear h2'
   go_wp2
   ·
    go_ret
    have h : ns[k]?.getD 0 < 1 \/ 1048576 < ns[k]?.getD 0 := by assumption
    exact ⟨xU_ (all_no okN ns k (by rw [Hn.out]; exact hlt) (okN_no (by rw [<- H2'.out]; exact h))).symm, HB.out⟩
   ·
    go_round
    case rel =>
     have h : 1 <= ns[k]?.getD 0 /\ ns[k]?.getD 0 <= 1048576 := by assumption
     exact ⟨k + 1, by omega, by go_num, all_snoc okN ns k (by rw [Hn.out]; exact hlt) Hall.out (okN_yes (by rw [<- H2'.out]; exact h))⟩
    case measure => simp [intOf]; omega
   ·
    go_ret
    have h : ns[k]?.getD 0 < 1 := by assumption
    exact ⟨xU_ (all_no okN ns k (by rw [Hn.out]; exact hlt) (okN_no (by rw [<- H2'.out]; exact .inl h))).symm, HB.out⟩
  ·
   have hk10 : 10 <= k := by omega
   go_wp2
   go_ret
   have h := Hall.out
   rw [List.take_of_length_le (by rw [Hn.out]; omega)] at h
   exact ⟨xU_ h.symm, HB.out⟩
def numsV (m u c z s me r : Int) : Value := .agg #[.int .i64 (m - 1), .int .i64 ((m - 1) * u), .int .i64 (c / u), .int .i64 (c / u * (m - 1) * u), .int .i64 (z + s), .int .i64 (z + s + me), .int .i64 r]
def zerosV : Value := .agg #[.int .i64 0, .int .i64 0, .int .i64 0, .int .i64 0, .int .i64 0, .int .i64 0, .int .i64 0]
theorem nums_no (id m u b c z s me o a l : Int) (w : World) (hs : jZ_ m u b c z s me o a l = false) :
  Calls Try.prog 54 #[.agg #[.int .i64 id, .int .i64 m, .int .i64 u, .int .i64 b, .int .i64 c, .int .i64 z, .int .i64 s, .int .i64 me, .int .i64 o, .int .i64 a, .int .i64 l]] w fun e w' => e = .returned zerosV /\ Below w.heap.size w w' := by
 have Hs := hid hs; clear hs
 go_enter Try.func54, Try.ntmps54
 go_wp2_with fail
 refine (kc_ id m u b c z s me o a l _).mono ?_
 rintro e w1 ⟨rfl, hb⟩
 rw [Hs.out]
 have hk : w1.heap[w.heap.size + 1]? = some (.cells #[.int .i64 0, .int .i64 0, .int .i64 0, .int .i64 0, .int .i64 0, .int .i64 0, .int .i64 0] 106 (0, 0)) := m_below (m_new (w.alloc _) (.cells #[.int .i64 0, .int .i64 0, .int .i64 0, .int .i64 0, .int .i64 0, .int .i64 0, .int .i64 0] 106) _ (by simp)) hb (by simp)
 have HK := hid hk; clear hk
 have hz := hb.size
 simp at hz
 have hz1 : w.heap.size < w1.heap.size := by omega
 have hz2 : w.heap.size + 1 < w1.heap.size := by omega
 have ha0 : w1.cell? ⟨w.heap.size + 1, 0, none⟩ = some (.int .i64 0) := (hb.cell (p := ⟨w.heap.size + 1, 0, none⟩) (by simp)).trans (by simp [go_sem])
 have hf0 : w1.frozen? ⟨w.heap.size + 1, 0, none⟩ = false := (hb.frozen (p := ⟨w.heap.size + 1, 0, none⟩) (by simp)).trans (by simp [go_sem])
 have ha1 : w1.cell? ⟨w.heap.size + 1, 1, none⟩ = some (.int .i64 0) := (hb.cell (p := ⟨w.heap.size + 1, 1, none⟩) (by simp)).trans (by simp [go_sem])
 have hf1 : w1.frozen? ⟨w.heap.size + 1, 1, none⟩ = false := (hb.frozen (p := ⟨w.heap.size + 1, 1, none⟩) (by simp)).trans (by simp [go_sem])
 have ha2 : w1.cell? ⟨w.heap.size + 1, 2, none⟩ = some (.int .i64 0) := (hb.cell (p := ⟨w.heap.size + 1, 2, none⟩) (by simp)).trans (by simp [go_sem])
 have hf2 : w1.frozen? ⟨w.heap.size + 1, 2, none⟩ = false := (hb.frozen (p := ⟨w.heap.size + 1, 2, none⟩) (by simp)).trans (by simp [go_sem])
 have ha3 : w1.cell? ⟨w.heap.size + 1, 3, none⟩ = some (.int .i64 0) := (hb.cell (p := ⟨w.heap.size + 1, 3, none⟩) (by simp)).trans (by simp [go_sem])
 have hf3 : w1.frozen? ⟨w.heap.size + 1, 3, none⟩ = false := (hb.frozen (p := ⟨w.heap.size + 1, 3, none⟩) (by simp)).trans (by simp [go_sem])
 have ha4 : w1.cell? ⟨w.heap.size + 1, 4, none⟩ = some (.int .i64 0) := (hb.cell (p := ⟨w.heap.size + 1, 4, none⟩) (by simp)).trans (by simp [go_sem])
 have hf4 : w1.frozen? ⟨w.heap.size + 1, 4, none⟩ = false := (hb.frozen (p := ⟨w.heap.size + 1, 4, none⟩) (by simp)).trans (by simp [go_sem])
 have ha5 : w1.cell? ⟨w.heap.size + 1, 5, none⟩ = some (.int .i64 0) := (hb.cell (p := ⟨w.heap.size + 1, 5, none⟩) (by simp)).trans (by simp [go_sem])
 have hf5 : w1.frozen? ⟨w.heap.size + 1, 5, none⟩ = false := (hb.frozen (p := ⟨w.heap.size + 1, 5, none⟩) (by simp)).trans (by simp [go_sem])
 have ha6 : w1.cell? ⟨w.heap.size + 1, 6, none⟩ = some (.int .i64 0) := (hb.cell (p := ⟨w.heap.size + 1, 6, none⟩) (by simp)).trans (by simp [go_sem])
 have hf6 : w1.frozen? ⟨w.heap.size + 1, 6, none⟩ = false := (hb.frozen (p := ⟨w.heap.size + 1, 6, none⟩) (by simp)).trans (by simp [go_sem])
 have hB : Below w.heap.size w w1 := (((Below.refl _ w).alloc (Nat.le_refl _) _).alloc (by simp) _).trans (hb.mono (by simp; omega))
 have HB := hid hB; clear hB hb
 go_wp2
 unfold zerosV
 exact bodyPost_ret (results_cell_row rfl _ _ (w.heap.size + 1) 106 _ (0, 0) _ rfl (vZ_ (vZ_ (vZ_ (vZ_ (vZ_ (vZ_ (vZ_ HK.out 0 _ rfl) 1 _ rfl) 2 _ rfl) 3 _ rfl) 4 _ rfl) 5 _ rfl) 6 _ rfl) Try.underlying106 rfl (by kernel_rfl)) rfl ⟨rfl, (((((((HB.out.setCell (p := ⟨w.heap.size + 1, 0, none⟩) (by simp) _).setCell (p := ⟨w.heap.size + 1, 1, none⟩) (by simp) _).setCell (p := ⟨w.heap.size + 1, 2, none⟩) (by simp) _).setCell (p := ⟨w.heap.size + 1, 3, none⟩) (by simp) _).setCell (p := ⟨w.heap.size + 1, 4, none⟩) (by simp) _).setCell (p := ⟨w.heap.size + 1, 5, none⟩) (by simp) _).setCell (p := ⟨w.heap.size + 1, 6, none⟩) (by simp) _)⟩
theorem nums_y1 (id m u b c z s me o a l : Int) (w : World) (hs : jZ_ m u b c z s me o a l = true) (hr : (320 + 8 * m + 48 * z) % b > 0) :
  Calls Try.prog 54 #[.agg #[.int .i64 id, .int .i64 m, .int .i64 u, .int .i64 b, .int .i64 c, .int .i64 z, .int .i64 s, .int .i64 me, .int .i64 o, .int .i64 a, .int .i64 l]] w fun e w' => e = .returned (numsV m u c z s me ((320 + 8 * m + 48 * z + (z + 1) * u * b) / b + 1 + 2)) /\ Below w.heap.size w w' := by
 obtain ⟨⟨hm1, hm2⟩, ⟨hu1, hu2⟩, ⟨hb1, hb2⟩, ⟨hc1, hc2⟩, ⟨hz1, hz2⟩, ⟨hs1, hs2⟩, ⟨hme1, hme2⟩, ⟨ho1, ho2⟩, ⟨ha1, ha2⟩, ⟨hl1, hl2⟩⟩ := jY_ hs
 have Hs := hid hs; clear hs
 have k1 : 0 <= (z + 1) * u := Int.mul_nonneg (by omega) (by omega)
 have k2 : (z + 1) * u <= 1048577 * 1048576 := Int.mul_le_mul (by omega) hu2 (by omega) (by omega)
 have k3 : 0 <= (z + 1) * u * b := Int.mul_nonneg k1 (by omega)
 have k4 : (z + 1) * u * b <= 1048577 * 1048576 * 1048576 := Int.mul_le_mul k2 hb2 (by omega) (by omega)
 have k5 : 0 <= (320 + 8 * m + 48 * z + (z + 1) * u * b) / b := Int.ediv_nonneg (by omega) (by omega)
 have k6 : (320 + 8 * m + 48 * z + (z + 1) * u * b) / b <= 320 + 8 * m + 48 * z + (z + 1) * u * b := Int.ediv_le_self _ (by omega)
 have d1 : 0 <= (m - 1) * u := Int.mul_nonneg (by omega) (by omega)
 have d2 : (m - 1) * u <= 1048576 * 1048576 := Int.mul_le_mul (by omega) hu2 (by omega) (by omega)
 have e1 : 0 <= c / u := Int.ediv_nonneg (by omega) (by omega)
 have e2 : c / u <= c := Int.ediv_le_self _ (by omega)
 have f1 : 0 <= c / u * (m - 1) := Int.mul_nonneg e1 (by omega)
 have f2 : c / u * (m - 1) <= 1048576 * 1048576 := Int.mul_le_mul (by omega) (by omega) (by omega) (by omega)
 have g1 : 0 <= c / u * (m - 1) * u := Int.mul_nonneg f1 (by omega)
 have g2 : c / u * (m - 1) * u <= 1048576 * 1048576 * 1048576 := Int.mul_le_mul f2 hu2 (by omega) (by omega)
 unfold numsV
 go_enter Try.func54, Try.ntmps54
 go_wp2_with fail
 refine (kc_ id m u b c z s me o a l _).mono ?_
 rintro e w1 ⟨rfl, hb⟩
 rw [Hs.out]
 have hk : w1.heap[w.heap.size + 1]? = some (.cells #[.int .i64 0, .int .i64 0, .int .i64 0, .int .i64 0, .int .i64 0, .int .i64 0, .int .i64 0] 106 (0, 0)) := m_below (m_new (w.alloc _) (.cells #[.int .i64 0, .int .i64 0, .int .i64 0, .int .i64 0, .int .i64 0, .int .i64 0, .int .i64 0] 106) _ (by simp)) hb (by simp)
 have HK := hid hk; clear hk
 have hz := hb.size
 simp at hz
 have hz1 : w.heap.size < w1.heap.size := by omega
 have hz2 : w.heap.size + 1 < w1.heap.size := by omega
 have ha0 : w1.cell? ⟨w.heap.size + 1, 0, none⟩ = some (.int .i64 0) := (hb.cell (p := ⟨w.heap.size + 1, 0, none⟩) (by simp)).trans (by simp [go_sem])
 have hf0 : w1.frozen? ⟨w.heap.size + 1, 0, none⟩ = false := (hb.frozen (p := ⟨w.heap.size + 1, 0, none⟩) (by simp)).trans (by simp [go_sem])
 have ha1 : w1.cell? ⟨w.heap.size + 1, 1, none⟩ = some (.int .i64 0) := (hb.cell (p := ⟨w.heap.size + 1, 1, none⟩) (by simp)).trans (by simp [go_sem])
 have hf1 : w1.frozen? ⟨w.heap.size + 1, 1, none⟩ = false := (hb.frozen (p := ⟨w.heap.size + 1, 1, none⟩) (by simp)).trans (by simp [go_sem])
 have ha2 : w1.cell? ⟨w.heap.size + 1, 2, none⟩ = some (.int .i64 0) := (hb.cell (p := ⟨w.heap.size + 1, 2, none⟩) (by simp)).trans (by simp [go_sem])
 have hf2 : w1.frozen? ⟨w.heap.size + 1, 2, none⟩ = false := (hb.frozen (p := ⟨w.heap.size + 1, 2, none⟩) (by simp)).trans (by simp [go_sem])
 have ha3 : w1.cell? ⟨w.heap.size + 1, 3, none⟩ = some (.int .i64 0) := (hb.cell (p := ⟨w.heap.size + 1, 3, none⟩) (by simp)).trans (by simp [go_sem])
 have hf3 : w1.frozen? ⟨w.heap.size + 1, 3, none⟩ = false := (hb.frozen (p := ⟨w.heap.size + 1, 3, none⟩) (by simp)).trans (by simp [go_sem])
 have ha4 : w1.cell? ⟨w.heap.size + 1, 4, none⟩ = some (.int .i64 0) := (hb.cell (p := ⟨w.heap.size + 1, 4, none⟩) (by simp)).trans (by simp [go_sem])
 have hf4 : w1.frozen? ⟨w.heap.size + 1, 4, none⟩ = false := (hb.frozen (p := ⟨w.heap.size + 1, 4, none⟩) (by simp)).trans (by simp [go_sem])
 have ha5 : w1.cell? ⟨w.heap.size + 1, 5, none⟩ = some (.int .i64 0) := (hb.cell (p := ⟨w.heap.size + 1, 5, none⟩) (by simp)).trans (by simp [go_sem])
 have hf5 : w1.frozen? ⟨w.heap.size + 1, 5, none⟩ = false := (hb.frozen (p := ⟨w.heap.size + 1, 5, none⟩) (by simp)).trans (by simp [go_sem])
 have ha6 : w1.cell? ⟨w.heap.size + 1, 6, none⟩ = some (.int .i64 0) := (hb.cell (p := ⟨w.heap.size + 1, 6, none⟩) (by simp)).trans (by simp [go_sem])
 have hf6 : w1.frozen? ⟨w.heap.size + 1, 6, none⟩ = false := (hb.frozen (p := ⟨w.heap.size + 1, 6, none⟩) (by simp)).trans (by simp [go_sem])
 have hw0 : w1.cell? ⟨w.heap.size, 0, none⟩ = some (.int .i64 id) := (hb.cell (p := ⟨w.heap.size, 0, none⟩) (by simp; omega)).trans (by simp [go_sem])
 have hw1 : w1.cell? ⟨w.heap.size, 1, none⟩ = some (.int .i64 m) := (hb.cell (p := ⟨w.heap.size, 1, none⟩) (by simp; omega)).trans (by simp [go_sem])
 have hw2 : w1.cell? ⟨w.heap.size, 2, none⟩ = some (.int .i64 u) := (hb.cell (p := ⟨w.heap.size, 2, none⟩) (by simp; omega)).trans (by simp [go_sem])
 have hw3 : w1.cell? ⟨w.heap.size, 3, none⟩ = some (.int .i64 b) := (hb.cell (p := ⟨w.heap.size, 3, none⟩) (by simp; omega)).trans (by simp [go_sem])
 have hw4 : w1.cell? ⟨w.heap.size, 4, none⟩ = some (.int .i64 c) := (hb.cell (p := ⟨w.heap.size, 4, none⟩) (by simp; omega)).trans (by simp [go_sem])
 have hw5 : w1.cell? ⟨w.heap.size, 5, none⟩ = some (.int .i64 z) := (hb.cell (p := ⟨w.heap.size, 5, none⟩) (by simp; omega)).trans (by simp [go_sem])
 have hw6 : w1.cell? ⟨w.heap.size, 6, none⟩ = some (.int .i64 s) := (hb.cell (p := ⟨w.heap.size, 6, none⟩) (by simp; omega)).trans (by simp [go_sem])
 have hw7 : w1.cell? ⟨w.heap.size, 7, none⟩ = some (.int .i64 me) := (hb.cell (p := ⟨w.heap.size, 7, none⟩) (by simp; omega)).trans (by simp [go_sem])
 have hw8 : w1.cell? ⟨w.heap.size, 8, none⟩ = some (.int .i64 o) := (hb.cell (p := ⟨w.heap.size, 8, none⟩) (by simp; omega)).trans (by simp [go_sem])
 have hw9 : w1.cell? ⟨w.heap.size, 9, none⟩ = some (.int .i64 a) := (hb.cell (p := ⟨w.heap.size, 9, none⟩) (by simp; omega)).trans (by simp [go_sem])
 have hw10 : w1.cell? ⟨w.heap.size, 10, none⟩ = some (.int .i64 l) := (hb.cell (p := ⟨w.heap.size, 10, none⟩) (by simp; omega)).trans (by simp [go_sem])
 have hB : Below w.heap.size w w1 := (((Below.refl _ w).alloc (Nat.le_refl _) _).alloc (by simp) _).trans (hb.mono (by simp; omega))
 have HB := hid hB; clear hB hb hz
 go_wp2
 clear hr
 have q0 : ¬ u = 0 := by omega
 have q1 : IntKind.i64.wrap (c.tdiv u) = c / u := by rw [Int.tdiv_eq_ediv_of_nonneg (by omega)]; exact IntWalk.i64_in _ (by omega)
 have q2 : IntKind.i64.wrap ((m - 1) * u) = (m - 1) * u := IntWalk.i64_in _ (by omega)
 have q3 : IntKind.i64.wrap (c / u * (m - 1)) = c / u * (m - 1) := IntWalk.i64_in _ (by omega)
 have q4 : IntKind.i64.wrap (c / u * (m - 1) * u) = c / u * (m - 1) * u := IntWalk.i64_in _ (by omega)
 have q5 : IntKind.i64.wrap (z + s) = z + s := IntWalk.i64_in _ (by omega)
 have q6 : IntKind.i64.wrap (z + s + me) = z + s + me := IntWalk.i64_in _ (by omega)
 have q7 : IntKind.i64.wrap ((320 + 8 * m + 48 * z + (z + 1) * u * b) / b + 1 + 2) = (320 + 8 * m + 48 * z + (z + 1) * u * b) / b + 1 + 2 := IntWalk.i64_in _ (by omega)
 go_still_tail 36, (by kernel_rfl)
 change wpList _ _ _ _ _ w1.drew
 clear q0 q1 q2 q3 q4 q5 q6 q7
 go_wp2
 exact bodyPost_ret (results_cell_row rfl _ _ (w.heap.size + 1) 106 _ (0, 0) _ rfl (m_drew (vZ_ (vZ_ (vZ_ (vZ_ (vZ_ (vZ_ (vZ_ HK.out 0 _ rfl) 1 _ rfl) 2 _ rfl) 3 _ rfl) 4 _ rfl) 5 _ rfl) 6 _ rfl)) Try.underlying106 rfl (by kernel_rfl)) rfl ⟨rfl, (((((((HB.out.setCell (p := ⟨w.heap.size + 1, 0, none⟩) (by simp) _).setCell (p := ⟨w.heap.size + 1, 1, none⟩) (by simp) _).setCell (p := ⟨w.heap.size + 1, 2, none⟩) (by simp) _).setCell (p := ⟨w.heap.size + 1, 3, none⟩) (by simp) _).setCell (p := ⟨w.heap.size + 1, 4, none⟩) (by simp) _).setCell (p := ⟨w.heap.size + 1, 5, none⟩) (by simp) _).setCell (p := ⟨w.heap.size + 1, 6, none⟩) (by simp) _).drew⟩
theorem nums_y0 (id m u b c z s me o a l : Int) (w : World) (hs : jZ_ m u b c z s me o a l = true) (hr : (320 + 8 * m + 48 * z) % b <= 0) :
  Calls Try.prog 54 #[.agg #[.int .i64 id, .int .i64 m, .int .i64 u, .int .i64 b, .int .i64 c, .int .i64 z, .int .i64 s, .int .i64 me, .int .i64 o, .int .i64 a, .int .i64 l]] w fun e w' => e = .returned (numsV m u c z s me ((320 + 8 * m + 48 * z + (z + 1) * u * b) / b + 2)) /\ Below w.heap.size w w' := by
 obtain ⟨⟨hm1, hm2⟩, ⟨hu1, hu2⟩, ⟨hb1, hb2⟩, ⟨hc1, hc2⟩, ⟨hz1, hz2⟩, ⟨hs1, hs2⟩, ⟨hme1, hme2⟩, ⟨ho1, ho2⟩, ⟨ha1, ha2⟩, ⟨hl1, hl2⟩⟩ := jY_ hs
 have Hs := hid hs; clear hs
 have k1 : 0 <= (z + 1) * u := Int.mul_nonneg (by omega) (by omega)
 have k2 : (z + 1) * u <= 1048577 * 1048576 := Int.mul_le_mul (by omega) hu2 (by omega) (by omega)
 have k3 : 0 <= (z + 1) * u * b := Int.mul_nonneg k1 (by omega)
 have k4 : (z + 1) * u * b <= 1048577 * 1048576 * 1048576 := Int.mul_le_mul k2 hb2 (by omega) (by omega)
 have k5 : 0 <= (320 + 8 * m + 48 * z + (z + 1) * u * b) / b := Int.ediv_nonneg (by omega) (by omega)
 have k6 : (320 + 8 * m + 48 * z + (z + 1) * u * b) / b <= 320 + 8 * m + 48 * z + (z + 1) * u * b := Int.ediv_le_self _ (by omega)
 have d1 : 0 <= (m - 1) * u := Int.mul_nonneg (by omega) (by omega)
 have d2 : (m - 1) * u <= 1048576 * 1048576 := Int.mul_le_mul (by omega) hu2 (by omega) (by omega)
 have e1 : 0 <= c / u := Int.ediv_nonneg (by omega) (by omega)
 have e2 : c / u <= c := Int.ediv_le_self _ (by omega)
 have f1 : 0 <= c / u * (m - 1) := Int.mul_nonneg e1 (by omega)
 have f2 : c / u * (m - 1) <= 1048576 * 1048576 := Int.mul_le_mul (by omega) (by omega) (by omega) (by omega)
 have g1 : 0 <= c / u * (m - 1) * u := Int.mul_nonneg f1 (by omega)
 have g2 : c / u * (m - 1) * u <= 1048576 * 1048576 * 1048576 := Int.mul_le_mul f2 hu2 (by omega) (by omega)
 unfold numsV
 go_enter Try.func54, Try.ntmps54
 go_wp2_with fail
 refine (kc_ id m u b c z s me o a l _).mono ?_
 rintro e w1 ⟨rfl, hb⟩
 rw [Hs.out]
 have hk : w1.heap[w.heap.size + 1]? = some (.cells #[.int .i64 0, .int .i64 0, .int .i64 0, .int .i64 0, .int .i64 0, .int .i64 0, .int .i64 0] 106 (0, 0)) := m_below (m_new (w.alloc _) (.cells #[.int .i64 0, .int .i64 0, .int .i64 0, .int .i64 0, .int .i64 0, .int .i64 0, .int .i64 0] 106) _ (by simp)) hb (by simp)
 have HK := hid hk; clear hk
 have hz := hb.size
 simp at hz
 have hz1 : w.heap.size < w1.heap.size := by omega
 have hz2 : w.heap.size + 1 < w1.heap.size := by omega
 have ha0 : w1.cell? ⟨w.heap.size + 1, 0, none⟩ = some (.int .i64 0) := (hb.cell (p := ⟨w.heap.size + 1, 0, none⟩) (by simp)).trans (by simp [go_sem])
 have hf0 : w1.frozen? ⟨w.heap.size + 1, 0, none⟩ = false := (hb.frozen (p := ⟨w.heap.size + 1, 0, none⟩) (by simp)).trans (by simp [go_sem])
 have ha1 : w1.cell? ⟨w.heap.size + 1, 1, none⟩ = some (.int .i64 0) := (hb.cell (p := ⟨w.heap.size + 1, 1, none⟩) (by simp)).trans (by simp [go_sem])
 have hf1 : w1.frozen? ⟨w.heap.size + 1, 1, none⟩ = false := (hb.frozen (p := ⟨w.heap.size + 1, 1, none⟩) (by simp)).trans (by simp [go_sem])
 have ha2 : w1.cell? ⟨w.heap.size + 1, 2, none⟩ = some (.int .i64 0) := (hb.cell (p := ⟨w.heap.size + 1, 2, none⟩) (by simp)).trans (by simp [go_sem])
 have hf2 : w1.frozen? ⟨w.heap.size + 1, 2, none⟩ = false := (hb.frozen (p := ⟨w.heap.size + 1, 2, none⟩) (by simp)).trans (by simp [go_sem])
 have ha3 : w1.cell? ⟨w.heap.size + 1, 3, none⟩ = some (.int .i64 0) := (hb.cell (p := ⟨w.heap.size + 1, 3, none⟩) (by simp)).trans (by simp [go_sem])
 have hf3 : w1.frozen? ⟨w.heap.size + 1, 3, none⟩ = false := (hb.frozen (p := ⟨w.heap.size + 1, 3, none⟩) (by simp)).trans (by simp [go_sem])
 have ha4 : w1.cell? ⟨w.heap.size + 1, 4, none⟩ = some (.int .i64 0) := (hb.cell (p := ⟨w.heap.size + 1, 4, none⟩) (by simp)).trans (by simp [go_sem])
 have hf4 : w1.frozen? ⟨w.heap.size + 1, 4, none⟩ = false := (hb.frozen (p := ⟨w.heap.size + 1, 4, none⟩) (by simp)).trans (by simp [go_sem])
 have ha5 : w1.cell? ⟨w.heap.size + 1, 5, none⟩ = some (.int .i64 0) := (hb.cell (p := ⟨w.heap.size + 1, 5, none⟩) (by simp)).trans (by simp [go_sem])
 have hf5 : w1.frozen? ⟨w.heap.size + 1, 5, none⟩ = false := (hb.frozen (p := ⟨w.heap.size + 1, 5, none⟩) (by simp)).trans (by simp [go_sem])
 have ha6 : w1.cell? ⟨w.heap.size + 1, 6, none⟩ = some (.int .i64 0) := (hb.cell (p := ⟨w.heap.size + 1, 6, none⟩) (by simp)).trans (by simp [go_sem])
 have hf6 : w1.frozen? ⟨w.heap.size + 1, 6, none⟩ = false := (hb.frozen (p := ⟨w.heap.size + 1, 6, none⟩) (by simp)).trans (by simp [go_sem])
 have hw0 : w1.cell? ⟨w.heap.size, 0, none⟩ = some (.int .i64 id) := (hb.cell (p := ⟨w.heap.size, 0, none⟩) (by simp; omega)).trans (by simp [go_sem])
 have hw1 : w1.cell? ⟨w.heap.size, 1, none⟩ = some (.int .i64 m) := (hb.cell (p := ⟨w.heap.size, 1, none⟩) (by simp; omega)).trans (by simp [go_sem])
 have hw2 : w1.cell? ⟨w.heap.size, 2, none⟩ = some (.int .i64 u) := (hb.cell (p := ⟨w.heap.size, 2, none⟩) (by simp; omega)).trans (by simp [go_sem])
 have hw3 : w1.cell? ⟨w.heap.size, 3, none⟩ = some (.int .i64 b) := (hb.cell (p := ⟨w.heap.size, 3, none⟩) (by simp; omega)).trans (by simp [go_sem])
 have hw4 : w1.cell? ⟨w.heap.size, 4, none⟩ = some (.int .i64 c) := (hb.cell (p := ⟨w.heap.size, 4, none⟩) (by simp; omega)).trans (by simp [go_sem])
 have hw5 : w1.cell? ⟨w.heap.size, 5, none⟩ = some (.int .i64 z) := (hb.cell (p := ⟨w.heap.size, 5, none⟩) (by simp; omega)).trans (by simp [go_sem])
 have hw6 : w1.cell? ⟨w.heap.size, 6, none⟩ = some (.int .i64 s) := (hb.cell (p := ⟨w.heap.size, 6, none⟩) (by simp; omega)).trans (by simp [go_sem])
 have hw7 : w1.cell? ⟨w.heap.size, 7, none⟩ = some (.int .i64 me) := (hb.cell (p := ⟨w.heap.size, 7, none⟩) (by simp; omega)).trans (by simp [go_sem])
 have hw8 : w1.cell? ⟨w.heap.size, 8, none⟩ = some (.int .i64 o) := (hb.cell (p := ⟨w.heap.size, 8, none⟩) (by simp; omega)).trans (by simp [go_sem])
 have hw9 : w1.cell? ⟨w.heap.size, 9, none⟩ = some (.int .i64 a) := (hb.cell (p := ⟨w.heap.size, 9, none⟩) (by simp; omega)).trans (by simp [go_sem])
 have hw10 : w1.cell? ⟨w.heap.size, 10, none⟩ = some (.int .i64 l) := (hb.cell (p := ⟨w.heap.size, 10, none⟩) (by simp; omega)).trans (by simp [go_sem])
 have hB : Below w.heap.size w w1 := (((Below.refl _ w).alloc (Nat.le_refl _) _).alloc (by simp) _).trans (hb.mono (by simp; omega))
 have HB := hid hB; clear hB hb hz
 go_wp2
 clear hr
 have q0 : ¬ u = 0 := by omega
 have q1 : IntKind.i64.wrap (c.tdiv u) = c / u := by rw [Int.tdiv_eq_ediv_of_nonneg (by omega)]; exact IntWalk.i64_in _ (by omega)
 have q2 : IntKind.i64.wrap ((m - 1) * u) = (m - 1) * u := IntWalk.i64_in _ (by omega)
 have q3 : IntKind.i64.wrap (c / u * (m - 1)) = c / u * (m - 1) := IntWalk.i64_in _ (by omega)
 have q4 : IntKind.i64.wrap (c / u * (m - 1) * u) = c / u * (m - 1) * u := IntWalk.i64_in _ (by omega)
 have q5 : IntKind.i64.wrap (z + s) = z + s := IntWalk.i64_in _ (by omega)
 have q6 : IntKind.i64.wrap (z + s + me) = z + s + me := IntWalk.i64_in _ (by omega)
 have q7 : IntKind.i64.wrap ((320 + 8 * m + 48 * z + (z + 1) * u * b) / b + 2) = (320 + 8 * m + 48 * z + (z + 1) * u * b) / b + 2 := IntWalk.i64_in _ (by omega)
 go_still_tail 36, (by kernel_rfl)
 change wpList _ _ _ _ _ w1.drew
 clear q0 q1 q2 q3 q4 q5 q6 q7
 go_wp2
 exact bodyPost_ret (results_cell_row rfl _ _ (w.heap.size + 1) 106 _ (0, 0) _ rfl (m_drew (vZ_ (vZ_ (vZ_ (vZ_ (vZ_ (vZ_ (vZ_ HK.out 0 _ rfl) 1 _ rfl) 2 _ rfl) 3 _ rfl) 4 _ rfl) 5 _ rfl) 6 _ rfl)) Try.underlying106 rfl (by kernel_rfl)) rfl ⟨rfl, (((((((HB.out.setCell (p := ⟨w.heap.size + 1, 0, none⟩) (by simp) _).setCell (p := ⟨w.heap.size + 1, 1, none⟩) (by simp) _).setCell (p := ⟨w.heap.size + 1, 2, none⟩) (by simp) _).setCell (p := ⟨w.heap.size + 1, 3, none⟩) (by simp) _).setCell (p := ⟨w.heap.size + 1, 4, none⟩) (by simp) _).setCell (p := ⟨w.heap.size + 1, 5, none⟩) (by simp) _).setCell (p := ⟨w.heap.size + 1, 6, none⟩) (by simp) _).drew⟩
theorem yA_ (id m u b c z s me o a l : Int) (w : World) (hs : jZ_ m u b c z s me o a l = true) :
  Calls Try.prog 54 #[.agg #[.int .i64 id, .int .i64 m, .int .i64 u, .int .i64 b, .int .i64 c, .int .i64 z, .int .i64 s, .int .i64 me, .int .i64 o, .int .i64 a, .int .i64 l]] w fun e w' => e = .returned (.agg #[.int .i64 (m - 1), .int .i64 ((m - 1) * u), .int .i64 (c / u), .int .i64 (c / u * (m - 1) * u), .int .i64 (z + s), .int .i64 (z + s + me), .int .i64 (zl_ m u b z)]) /\ Below w.heap.size w w' := by
 by_cases hr : (320 + 8 * m + 48 * z) % b > 0
 ·
  have h := nums_y1 id m u b c z s me o a l w hs hr
  have e : zl_ m u b z = (320 + 8 * m + 48 * z + (z + 1) * u * b) / b + 1 + 2 := by rw [zl_, if_pos hr]
  rw [e]; exact h
 ·
  have h := nums_y0 id m u b c z s me o a l w hs (by omega)
  have e : zl_ m u b z = (320 + 8 * m + 48 * z + (z + 1) * u * b) / b + 2 := by rw [zl_, if_neg hr]
  rw [e]; exact h
theorem rrow_any (id m u b c z s me o a l : Int) (w : World) :
  Calls Try.prog 116 #[.agg #[.int .i64 id, .int .i64 m, .int .i64 u, .int .i64 b, .int .i64 c, .int .i64 z, .int .i64 s, .int .i64 me, .int .i64 o, .int .i64 a, .int .i64 l]] w fun e w' => e = .returned (.int .i64 (rowC m u b c z s me o a l)) /\ Below w.heap.size w w' := by
 cases hs : jZ_ m u b c z s me o a l with
 | true =>
  have hv : rowC m u b c z s me o a l = (m - 1) * u := by rw [rowC, if_pos hs]
  rw [hv]
  clear hv
  have Hs := hid hs; clear hs
  have hix := ix_1
  go_enter Try.func116, Try.ntmps116
  go_wp2_with fail
  refine (yA_ id m u b c z s me o a l _ Hs.out).mono ?_
  rintro e w1 ⟨rfl, hb⟩
  go_wp2
  go_ret
  exact ⟨rfl, ((Below.refl _ w).alloc (Nat.le_refl _) _).trans (hb.mono (by simp))⟩
 | false =>
  have hv : rowC m u b c z s me o a l = 0 := by rw [rowC, if_neg (by rw [hs]; decide)]
  rw [hv]
  clear hv
  have Hs := hid hs; clear hs
  have hix := ix_1
  go_enter Try.func116, Try.ntmps116
  go_wp2_with fail
  refine (nums_no id m u b c z s me o a l _ Hs.out).mono ?_
  unfold zerosV
  rintro e w1 ⟨rfl, hb⟩
  go_wp2
  go_ret
  exact ⟨rfl, ((Below.refl _ w).alloc (Nat.le_refl _) _).trans (hb.mono (by simp))⟩
theorem rsize_any (id m u b c z s me o a l : Int) (w : World) :
  Calls Try.prog 41 #[.agg #[.int .i64 id, .int .i64 m, .int .i64 u, .int .i64 b, .int .i64 c, .int .i64 z, .int .i64 s, .int .i64 me, .int .i64 o, .int .i64 a, .int .i64 l]] w fun e w' => e = .returned (.int .i64 (kg_ m u b c z s me o a l)) /\ Below w.heap.size w w' := by
 cases hs : jZ_ m u b c z s me o a l with
 | true =>
  have hv : kg_ m u b c z s me o a l = c / u * (m - 1) * u := by rw [kg_, if_pos hs]; exact (Int.mul_assoc _ _ _).symm
  rw [hv]
  clear hv
  have Hs := hid hs; clear hs
  have hix := ix_3
  go_enter Try.func41, Try.ntmps41
  go_wp2_with fail
  refine (yA_ id m u b c z s me o a l _ Hs.out).mono ?_
  rintro e w1 ⟨rfl, hb⟩
  go_wp2
  go_ret
  exact ⟨rfl, ((Below.refl _ w).alloc (Nat.le_refl _) _).trans (hb.mono (by simp))⟩
 | false =>
  have hv : kg_ m u b c z s me o a l = 0 := by rw [kg_, if_neg (by rw [hs]; decide)]
  rw [hv]
  clear hv
  have Hs := hid hs; clear hs
  have hix := ix_3
  go_enter Try.func41, Try.ntmps41
  go_wp2_with fail
  refine (nums_no id m u b c z s me o a l _ Hs.out).mono ?_
  unfold zerosV
  rintro e w1 ⟨rfl, hb⟩
  go_wp2
  go_ret
  exact ⟨rfl, ((Below.refl _ w).alloc (Nat.le_refl _) _).trans (hb.mono (by simp))⟩
end Go.Proofs.Ytgckcaoncjhgbaa
