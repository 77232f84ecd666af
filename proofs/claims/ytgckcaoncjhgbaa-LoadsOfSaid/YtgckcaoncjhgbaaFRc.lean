/- What Check of the reference 07 answers, way by way. Conditions: the tests of the way. -/
/- What Check of the reference 07 answers at any settings: what Check of package conf answers. No condition. -/
import Derived.Test.YtgckcaoncjhgbaaRef
set_option maxHeartbeats 2000000
set_option maxRecDepth 100000
open Go.Lib (hid)
namespace Go.Proofs.Ytgckcaoncjhgbaa
open Go.RowKit
set_option linter.unusedVariables false
set_option linter.unusedSimpArgs false
theorem rchk_00 (id m u b c z s me o a l : Int) (w : World) (h00 : id < 0) :
  Calls Try.prog 13 #[.agg #[.int .i64 id, .int .i64 m, .int .i64 u, .int .i64 b, .int .i64 c, .int .i64 z, .int .i64 s, .int .i64 me, .int .i64 o, .int .i64 a, .int .i64 l]] w fun e w' => e = .returned (.int .i64 1) /\ Below w.heap.size w w' := by
 go_enter Try.func13, Try.ntmps13
 go_wp2
 go_ret
 exact ⟨rfl, ((Below.refl _ w).alloc (Nat.le_refl _) _)⟩
theorem rchk_10 (id m u b c z s me o a l : Int) (w : World) (h00 : 0 <= id) (h01 : id <= 1099511627776) (h02 : jZ_ m u b c z s me o a l = true) (h10 : m < 3) :
  Calls Try.prog 13 #[.agg #[.int .i64 id, .int .i64 m, .int .i64 u, .int .i64 b, .int .i64 c, .int .i64 z, .int .i64 s, .int .i64 me, .int .i64 o, .int .i64 a, .int .i64 l]] w fun e w' => e = .returned (.int .i64 1) /\ Below w.heap.size w w' := by
 obtain ⟨⟨_, _⟩, ⟨_, _⟩, ⟨_, _⟩, ⟨_, _⟩, ⟨_, _⟩, ⟨_, _⟩, ⟨_, _⟩, ⟨_, _⟩, ⟨_, _⟩, ⟨_, _⟩⟩ := jY_ h02
 have H02 := hid h02; clear h02
 go_enter Try.func13, Try.ntmps13
 go_wp2_with fail
 refine (kc_ id m u b c z s me o a l _).mono ?_
 rintro e w1 ⟨rfl, hb⟩
 rw [H02.out]
 have hz := hb.size
 simp at hz
 have hw0 : w1.cell? ⟨w.heap.size, 0, none⟩ = some (.int .i64 id) := (hb.cell (p := ⟨w.heap.size, 0, none⟩) (by simp)).trans (by simp [go_sem])
 have hw1 : w1.cell? ⟨w.heap.size, 1, none⟩ = some (.int .i64 m) := (hb.cell (p := ⟨w.heap.size, 1, none⟩) (by simp)).trans (by simp [go_sem])
 have hw2 : w1.cell? ⟨w.heap.size, 2, none⟩ = some (.int .i64 u) := (hb.cell (p := ⟨w.heap.size, 2, none⟩) (by simp)).trans (by simp [go_sem])
 have hw3 : w1.cell? ⟨w.heap.size, 3, none⟩ = some (.int .i64 b) := (hb.cell (p := ⟨w.heap.size, 3, none⟩) (by simp)).trans (by simp [go_sem])
 have hw4 : w1.cell? ⟨w.heap.size, 4, none⟩ = some (.int .i64 c) := (hb.cell (p := ⟨w.heap.size, 4, none⟩) (by simp)).trans (by simp [go_sem])
 have hw5 : w1.cell? ⟨w.heap.size, 5, none⟩ = some (.int .i64 z) := (hb.cell (p := ⟨w.heap.size, 5, none⟩) (by simp)).trans (by simp [go_sem])
 have hw6 : w1.cell? ⟨w.heap.size, 6, none⟩ = some (.int .i64 s) := (hb.cell (p := ⟨w.heap.size, 6, none⟩) (by simp)).trans (by simp [go_sem])
 have hw7 : w1.cell? ⟨w.heap.size, 7, none⟩ = some (.int .i64 me) := (hb.cell (p := ⟨w.heap.size, 7, none⟩) (by simp)).trans (by simp [go_sem])
 have hw8 : w1.cell? ⟨w.heap.size, 8, none⟩ = some (.int .i64 o) := (hb.cell (p := ⟨w.heap.size, 8, none⟩) (by simp)).trans (by simp [go_sem])
 have hw9 : w1.cell? ⟨w.heap.size, 9, none⟩ = some (.int .i64 a) := (hb.cell (p := ⟨w.heap.size, 9, none⟩) (by simp)).trans (by simp [go_sem])
 have hw10 : w1.cell? ⟨w.heap.size, 10, none⟩ = some (.int .i64 l) := (hb.cell (p := ⟨w.heap.size, 10, none⟩) (by simp)).trans (by simp [go_sem])
 have hB : Below w.heap.size w w1 := ((Below.refl _ w).alloc (Nat.le_refl _) _).trans (hb.mono (by simp))
 have HB := hid hB; clear hB hb
 go_wp2
 go_ret
 exact ⟨rfl, HB.out⟩
theorem rchk_13 (id m u b c z s me o a l : Int) (w : World) (h00 : 0 <= id) (h01 : id <= 1099511627776) (h02 : jZ_ m u b c z s me o a l = true) (h10 : 3 <= m) (h11 : m <= 16) (h12 : u <= 64) (h13 : b > 4096) :
  Calls Try.prog 13 #[.agg #[.int .i64 id, .int .i64 m, .int .i64 u, .int .i64 b, .int .i64 c, .int .i64 z, .int .i64 s, .int .i64 me, .int .i64 o, .int .i64 a, .int .i64 l]] w fun e w' => e = .returned (.int .i64 1) /\ Below w.heap.size w w' := by
 obtain ⟨⟨_, _⟩, ⟨_, _⟩, ⟨_, _⟩, ⟨_, _⟩, ⟨_, _⟩, ⟨_, _⟩, ⟨_, _⟩, ⟨_, _⟩, ⟨_, _⟩, ⟨_, _⟩⟩ := jY_ h02
 have H02 := hid h02; clear h02
 go_enter Try.func13, Try.ntmps13
 go_wp2_with fail
 refine (kc_ id m u b c z s me o a l _).mono ?_
 rintro e w1 ⟨rfl, hb⟩
 rw [H02.out]
 have hz := hb.size
 simp at hz
 have hw0 : w1.cell? ⟨w.heap.size, 0, none⟩ = some (.int .i64 id) := (hb.cell (p := ⟨w.heap.size, 0, none⟩) (by simp)).trans (by simp [go_sem])
 have hw1 : w1.cell? ⟨w.heap.size, 1, none⟩ = some (.int .i64 m) := (hb.cell (p := ⟨w.heap.size, 1, none⟩) (by simp)).trans (by simp [go_sem])
 have hw2 : w1.cell? ⟨w.heap.size, 2, none⟩ = some (.int .i64 u) := (hb.cell (p := ⟨w.heap.size, 2, none⟩) (by simp)).trans (by simp [go_sem])
 have hw3 : w1.cell? ⟨w.heap.size, 3, none⟩ = some (.int .i64 b) := (hb.cell (p := ⟨w.heap.size, 3, none⟩) (by simp)).trans (by simp [go_sem])
 have hw4 : w1.cell? ⟨w.heap.size, 4, none⟩ = some (.int .i64 c) := (hb.cell (p := ⟨w.heap.size, 4, none⟩) (by simp)).trans (by simp [go_sem])
 have hw5 : w1.cell? ⟨w.heap.size, 5, none⟩ = some (.int .i64 z) := (hb.cell (p := ⟨w.heap.size, 5, none⟩) (by simp)).trans (by simp [go_sem])
 have hw6 : w1.cell? ⟨w.heap.size, 6, none⟩ = some (.int .i64 s) := (hb.cell (p := ⟨w.heap.size, 6, none⟩) (by simp)).trans (by simp [go_sem])
 have hw7 : w1.cell? ⟨w.heap.size, 7, none⟩ = some (.int .i64 me) := (hb.cell (p := ⟨w.heap.size, 7, none⟩) (by simp)).trans (by simp [go_sem])
 have hw8 : w1.cell? ⟨w.heap.size, 8, none⟩ = some (.int .i64 o) := (hb.cell (p := ⟨w.heap.size, 8, none⟩) (by simp)).trans (by simp [go_sem])
 have hw9 : w1.cell? ⟨w.heap.size, 9, none⟩ = some (.int .i64 a) := (hb.cell (p := ⟨w.heap.size, 9, none⟩) (by simp)).trans (by simp [go_sem])
 have hw10 : w1.cell? ⟨w.heap.size, 10, none⟩ = some (.int .i64 l) := (hb.cell (p := ⟨w.heap.size, 10, none⟩) (by simp)).trans (by simp [go_sem])
 have hB : Below w.heap.size w w1 := ((Below.refl _ w).alloc (Nat.le_refl _) _).trans (hb.mono (by simp))
 have HB := hid hB; clear hB hb
 go_wp2
 go_ret
 exact ⟨rfl, HB.out⟩
theorem rchk_20 (id m u b c z s me o a l : Int) (w : World) (h00 : 0 <= id) (h01 : id <= 1099511627776) (h02 : jZ_ m u b c z s me o a l = true) (h10 : 3 <= m) (h11 : m <= 16) (h12 : u <= 64) (h13 : b <= 4096) (h14 : c <= 4096) (h15 : c % u <= 0) (h20 : me < 3) :
  Calls Try.prog 13 #[.agg #[.int .i64 id, .int .i64 m, .int .i64 u, .int .i64 b, .int .i64 c, .int .i64 z, .int .i64 s, .int .i64 me, .int .i64 o, .int .i64 a, .int .i64 l]] w fun e w' => e = .returned (.int .i64 1) /\ Below w.heap.size w w' := by
 obtain ⟨⟨_, _⟩, ⟨_, _⟩, ⟨_, _⟩, ⟨_, _⟩, ⟨_, _⟩, ⟨_, _⟩, ⟨_, _⟩, ⟨_, _⟩, ⟨_, _⟩, ⟨_, _⟩⟩ := jY_ h02
 have H02 := hid h02; clear h02
 go_enter Try.func13, Try.ntmps13
 go_wp2_with fail
 refine (kc_ id m u b c z s me o a l _).mono ?_
 rintro e w1 ⟨rfl, hb⟩
 rw [H02.out]
 have hz := hb.size
 simp at hz
 have hw0 : w1.cell? ⟨w.heap.size, 0, none⟩ = some (.int .i64 id) := (hb.cell (p := ⟨w.heap.size, 0, none⟩) (by simp)).trans (by simp [go_sem])
 have hw1 : w1.cell? ⟨w.heap.size, 1, none⟩ = some (.int .i64 m) := (hb.cell (p := ⟨w.heap.size, 1, none⟩) (by simp)).trans (by simp [go_sem])
 have hw2 : w1.cell? ⟨w.heap.size, 2, none⟩ = some (.int .i64 u) := (hb.cell (p := ⟨w.heap.size, 2, none⟩) (by simp)).trans (by simp [go_sem])
 have hw3 : w1.cell? ⟨w.heap.size, 3, none⟩ = some (.int .i64 b) := (hb.cell (p := ⟨w.heap.size, 3, none⟩) (by simp)).trans (by simp [go_sem])
 have hw4 : w1.cell? ⟨w.heap.size, 4, none⟩ = some (.int .i64 c) := (hb.cell (p := ⟨w.heap.size, 4, none⟩) (by simp)).trans (by simp [go_sem])
 have hw5 : w1.cell? ⟨w.heap.size, 5, none⟩ = some (.int .i64 z) := (hb.cell (p := ⟨w.heap.size, 5, none⟩) (by simp)).trans (by simp [go_sem])
 have hw6 : w1.cell? ⟨w.heap.size, 6, none⟩ = some (.int .i64 s) := (hb.cell (p := ⟨w.heap.size, 6, none⟩) (by simp)).trans (by simp [go_sem])
 have hw7 : w1.cell? ⟨w.heap.size, 7, none⟩ = some (.int .i64 me) := (hb.cell (p := ⟨w.heap.size, 7, none⟩) (by simp)).trans (by simp [go_sem])
 have hw8 : w1.cell? ⟨w.heap.size, 8, none⟩ = some (.int .i64 o) := (hb.cell (p := ⟨w.heap.size, 8, none⟩) (by simp)).trans (by simp [go_sem])
 have hw9 : w1.cell? ⟨w.heap.size, 9, none⟩ = some (.int .i64 a) := (hb.cell (p := ⟨w.heap.size, 9, none⟩) (by simp)).trans (by simp [go_sem])
 have hw10 : w1.cell? ⟨w.heap.size, 10, none⟩ = some (.int .i64 l) := (hb.cell (p := ⟨w.heap.size, 10, none⟩) (by simp)).trans (by simp [go_sem])
 have hB : Below w.heap.size w w1 := ((Below.refl _ w).alloc (Nat.le_refl _) _).trans (hb.mono (by simp))
 have HB := hid hB; clear hB hb
 go_wp2
 go_ret
 exact ⟨rfl, HB.out⟩
theorem rchk_23 (id m u b c z s me o a l : Int) (w : World) (h00 : 0 <= id) (h01 : id <= 1099511627776) (h02 : jZ_ m u b c z s me o a l = true) (h10 : 3 <= m) (h11 : m <= 16) (h12 : u <= 64) (h13 : b <= 4096) (h14 : c <= 4096) (h15 : c % u <= 0) (h20 : 3 <= me) (h21 : me + z + s <= 64) (h22 : o <= a) (h23 : a > z) :
  Calls Try.prog 13 #[.agg #[.int .i64 id, .int .i64 m, .int .i64 u, .int .i64 b, .int .i64 c, .int .i64 z, .int .i64 s, .int .i64 me, .int .i64 o, .int .i64 a, .int .i64 l]] w fun e w' => e = .returned (.int .i64 1) /\ Below w.heap.size w w' := by
 obtain ⟨⟨_, _⟩, ⟨_, _⟩, ⟨_, _⟩, ⟨_, _⟩, ⟨_, _⟩, ⟨_, _⟩, ⟨_, _⟩, ⟨_, _⟩, ⟨_, _⟩, ⟨_, _⟩⟩ := jY_ h02
 have H02 := hid h02; clear h02
 go_enter Try.func13, Try.ntmps13
 go_wp2_with fail
 refine (kc_ id m u b c z s me o a l _).mono ?_
 rintro e w1 ⟨rfl, hb⟩
 rw [H02.out]
 have hz := hb.size
 simp at hz
 have hw0 : w1.cell? ⟨w.heap.size, 0, none⟩ = some (.int .i64 id) := (hb.cell (p := ⟨w.heap.size, 0, none⟩) (by simp)).trans (by simp [go_sem])
 have hw1 : w1.cell? ⟨w.heap.size, 1, none⟩ = some (.int .i64 m) := (hb.cell (p := ⟨w.heap.size, 1, none⟩) (by simp)).trans (by simp [go_sem])
 have hw2 : w1.cell? ⟨w.heap.size, 2, none⟩ = some (.int .i64 u) := (hb.cell (p := ⟨w.heap.size, 2, none⟩) (by simp)).trans (by simp [go_sem])
 have hw3 : w1.cell? ⟨w.heap.size, 3, none⟩ = some (.int .i64 b) := (hb.cell (p := ⟨w.heap.size, 3, none⟩) (by simp)).trans (by simp [go_sem])
 have hw4 : w1.cell? ⟨w.heap.size, 4, none⟩ = some (.int .i64 c) := (hb.cell (p := ⟨w.heap.size, 4, none⟩) (by simp)).trans (by simp [go_sem])
 have hw5 : w1.cell? ⟨w.heap.size, 5, none⟩ = some (.int .i64 z) := (hb.cell (p := ⟨w.heap.size, 5, none⟩) (by simp)).trans (by simp [go_sem])
 have hw6 : w1.cell? ⟨w.heap.size, 6, none⟩ = some (.int .i64 s) := (hb.cell (p := ⟨w.heap.size, 6, none⟩) (by simp)).trans (by simp [go_sem])
 have hw7 : w1.cell? ⟨w.heap.size, 7, none⟩ = some (.int .i64 me) := (hb.cell (p := ⟨w.heap.size, 7, none⟩) (by simp)).trans (by simp [go_sem])
 have hw8 : w1.cell? ⟨w.heap.size, 8, none⟩ = some (.int .i64 o) := (hb.cell (p := ⟨w.heap.size, 8, none⟩) (by simp)).trans (by simp [go_sem])
 have hw9 : w1.cell? ⟨w.heap.size, 9, none⟩ = some (.int .i64 a) := (hb.cell (p := ⟨w.heap.size, 9, none⟩) (by simp)).trans (by simp [go_sem])
 have hw10 : w1.cell? ⟨w.heap.size, 10, none⟩ = some (.int .i64 l) := (hb.cell (p := ⟨w.heap.size, 10, none⟩) (by simp)).trans (by simp [go_sem])
 have hB : Below w.heap.size w w1 := ((Below.refl _ w).alloc (Nat.le_refl _) _).trans (hb.mono (by simp))
 have HB := hid hB; clear hB hb
 go_wp2
 go_ret
 exact ⟨rfl, HB.out⟩
theorem rchk_40 (id m u b c z s me o a l : Int) (w : World) (h00 : 0 <= id) (h01 : id <= 1099511627776) (h02 : jZ_ m u b c z s me o a l = true) (h10 : 3 <= m) (h11 : m <= 16) (h12 : u <= 64) (h13 : b <= 4096) (h14 : c <= 4096) (h15 : c % u <= 0) (h20 : 3 <= me) (h21 : me + z + s <= 64) (h22 : o <= a) (h23 : a <= z) (h30 : a + s + me <= l) (h31 : l <= 64) (h40 : zl_ m u b z <= c) :
  Calls Try.prog 13 #[.agg #[.int .i64 id, .int .i64 m, .int .i64 u, .int .i64 b, .int .i64 c, .int .i64 z, .int .i64 s, .int .i64 me, .int .i64 o, .int .i64 a, .int .i64 l]] w fun e w' => e = .returned (.int .i64 0) /\ Below w.heap.size w w' := by
 obtain ⟨⟨_, _⟩, ⟨_, _⟩, ⟨_, _⟩, ⟨_, _⟩, ⟨_, _⟩, ⟨_, _⟩, ⟨_, _⟩, ⟨_, _⟩, ⟨_, _⟩, ⟨_, _⟩⟩ := jY_ h02
 have H02 := hid h02; clear h02
 have H40 := hid h40; clear h40
 go_enter Try.func13, Try.ntmps13
 go_wp2_with fail
 refine (kc_ id m u b c z s me o a l _).mono ?_
 rintro e w1 ⟨rfl, hb⟩
 rw [H02.out]
 have hz := hb.size
 simp at hz
 have hw0 : w1.cell? ⟨w.heap.size, 0, none⟩ = some (.int .i64 id) := (hb.cell (p := ⟨w.heap.size, 0, none⟩) (by simp)).trans (by simp [go_sem])
 have hw1 : w1.cell? ⟨w.heap.size, 1, none⟩ = some (.int .i64 m) := (hb.cell (p := ⟨w.heap.size, 1, none⟩) (by simp)).trans (by simp [go_sem])
 have hw2 : w1.cell? ⟨w.heap.size, 2, none⟩ = some (.int .i64 u) := (hb.cell (p := ⟨w.heap.size, 2, none⟩) (by simp)).trans (by simp [go_sem])
 have hw3 : w1.cell? ⟨w.heap.size, 3, none⟩ = some (.int .i64 b) := (hb.cell (p := ⟨w.heap.size, 3, none⟩) (by simp)).trans (by simp [go_sem])
 have hw4 : w1.cell? ⟨w.heap.size, 4, none⟩ = some (.int .i64 c) := (hb.cell (p := ⟨w.heap.size, 4, none⟩) (by simp)).trans (by simp [go_sem])
 have hw5 : w1.cell? ⟨w.heap.size, 5, none⟩ = some (.int .i64 z) := (hb.cell (p := ⟨w.heap.size, 5, none⟩) (by simp)).trans (by simp [go_sem])
 have hw6 : w1.cell? ⟨w.heap.size, 6, none⟩ = some (.int .i64 s) := (hb.cell (p := ⟨w.heap.size, 6, none⟩) (by simp)).trans (by simp [go_sem])
 have hw7 : w1.cell? ⟨w.heap.size, 7, none⟩ = some (.int .i64 me) := (hb.cell (p := ⟨w.heap.size, 7, none⟩) (by simp)).trans (by simp [go_sem])
 have hw8 : w1.cell? ⟨w.heap.size, 8, none⟩ = some (.int .i64 o) := (hb.cell (p := ⟨w.heap.size, 8, none⟩) (by simp)).trans (by simp [go_sem])
 have hw9 : w1.cell? ⟨w.heap.size, 9, none⟩ = some (.int .i64 a) := (hb.cell (p := ⟨w.heap.size, 9, none⟩) (by simp)).trans (by simp [go_sem])
 have hw10 : w1.cell? ⟨w.heap.size, 10, none⟩ = some (.int .i64 l) := (hb.cell (p := ⟨w.heap.size, 10, none⟩) (by simp)).trans (by simp [go_sem])
 have hB : Below w.heap.size w w1 := ((Below.refl _ w).alloc (Nat.le_refl _) _).trans (hb.mono (by simp))
 have HB := hid hB; clear hB hb
 have hix := ix_6
 go_wp2_with fail
 go_region_with (go_at_call 54; refine (yA_ id m u b c z s me o a l _ H02.out).mono ?_; rintro e wb ⟨rfl, hb2⟩; have hcc := (hb2.cell (p := ⟨w.heap.size, 4, none⟩) (by simp; omega)).trans hw4)
 all_goals (have hroom := H40.out; go_wp2; go_ret; exact ⟨rfl, HB.out.drew.trans (hb2.mono (by simp; omega))⟩)
theorem rchk_01 (id m u b c z s me o a l : Int) (w : World) (h00 : 0 <= id) (h01 : id > 1099511627776) :
  Calls Try.prog 13 #[.agg #[.int .i64 id, .int .i64 m, .int .i64 u, .int .i64 b, .int .i64 c, .int .i64 z, .int .i64 s, .int .i64 me, .int .i64 o, .int .i64 a, .int .i64 l]] w fun e w' => e = .returned (.int .i64 1) /\ Below w.heap.size w w' := by
 go_enter Try.func13, Try.ntmps13
 go_wp2
 go_ret
 exact ⟨rfl, ((Below.refl _ w).alloc (Nat.le_refl _) _)⟩
theorem rchk_11 (id m u b c z s me o a l : Int) (w : World) (h00 : 0 <= id) (h01 : id <= 1099511627776) (h02 : jZ_ m u b c z s me o a l = true) (h10 : 3 <= m) (h11 : m > 16) :
  Calls Try.prog 13 #[.agg #[.int .i64 id, .int .i64 m, .int .i64 u, .int .i64 b, .int .i64 c, .int .i64 z, .int .i64 s, .int .i64 me, .int .i64 o, .int .i64 a, .int .i64 l]] w fun e w' => e = .returned (.int .i64 1) /\ Below w.heap.size w w' := by
 obtain ⟨⟨_, _⟩, ⟨_, _⟩, ⟨_, _⟩, ⟨_, _⟩, ⟨_, _⟩, ⟨_, _⟩, ⟨_, _⟩, ⟨_, _⟩, ⟨_, _⟩, ⟨_, _⟩⟩ := jY_ h02
 have H02 := hid h02; clear h02
 go_enter Try.func13, Try.ntmps13
 go_wp2_with fail
 refine (kc_ id m u b c z s me o a l _).mono ?_
 rintro e w1 ⟨rfl, hb⟩
 rw [H02.out]
 have hz := hb.size
 simp at hz
 have hw0 : w1.cell? ⟨w.heap.size, 0, none⟩ = some (.int .i64 id) := (hb.cell (p := ⟨w.heap.size, 0, none⟩) (by simp)).trans (by simp [go_sem])
 have hw1 : w1.cell? ⟨w.heap.size, 1, none⟩ = some (.int .i64 m) := (hb.cell (p := ⟨w.heap.size, 1, none⟩) (by simp)).trans (by simp [go_sem])
 have hw2 : w1.cell? ⟨w.heap.size, 2, none⟩ = some (.int .i64 u) := (hb.cell (p := ⟨w.heap.size, 2, none⟩) (by simp)).trans (by simp [go_sem])
 have hw3 : w1.cell? ⟨w.heap.size, 3, none⟩ = some (.int .i64 b) := (hb.cell (p := ⟨w.heap.size, 3, none⟩) (by simp)).trans (by simp [go_sem])
 have hw4 : w1.cell? ⟨w.heap.size, 4, none⟩ = some (.int .i64 c) := (hb.cell (p := ⟨w.heap.size, 4, none⟩) (by simp)).trans (by simp [go_sem])
 have hw5 : w1.cell? ⟨w.heap.size, 5, none⟩ = some (.int .i64 z) := (hb.cell (p := ⟨w.heap.size, 5, none⟩) (by simp)).trans (by simp [go_sem])
 have hw6 : w1.cell? ⟨w.heap.size, 6, none⟩ = some (.int .i64 s) := (hb.cell (p := ⟨w.heap.size, 6, none⟩) (by simp)).trans (by simp [go_sem])
 have hw7 : w1.cell? ⟨w.heap.size, 7, none⟩ = some (.int .i64 me) := (hb.cell (p := ⟨w.heap.size, 7, none⟩) (by simp)).trans (by simp [go_sem])
 have hw8 : w1.cell? ⟨w.heap.size, 8, none⟩ = some (.int .i64 o) := (hb.cell (p := ⟨w.heap.size, 8, none⟩) (by simp)).trans (by simp [go_sem])
 have hw9 : w1.cell? ⟨w.heap.size, 9, none⟩ = some (.int .i64 a) := (hb.cell (p := ⟨w.heap.size, 9, none⟩) (by simp)).trans (by simp [go_sem])
 have hw10 : w1.cell? ⟨w.heap.size, 10, none⟩ = some (.int .i64 l) := (hb.cell (p := ⟨w.heap.size, 10, none⟩) (by simp)).trans (by simp [go_sem])
 have hB : Below w.heap.size w w1 := ((Below.refl _ w).alloc (Nat.le_refl _) _).trans (hb.mono (by simp))
 have HB := hid hB; clear hB hb
 go_wp2
 go_ret
 exact ⟨rfl, HB.out⟩
theorem rchk_14 (id m u b c z s me o a l : Int) (w : World) (h00 : 0 <= id) (h01 : id <= 1099511627776) (h02 : jZ_ m u b c z s me o a l = true) (h10 : 3 <= m) (h11 : m <= 16) (h12 : u <= 64) (h13 : b <= 4096) (h14 : c > 4096) :
  Calls Try.prog 13 #[.agg #[.int .i64 id, .int .i64 m, .int .i64 u, .int .i64 b, .int .i64 c, .int .i64 z, .int .i64 s, .int .i64 me, .int .i64 o, .int .i64 a, .int .i64 l]] w fun e w' => e = .returned (.int .i64 1) /\ Below w.heap.size w w' := by
 obtain ⟨⟨_, _⟩, ⟨_, _⟩, ⟨_, _⟩, ⟨_, _⟩, ⟨_, _⟩, ⟨_, _⟩, ⟨_, _⟩, ⟨_, _⟩, ⟨_, _⟩, ⟨_, _⟩⟩ := jY_ h02
 have H02 := hid h02; clear h02
 go_enter Try.func13, Try.ntmps13
 go_wp2_with fail
 refine (kc_ id m u b c z s me o a l _).mono ?_
 rintro e w1 ⟨rfl, hb⟩
 rw [H02.out]
 have hz := hb.size
 simp at hz
 have hw0 : w1.cell? ⟨w.heap.size, 0, none⟩ = some (.int .i64 id) := (hb.cell (p := ⟨w.heap.size, 0, none⟩) (by simp)).trans (by simp [go_sem])
 have hw1 : w1.cell? ⟨w.heap.size, 1, none⟩ = some (.int .i64 m) := (hb.cell (p := ⟨w.heap.size, 1, none⟩) (by simp)).trans (by simp [go_sem])
 have hw2 : w1.cell? ⟨w.heap.size, 2, none⟩ = some (.int .i64 u) := (hb.cell (p := ⟨w.heap.size, 2, none⟩) (by simp)).trans (by simp [go_sem])
 have hw3 : w1.cell? ⟨w.heap.size, 3, none⟩ = some (.int .i64 b) := (hb.cell (p := ⟨w.heap.size, 3, none⟩) (by simp)).trans (by simp [go_sem])
 have hw4 : w1.cell? ⟨w.heap.size, 4, none⟩ = some (.int .i64 c) := (hb.cell (p := ⟨w.heap.size, 4, none⟩) (by simp)).trans (by simp [go_sem])
 have hw5 : w1.cell? ⟨w.heap.size, 5, none⟩ = some (.int .i64 z) := (hb.cell (p := ⟨w.heap.size, 5, none⟩) (by simp)).trans (by simp [go_sem])
 have hw6 : w1.cell? ⟨w.heap.size, 6, none⟩ = some (.int .i64 s) := (hb.cell (p := ⟨w.heap.size, 6, none⟩) (by simp)).trans (by simp [go_sem])
 have hw7 : w1.cell? ⟨w.heap.size, 7, none⟩ = some (.int .i64 me) := (hb.cell (p := ⟨w.heap.size, 7, none⟩) (by simp)).trans (by simp [go_sem])
 have hw8 : w1.cell? ⟨w.heap.size, 8, none⟩ = some (.int .i64 o) := (hb.cell (p := ⟨w.heap.size, 8, none⟩) (by simp)).trans (by simp [go_sem])
 have hw9 : w1.cell? ⟨w.heap.size, 9, none⟩ = some (.int .i64 a) := (hb.cell (p := ⟨w.heap.size, 9, none⟩) (by simp)).trans (by simp [go_sem])
 have hw10 : w1.cell? ⟨w.heap.size, 10, none⟩ = some (.int .i64 l) := (hb.cell (p := ⟨w.heap.size, 10, none⟩) (by simp)).trans (by simp [go_sem])
 have hB : Below w.heap.size w w1 := ((Below.refl _ w).alloc (Nat.le_refl _) _).trans (hb.mono (by simp))
 have HB := hid hB; clear hB hb
 go_wp2
 go_ret
 exact ⟨rfl, HB.out⟩
theorem rchk_21 (id m u b c z s me o a l : Int) (w : World) (h00 : 0 <= id) (h01 : id <= 1099511627776) (h02 : jZ_ m u b c z s me o a l = true) (h10 : 3 <= m) (h11 : m <= 16) (h12 : u <= 64) (h13 : b <= 4096) (h14 : c <= 4096) (h15 : c % u <= 0) (h20 : 3 <= me) (h21 : me + z + s > 64) :
  Calls Try.prog 13 #[.agg #[.int .i64 id, .int .i64 m, .int .i64 u, .int .i64 b, .int .i64 c, .int .i64 z, .int .i64 s, .int .i64 me, .int .i64 o, .int .i64 a, .int .i64 l]] w fun e w' => e = .returned (.int .i64 1) /\ Below w.heap.size w w' := by
 obtain ⟨⟨_, _⟩, ⟨_, _⟩, ⟨_, _⟩, ⟨_, _⟩, ⟨_, _⟩, ⟨_, _⟩, ⟨_, _⟩, ⟨_, _⟩, ⟨_, _⟩, ⟨_, _⟩⟩ := jY_ h02
 have H02 := hid h02; clear h02
 go_enter Try.func13, Try.ntmps13
 go_wp2_with fail
 refine (kc_ id m u b c z s me o a l _).mono ?_
 rintro e w1 ⟨rfl, hb⟩
 rw [H02.out]
 have hz := hb.size
 simp at hz
 have hw0 : w1.cell? ⟨w.heap.size, 0, none⟩ = some (.int .i64 id) := (hb.cell (p := ⟨w.heap.size, 0, none⟩) (by simp)).trans (by simp [go_sem])
 have hw1 : w1.cell? ⟨w.heap.size, 1, none⟩ = some (.int .i64 m) := (hb.cell (p := ⟨w.heap.size, 1, none⟩) (by simp)).trans (by simp [go_sem])
 have hw2 : w1.cell? ⟨w.heap.size, 2, none⟩ = some (.int .i64 u) := (hb.cell (p := ⟨w.heap.size, 2, none⟩) (by simp)).trans (by simp [go_sem])
 have hw3 : w1.cell? ⟨w.heap.size, 3, none⟩ = some (.int .i64 b) := (hb.cell (p := ⟨w.heap.size, 3, none⟩) (by simp)).trans (by simp [go_sem])
 have hw4 : w1.cell? ⟨w.heap.size, 4, none⟩ = some (.int .i64 c) := (hb.cell (p := ⟨w.heap.size, 4, none⟩) (by simp)).trans (by simp [go_sem])
 have hw5 : w1.cell? ⟨w.heap.size, 5, none⟩ = some (.int .i64 z) := (hb.cell (p := ⟨w.heap.size, 5, none⟩) (by simp)).trans (by simp [go_sem])
 have hw6 : w1.cell? ⟨w.heap.size, 6, none⟩ = some (.int .i64 s) := (hb.cell (p := ⟨w.heap.size, 6, none⟩) (by simp)).trans (by simp [go_sem])
 have hw7 : w1.cell? ⟨w.heap.size, 7, none⟩ = some (.int .i64 me) := (hb.cell (p := ⟨w.heap.size, 7, none⟩) (by simp)).trans (by simp [go_sem])
 have hw8 : w1.cell? ⟨w.heap.size, 8, none⟩ = some (.int .i64 o) := (hb.cell (p := ⟨w.heap.size, 8, none⟩) (by simp)).trans (by simp [go_sem])
 have hw9 : w1.cell? ⟨w.heap.size, 9, none⟩ = some (.int .i64 a) := (hb.cell (p := ⟨w.heap.size, 9, none⟩) (by simp)).trans (by simp [go_sem])
 have hw10 : w1.cell? ⟨w.heap.size, 10, none⟩ = some (.int .i64 l) := (hb.cell (p := ⟨w.heap.size, 10, none⟩) (by simp)).trans (by simp [go_sem])
 have hB : Below w.heap.size w w1 := ((Below.refl _ w).alloc (Nat.le_refl _) _).trans (hb.mono (by simp))
 have HB := hid hB; clear hB hb
 go_wp2
 go_ret
 exact ⟨rfl, HB.out⟩
theorem rchk_30 (id m u b c z s me o a l : Int) (w : World) (h00 : 0 <= id) (h01 : id <= 1099511627776) (h02 : jZ_ m u b c z s me o a l = true) (h10 : 3 <= m) (h11 : m <= 16) (h12 : u <= 64) (h13 : b <= 4096) (h14 : c <= 4096) (h15 : c % u <= 0) (h20 : 3 <= me) (h21 : me + z + s <= 64) (h22 : o <= a) (h23 : a <= z) (h30 : l < a + s + me) :
  Calls Try.prog 13 #[.agg #[.int .i64 id, .int .i64 m, .int .i64 u, .int .i64 b, .int .i64 c, .int .i64 z, .int .i64 s, .int .i64 me, .int .i64 o, .int .i64 a, .int .i64 l]] w fun e w' => e = .returned (.int .i64 1) /\ Below w.heap.size w w' := by
 obtain ⟨⟨_, _⟩, ⟨_, _⟩, ⟨_, _⟩, ⟨_, _⟩, ⟨_, _⟩, ⟨_, _⟩, ⟨_, _⟩, ⟨_, _⟩, ⟨_, _⟩, ⟨_, _⟩⟩ := jY_ h02
 have H02 := hid h02; clear h02
 go_enter Try.func13, Try.ntmps13
 go_wp2_with fail
 refine (kc_ id m u b c z s me o a l _).mono ?_
 rintro e w1 ⟨rfl, hb⟩
 rw [H02.out]
 have hz := hb.size
 simp at hz
 have hw0 : w1.cell? ⟨w.heap.size, 0, none⟩ = some (.int .i64 id) := (hb.cell (p := ⟨w.heap.size, 0, none⟩) (by simp)).trans (by simp [go_sem])
 have hw1 : w1.cell? ⟨w.heap.size, 1, none⟩ = some (.int .i64 m) := (hb.cell (p := ⟨w.heap.size, 1, none⟩) (by simp)).trans (by simp [go_sem])
 have hw2 : w1.cell? ⟨w.heap.size, 2, none⟩ = some (.int .i64 u) := (hb.cell (p := ⟨w.heap.size, 2, none⟩) (by simp)).trans (by simp [go_sem])
 have hw3 : w1.cell? ⟨w.heap.size, 3, none⟩ = some (.int .i64 b) := (hb.cell (p := ⟨w.heap.size, 3, none⟩) (by simp)).trans (by simp [go_sem])
 have hw4 : w1.cell? ⟨w.heap.size, 4, none⟩ = some (.int .i64 c) := (hb.cell (p := ⟨w.heap.size, 4, none⟩) (by simp)).trans (by simp [go_sem])
 have hw5 : w1.cell? ⟨w.heap.size, 5, none⟩ = some (.int .i64 z) := (hb.cell (p := ⟨w.heap.size, 5, none⟩) (by simp)).trans (by simp [go_sem])
 have hw6 : w1.cell? ⟨w.heap.size, 6, none⟩ = some (.int .i64 s) := (hb.cell (p := ⟨w.heap.size, 6, none⟩) (by simp)).trans (by simp [go_sem])
 have hw7 : w1.cell? ⟨w.heap.size, 7, none⟩ = some (.int .i64 me) := (hb.cell (p := ⟨w.heap.size, 7, none⟩) (by simp)).trans (by simp [go_sem])
 have hw8 : w1.cell? ⟨w.heap.size, 8, none⟩ = some (.int .i64 o) := (hb.cell (p := ⟨w.heap.size, 8, none⟩) (by simp)).trans (by simp [go_sem])
 have hw9 : w1.cell? ⟨w.heap.size, 9, none⟩ = some (.int .i64 a) := (hb.cell (p := ⟨w.heap.size, 9, none⟩) (by simp)).trans (by simp [go_sem])
 have hw10 : w1.cell? ⟨w.heap.size, 10, none⟩ = some (.int .i64 l) := (hb.cell (p := ⟨w.heap.size, 10, none⟩) (by simp)).trans (by simp [go_sem])
 have hB : Below w.heap.size w w1 := ((Below.refl _ w).alloc (Nat.le_refl _) _).trans (hb.mono (by simp))
 have HB := hid hB; clear hB hb
 go_wp2
 go_ret
 exact ⟨rfl, HB.out⟩
theorem rchk_41 (id m u b c z s me o a l : Int) (w : World) (h00 : 0 <= id) (h01 : id <= 1099511627776) (h02 : jZ_ m u b c z s me o a l = true) (h10 : 3 <= m) (h11 : m <= 16) (h12 : u <= 64) (h13 : b <= 4096) (h14 : c <= 4096) (h15 : c % u <= 0) (h20 : 3 <= me) (h21 : me + z + s <= 64) (h22 : o <= a) (h23 : a <= z) (h30 : a + s + me <= l) (h31 : l <= 64) (h40 : zl_ m u b z > c) :
  Calls Try.prog 13 #[.agg #[.int .i64 id, .int .i64 m, .int .i64 u, .int .i64 b, .int .i64 c, .int .i64 z, .int .i64 s, .int .i64 me, .int .i64 o, .int .i64 a, .int .i64 l]] w fun e w' => e = .returned (.int .i64 17) /\ Below w.heap.size w w' := by
 obtain ⟨⟨_, _⟩, ⟨_, _⟩, ⟨_, _⟩, ⟨_, _⟩, ⟨_, _⟩, ⟨_, _⟩, ⟨_, _⟩, ⟨_, _⟩, ⟨_, _⟩, ⟨_, _⟩⟩ := jY_ h02
 have H02 := hid h02; clear h02
 have H40 := hid h40; clear h40
 go_enter Try.func13, Try.ntmps13
 go_wp2_with fail
 refine (kc_ id m u b c z s me o a l _).mono ?_
 rintro e w1 ⟨rfl, hb⟩
 rw [H02.out]
 have hz := hb.size
 simp at hz
 have hw0 : w1.cell? ⟨w.heap.size, 0, none⟩ = some (.int .i64 id) := (hb.cell (p := ⟨w.heap.size, 0, none⟩) (by simp)).trans (by simp [go_sem])
 have hw1 : w1.cell? ⟨w.heap.size, 1, none⟩ = some (.int .i64 m) := (hb.cell (p := ⟨w.heap.size, 1, none⟩) (by simp)).trans (by simp [go_sem])
 have hw2 : w1.cell? ⟨w.heap.size, 2, none⟩ = some (.int .i64 u) := (hb.cell (p := ⟨w.heap.size, 2, none⟩) (by simp)).trans (by simp [go_sem])
 have hw3 : w1.cell? ⟨w.heap.size, 3, none⟩ = some (.int .i64 b) := (hb.cell (p := ⟨w.heap.size, 3, none⟩) (by simp)).trans (by simp [go_sem])
 have hw4 : w1.cell? ⟨w.heap.size, 4, none⟩ = some (.int .i64 c) := (hb.cell (p := ⟨w.heap.size, 4, none⟩) (by simp)).trans (by simp [go_sem])
 have hw5 : w1.cell? ⟨w.heap.size, 5, none⟩ = some (.int .i64 z) := (hb.cell (p := ⟨w.heap.size, 5, none⟩) (by simp)).trans (by simp [go_sem])
 have hw6 : w1.cell? ⟨w.heap.size, 6, none⟩ = some (.int .i64 s) := (hb.cell (p := ⟨w.heap.size, 6, none⟩) (by simp)).trans (by simp [go_sem])
 have hw7 : w1.cell? ⟨w.heap.size, 7, none⟩ = some (.int .i64 me) := (hb.cell (p := ⟨w.heap.size, 7, none⟩) (by simp)).trans (by simp [go_sem])
 have hw8 : w1.cell? ⟨w.heap.size, 8, none⟩ = some (.int .i64 o) := (hb.cell (p := ⟨w.heap.size, 8, none⟩) (by simp)).trans (by simp [go_sem])
 have hw9 : w1.cell? ⟨w.heap.size, 9, none⟩ = some (.int .i64 a) := (hb.cell (p := ⟨w.heap.size, 9, none⟩) (by simp)).trans (by simp [go_sem])
 have hw10 : w1.cell? ⟨w.heap.size, 10, none⟩ = some (.int .i64 l) := (hb.cell (p := ⟨w.heap.size, 10, none⟩) (by simp)).trans (by simp [go_sem])
 have hB : Below w.heap.size w w1 := ((Below.refl _ w).alloc (Nat.le_refl _) _).trans (hb.mono (by simp))
 have HB := hid hB; clear hB hb
 have hix := ix_6
 go_wp2_with fail
 go_region_with (go_at_call 54; refine (yA_ id m u b c z s me o a l _ H02.out).mono ?_; rintro e wb ⟨rfl, hb2⟩; have hcc := (hb2.cell (p := ⟨w.heap.size, 4, none⟩) (by simp; omega)).trans hw4)
 all_goals (have hroom := H40.out; go_wp2; go_ret; exact ⟨rfl, HB.out.drew.trans (hb2.mono (by simp; omega))⟩)
theorem rchk_02 (id m u b c z s me o a l : Int) (w : World) (h00 : 0 <= id) (h01 : id <= 1099511627776) (h02 : jZ_ m u b c z s me o a l = false) :
  Calls Try.prog 13 #[.agg #[.int .i64 id, .int .i64 m, .int .i64 u, .int .i64 b, .int .i64 c, .int .i64 z, .int .i64 s, .int .i64 me, .int .i64 o, .int .i64 a, .int .i64 l]] w fun e w' => e = .returned (.int .i64 1) /\ Below w.heap.size w w' := by
 have H02 := hid h02; clear h02
 go_enter Try.func13, Try.ntmps13
 go_wp2_with fail
 refine (kc_ id m u b c z s me o a l _).mono ?_
 rintro e w1 ⟨rfl, hb⟩
 rw [H02.out]
 have hz := hb.size
 simp at hz
 have hw0 : w1.cell? ⟨w.heap.size, 0, none⟩ = some (.int .i64 id) := (hb.cell (p := ⟨w.heap.size, 0, none⟩) (by simp)).trans (by simp [go_sem])
 have hw1 : w1.cell? ⟨w.heap.size, 1, none⟩ = some (.int .i64 m) := (hb.cell (p := ⟨w.heap.size, 1, none⟩) (by simp)).trans (by simp [go_sem])
 have hw2 : w1.cell? ⟨w.heap.size, 2, none⟩ = some (.int .i64 u) := (hb.cell (p := ⟨w.heap.size, 2, none⟩) (by simp)).trans (by simp [go_sem])
 have hw3 : w1.cell? ⟨w.heap.size, 3, none⟩ = some (.int .i64 b) := (hb.cell (p := ⟨w.heap.size, 3, none⟩) (by simp)).trans (by simp [go_sem])
 have hw4 : w1.cell? ⟨w.heap.size, 4, none⟩ = some (.int .i64 c) := (hb.cell (p := ⟨w.heap.size, 4, none⟩) (by simp)).trans (by simp [go_sem])
 have hw5 : w1.cell? ⟨w.heap.size, 5, none⟩ = some (.int .i64 z) := (hb.cell (p := ⟨w.heap.size, 5, none⟩) (by simp)).trans (by simp [go_sem])
 have hw6 : w1.cell? ⟨w.heap.size, 6, none⟩ = some (.int .i64 s) := (hb.cell (p := ⟨w.heap.size, 6, none⟩) (by simp)).trans (by simp [go_sem])
 have hw7 : w1.cell? ⟨w.heap.size, 7, none⟩ = some (.int .i64 me) := (hb.cell (p := ⟨w.heap.size, 7, none⟩) (by simp)).trans (by simp [go_sem])
 have hw8 : w1.cell? ⟨w.heap.size, 8, none⟩ = some (.int .i64 o) := (hb.cell (p := ⟨w.heap.size, 8, none⟩) (by simp)).trans (by simp [go_sem])
 have hw9 : w1.cell? ⟨w.heap.size, 9, none⟩ = some (.int .i64 a) := (hb.cell (p := ⟨w.heap.size, 9, none⟩) (by simp)).trans (by simp [go_sem])
 have hw10 : w1.cell? ⟨w.heap.size, 10, none⟩ = some (.int .i64 l) := (hb.cell (p := ⟨w.heap.size, 10, none⟩) (by simp)).trans (by simp [go_sem])
 have hB : Below w.heap.size w w1 := ((Below.refl _ w).alloc (Nat.le_refl _) _).trans (hb.mono (by simp))
 have HB := hid hB; clear hB hb
 go_wp2
 go_ret
 exact ⟨rfl, HB.out⟩
theorem rchk_12 (id m u b c z s me o a l : Int) (w : World) (h00 : 0 <= id) (h01 : id <= 1099511627776) (h02 : jZ_ m u b c z s me o a l = true) (h10 : 3 <= m) (h11 : m <= 16) (h12 : u > 64) :
  Calls Try.prog 13 #[.agg #[.int .i64 id, .int .i64 m, .int .i64 u, .int .i64 b, .int .i64 c, .int .i64 z, .int .i64 s, .int .i64 me, .int .i64 o, .int .i64 a, .int .i64 l]] w fun e w' => e = .returned (.int .i64 1) /\ Below w.heap.size w w' := by
 obtain ⟨⟨_, _⟩, ⟨_, _⟩, ⟨_, _⟩, ⟨_, _⟩, ⟨_, _⟩, ⟨_, _⟩, ⟨_, _⟩, ⟨_, _⟩, ⟨_, _⟩, ⟨_, _⟩⟩ := jY_ h02
 have H02 := hid h02; clear h02
 go_enter Try.func13, Try.ntmps13
 go_wp2_with fail
 refine (kc_ id m u b c z s me o a l _).mono ?_
 rintro e w1 ⟨rfl, hb⟩
 rw [H02.out]
 have hz := hb.size
 simp at hz
 have hw0 : w1.cell? ⟨w.heap.size, 0, none⟩ = some (.int .i64 id) := (hb.cell (p := ⟨w.heap.size, 0, none⟩) (by simp)).trans (by simp [go_sem])
 have hw1 : w1.cell? ⟨w.heap.size, 1, none⟩ = some (.int .i64 m) := (hb.cell (p := ⟨w.heap.size, 1, none⟩) (by simp)).trans (by simp [go_sem])
 have hw2 : w1.cell? ⟨w.heap.size, 2, none⟩ = some (.int .i64 u) := (hb.cell (p := ⟨w.heap.size, 2, none⟩) (by simp)).trans (by simp [go_sem])
 have hw3 : w1.cell? ⟨w.heap.size, 3, none⟩ = some (.int .i64 b) := (hb.cell (p := ⟨w.heap.size, 3, none⟩) (by simp)).trans (by simp [go_sem])
 have hw4 : w1.cell? ⟨w.heap.size, 4, none⟩ = some (.int .i64 c) := (hb.cell (p := ⟨w.heap.size, 4, none⟩) (by simp)).trans (by simp [go_sem])
 have hw5 : w1.cell? ⟨w.heap.size, 5, none⟩ = some (.int .i64 z) := (hb.cell (p := ⟨w.heap.size, 5, none⟩) (by simp)).trans (by simp [go_sem])
 have hw6 : w1.cell? ⟨w.heap.size, 6, none⟩ = some (.int .i64 s) := (hb.cell (p := ⟨w.heap.size, 6, none⟩) (by simp)).trans (by simp [go_sem])
 have hw7 : w1.cell? ⟨w.heap.size, 7, none⟩ = some (.int .i64 me) := (hb.cell (p := ⟨w.heap.size, 7, none⟩) (by simp)).trans (by simp [go_sem])
 have hw8 : w1.cell? ⟨w.heap.size, 8, none⟩ = some (.int .i64 o) := (hb.cell (p := ⟨w.heap.size, 8, none⟩) (by simp)).trans (by simp [go_sem])
 have hw9 : w1.cell? ⟨w.heap.size, 9, none⟩ = some (.int .i64 a) := (hb.cell (p := ⟨w.heap.size, 9, none⟩) (by simp)).trans (by simp [go_sem])
 have hw10 : w1.cell? ⟨w.heap.size, 10, none⟩ = some (.int .i64 l) := (hb.cell (p := ⟨w.heap.size, 10, none⟩) (by simp)).trans (by simp [go_sem])
 have hB : Below w.heap.size w w1 := ((Below.refl _ w).alloc (Nat.le_refl _) _).trans (hb.mono (by simp))
 have HB := hid hB; clear hB hb
 go_wp2
 go_ret
 exact ⟨rfl, HB.out⟩
theorem rchk_15 (id m u b c z s me o a l : Int) (w : World) (h00 : 0 <= id) (h01 : id <= 1099511627776) (h02 : jZ_ m u b c z s me o a l = true) (h10 : 3 <= m) (h11 : m <= 16) (h12 : u <= 64) (h13 : b <= 4096) (h14 : c <= 4096) (h15 : c % u > 0) :
  Calls Try.prog 13 #[.agg #[.int .i64 id, .int .i64 m, .int .i64 u, .int .i64 b, .int .i64 c, .int .i64 z, .int .i64 s, .int .i64 me, .int .i64 o, .int .i64 a, .int .i64 l]] w fun e w' => e = .returned (.int .i64 1) /\ Below w.heap.size w w' := by
 obtain ⟨⟨_, _⟩, ⟨_, _⟩, ⟨_, _⟩, ⟨_, _⟩, ⟨_, _⟩, ⟨_, _⟩, ⟨_, _⟩, ⟨_, _⟩, ⟨_, _⟩, ⟨_, _⟩⟩ := jY_ h02
 have H02 := hid h02; clear h02
 go_enter Try.func13, Try.ntmps13
 go_wp2_with fail
 refine (kc_ id m u b c z s me o a l _).mono ?_
 rintro e w1 ⟨rfl, hb⟩
 rw [H02.out]
 have hz := hb.size
 simp at hz
 have hw0 : w1.cell? ⟨w.heap.size, 0, none⟩ = some (.int .i64 id) := (hb.cell (p := ⟨w.heap.size, 0, none⟩) (by simp)).trans (by simp [go_sem])
 have hw1 : w1.cell? ⟨w.heap.size, 1, none⟩ = some (.int .i64 m) := (hb.cell (p := ⟨w.heap.size, 1, none⟩) (by simp)).trans (by simp [go_sem])
 have hw2 : w1.cell? ⟨w.heap.size, 2, none⟩ = some (.int .i64 u) := (hb.cell (p := ⟨w.heap.size, 2, none⟩) (by simp)).trans (by simp [go_sem])
 have hw3 : w1.cell? ⟨w.heap.size, 3, none⟩ = some (.int .i64 b) := (hb.cell (p := ⟨w.heap.size, 3, none⟩) (by simp)).trans (by simp [go_sem])
 have hw4 : w1.cell? ⟨w.heap.size, 4, none⟩ = some (.int .i64 c) := (hb.cell (p := ⟨w.heap.size, 4, none⟩) (by simp)).trans (by simp [go_sem])
 have hw5 : w1.cell? ⟨w.heap.size, 5, none⟩ = some (.int .i64 z) := (hb.cell (p := ⟨w.heap.size, 5, none⟩) (by simp)).trans (by simp [go_sem])
 have hw6 : w1.cell? ⟨w.heap.size, 6, none⟩ = some (.int .i64 s) := (hb.cell (p := ⟨w.heap.size, 6, none⟩) (by simp)).trans (by simp [go_sem])
 have hw7 : w1.cell? ⟨w.heap.size, 7, none⟩ = some (.int .i64 me) := (hb.cell (p := ⟨w.heap.size, 7, none⟩) (by simp)).trans (by simp [go_sem])
 have hw8 : w1.cell? ⟨w.heap.size, 8, none⟩ = some (.int .i64 o) := (hb.cell (p := ⟨w.heap.size, 8, none⟩) (by simp)).trans (by simp [go_sem])
 have hw9 : w1.cell? ⟨w.heap.size, 9, none⟩ = some (.int .i64 a) := (hb.cell (p := ⟨w.heap.size, 9, none⟩) (by simp)).trans (by simp [go_sem])
 have hw10 : w1.cell? ⟨w.heap.size, 10, none⟩ = some (.int .i64 l) := (hb.cell (p := ⟨w.heap.size, 10, none⟩) (by simp)).trans (by simp [go_sem])
 have hB : Below w.heap.size w w1 := ((Below.refl _ w).alloc (Nat.le_refl _) _).trans (hb.mono (by simp))
 have HB := hid hB; clear hB hb
 go_wp2
 go_ret
 exact ⟨rfl, HB.out⟩
theorem rchk_22 (id m u b c z s me o a l : Int) (w : World) (h00 : 0 <= id) (h01 : id <= 1099511627776) (h02 : jZ_ m u b c z s me o a l = true) (h10 : 3 <= m) (h11 : m <= 16) (h12 : u <= 64) (h13 : b <= 4096) (h14 : c <= 4096) (h15 : c % u <= 0) (h20 : 3 <= me) (h21 : me + z + s <= 64) (h22 : o > a) :
  Calls Try.prog 13 #[.agg #[.int .i64 id, .int .i64 m, .int .i64 u, .int .i64 b, .int .i64 c, .int .i64 z, .int .i64 s, .int .i64 me, .int .i64 o, .int .i64 a, .int .i64 l]] w fun e w' => e = .returned (.int .i64 1) /\ Below w.heap.size w w' := by
 obtain ⟨⟨_, _⟩, ⟨_, _⟩, ⟨_, _⟩, ⟨_, _⟩, ⟨_, _⟩, ⟨_, _⟩, ⟨_, _⟩, ⟨_, _⟩, ⟨_, _⟩, ⟨_, _⟩⟩ := jY_ h02
 have H02 := hid h02; clear h02
 go_enter Try.func13, Try.ntmps13
 go_wp2_with fail
 refine (kc_ id m u b c z s me o a l _).mono ?_
 rintro e w1 ⟨rfl, hb⟩
 rw [H02.out]
 have hz := hb.size
 simp at hz
 have hw0 : w1.cell? ⟨w.heap.size, 0, none⟩ = some (.int .i64 id) := (hb.cell (p := ⟨w.heap.size, 0, none⟩) (by simp)).trans (by simp [go_sem])
 have hw1 : w1.cell? ⟨w.heap.size, 1, none⟩ = some (.int .i64 m) := (hb.cell (p := ⟨w.heap.size, 1, none⟩) (by simp)).trans (by simp [go_sem])
 have hw2 : w1.cell? ⟨w.heap.size, 2, none⟩ = some (.int .i64 u) := (hb.cell (p := ⟨w.heap.size, 2, none⟩) (by simp)).trans (by simp [go_sem])
 have hw3 : w1.cell? ⟨w.heap.size, 3, none⟩ = some (.int .i64 b) := (hb.cell (p := ⟨w.heap.size, 3, none⟩) (by simp)).trans (by simp [go_sem])
 have hw4 : w1.cell? ⟨w.heap.size, 4, none⟩ = some (.int .i64 c) := (hb.cell (p := ⟨w.heap.size, 4, none⟩) (by simp)).trans (by simp [go_sem])
 have hw5 : w1.cell? ⟨w.heap.size, 5, none⟩ = some (.int .i64 z) := (hb.cell (p := ⟨w.heap.size, 5, none⟩) (by simp)).trans (by simp [go_sem])
 have hw6 : w1.cell? ⟨w.heap.size, 6, none⟩ = some (.int .i64 s) := (hb.cell (p := ⟨w.heap.size, 6, none⟩) (by simp)).trans (by simp [go_sem])
 have hw7 : w1.cell? ⟨w.heap.size, 7, none⟩ = some (.int .i64 me) := (hb.cell (p := ⟨w.heap.size, 7, none⟩) (by simp)).trans (by simp [go_sem])
 have hw8 : w1.cell? ⟨w.heap.size, 8, none⟩ = some (.int .i64 o) := (hb.cell (p := ⟨w.heap.size, 8, none⟩) (by simp)).trans (by simp [go_sem])
 have hw9 : w1.cell? ⟨w.heap.size, 9, none⟩ = some (.int .i64 a) := (hb.cell (p := ⟨w.heap.size, 9, none⟩) (by simp)).trans (by simp [go_sem])
 have hw10 : w1.cell? ⟨w.heap.size, 10, none⟩ = some (.int .i64 l) := (hb.cell (p := ⟨w.heap.size, 10, none⟩) (by simp)).trans (by simp [go_sem])
 have hB : Below w.heap.size w w1 := ((Below.refl _ w).alloc (Nat.le_refl _) _).trans (hb.mono (by simp))
 have HB := hid hB; clear hB hb
 go_wp2
 go_ret
 exact ⟨rfl, HB.out⟩
theorem rchk_31 (id m u b c z s me o a l : Int) (w : World) (h00 : 0 <= id) (h01 : id <= 1099511627776) (h02 : jZ_ m u b c z s me o a l = true) (h10 : 3 <= m) (h11 : m <= 16) (h12 : u <= 64) (h13 : b <= 4096) (h14 : c <= 4096) (h15 : c % u <= 0) (h20 : 3 <= me) (h21 : me + z + s <= 64) (h22 : o <= a) (h23 : a <= z) (h30 : a + s + me <= l) (h31 : l > 64) :
  Calls Try.prog 13 #[.agg #[.int .i64 id, .int .i64 m, .int .i64 u, .int .i64 b, .int .i64 c, .int .i64 z, .int .i64 s, .int .i64 me, .int .i64 o, .int .i64 a, .int .i64 l]] w fun e w' => e = .returned (.int .i64 1) /\ Below w.heap.size w w' := by
 obtain ⟨⟨_, _⟩, ⟨_, _⟩, ⟨_, _⟩, ⟨_, _⟩, ⟨_, _⟩, ⟨_, _⟩, ⟨_, _⟩, ⟨_, _⟩, ⟨_, _⟩, ⟨_, _⟩⟩ := jY_ h02
 have H02 := hid h02; clear h02
 go_enter Try.func13, Try.ntmps13
 go_wp2_with fail
 refine (kc_ id m u b c z s me o a l _).mono ?_
 rintro e w1 ⟨rfl, hb⟩
 rw [H02.out]
 have hz := hb.size
 simp at hz
 have hw0 : w1.cell? ⟨w.heap.size, 0, none⟩ = some (.int .i64 id) := (hb.cell (p := ⟨w.heap.size, 0, none⟩) (by simp)).trans (by simp [go_sem])
 have hw1 : w1.cell? ⟨w.heap.size, 1, none⟩ = some (.int .i64 m) := (hb.cell (p := ⟨w.heap.size, 1, none⟩) (by simp)).trans (by simp [go_sem])
 have hw2 : w1.cell? ⟨w.heap.size, 2, none⟩ = some (.int .i64 u) := (hb.cell (p := ⟨w.heap.size, 2, none⟩) (by simp)).trans (by simp [go_sem])
 have hw3 : w1.cell? ⟨w.heap.size, 3, none⟩ = some (.int .i64 b) := (hb.cell (p := ⟨w.heap.size, 3, none⟩) (by simp)).trans (by simp [go_sem])
 have hw4 : w1.cell? ⟨w.heap.size, 4, none⟩ = some (.int .i64 c) := (hb.cell (p := ⟨w.heap.size, 4, none⟩) (by simp)).trans (by simp [go_sem])
 have hw5 : w1.cell? ⟨w.heap.size, 5, none⟩ = some (.int .i64 z) := (hb.cell (p := ⟨w.heap.size, 5, none⟩) (by simp)).trans (by simp [go_sem])
 have hw6 : w1.cell? ⟨w.heap.size, 6, none⟩ = some (.int .i64 s) := (hb.cell (p := ⟨w.heap.size, 6, none⟩) (by simp)).trans (by simp [go_sem])
 have hw7 : w1.cell? ⟨w.heap.size, 7, none⟩ = some (.int .i64 me) := (hb.cell (p := ⟨w.heap.size, 7, none⟩) (by simp)).trans (by simp [go_sem])
 have hw8 : w1.cell? ⟨w.heap.size, 8, none⟩ = some (.int .i64 o) := (hb.cell (p := ⟨w.heap.size, 8, none⟩) (by simp)).trans (by simp [go_sem])
 have hw9 : w1.cell? ⟨w.heap.size, 9, none⟩ = some (.int .i64 a) := (hb.cell (p := ⟨w.heap.size, 9, none⟩) (by simp)).trans (by simp [go_sem])
 have hw10 : w1.cell? ⟨w.heap.size, 10, none⟩ = some (.int .i64 l) := (hb.cell (p := ⟨w.heap.size, 10, none⟩) (by simp)).trans (by simp [go_sem])
 have hB : Below w.heap.size w w1 := ((Below.refl _ w).alloc (Nat.le_refl _) _).trans (hb.mono (by simp))
 have HB := hid hB; clear hB hb
 go_wp2
 go_ret
 exact ⟨rfl, HB.out⟩
theorem rcheck_any (id m u b c z s me o a l : Int) (w : World) :
  Calls Try.prog 13 #[.agg #[.int .i64 id, .int .i64 m, .int .i64 u, .int .i64 b, .int .i64 c, .int .i64 z, .int .i64 s, .int .i64 me, .int .i64 o, .int .i64 a, .int .i64 l]] w fun e w' => e = .returned (.int .i64 (jn_ id m u b c z s me o a l)) /\ Below w.heap.size w w' := by
 by_cases h00 : id < 0
 ·
  skip
  exact (rchk_00 id m u b c z s me o a l w h00).mono (by rintro e w1 ⟨rfl, hb⟩; exact ⟨jQ_ (Eq.symm (by exact kr_ (fun hk => by have := kB_ hk; omega))), hb⟩)
 ·
  have h00 : 0 <= id := by omega
  by_cases h01 : id > 1099511627776
  ·
   skip
   exact (rchk_01 id m u b c z s me o a l w h00 h01).mono (by rintro e w1 ⟨rfl, hb⟩; exact ⟨jQ_ (Eq.symm (by exact kr_ (fun hk => by have := kB_ hk; omega))), hb⟩)
  ·
   have h01 : id <= 1099511627776 := by omega
   cases h02 : jZ_ m u b c z s me o a l with
   | false =>
    exact (rchk_02 id m u b c z s me o a l w h00 h01 h02).mono (by rintro e w1 ⟨rfl, hb⟩; exact ⟨jQ_ (Eq.symm (by exact checkC_insane h02)), hb⟩)
   | true =>
    by_cases h10 : m < 3
    ·
     skip
     exact (rchk_10 id m u b c z s me o a l w h00 h01 h02 h10).mono (by rintro e w1 ⟨rfl, hb⟩; exact ⟨jQ_ (Eq.symm (by exact kr_ (fun hk => by have := kB_ hk; omega))), hb⟩)
    ·
     have h10 : 3 <= m := by omega
     by_cases h11 : m > 16
     ·
      skip
      exact (rchk_11 id m u b c z s me o a l w h00 h01 h02 h10 h11).mono (by rintro e w1 ⟨rfl, hb⟩; exact ⟨jQ_ (Eq.symm (by exact kr_ (fun hk => by have := kB_ hk; omega))), hb⟩)
     ·
      have h11 : m <= 16 := by omega
      by_cases h12 : u > 64
      ·
       skip
       exact (rchk_12 id m u b c z s me o a l w h00 h01 h02 h10 h11 h12).mono (by rintro e w1 ⟨rfl, hb⟩; exact ⟨jQ_ (Eq.symm (by exact kr_ (fun hk => by have := kB_ hk; omega))), hb⟩)
      ·
       have h12 : u <= 64 := by omega
       by_cases h13 : b > 4096
       ·
        skip
        exact (rchk_13 id m u b c z s me o a l w h00 h01 h02 h10 h11 h12 h13).mono (by rintro e w1 ⟨rfl, hb⟩; exact ⟨jQ_ (Eq.symm (by exact kr_ (fun hk => by have := kB_ hk; omega))), hb⟩)
       ·
        have h13 : b <= 4096 := by omega
        by_cases h14 : c > 4096
        ·
         skip
         exact (rchk_14 id m u b c z s me o a l w h00 h01 h02 h10 h11 h12 h13 h14).mono (by rintro e w1 ⟨rfl, hb⟩; exact ⟨jQ_ (Eq.symm (by exact kr_ (fun hk => by have := kB_ hk; omega))), hb⟩)
        ·
         have h14 : c <= 4096 := by omega
         by_cases h15 : c % u > 0
         ·
          skip
          exact (rchk_15 id m u b c z s me o a l w h00 h01 h02 h10 h11 h12 h13 h14 h15).mono (by rintro e w1 ⟨rfl, hb⟩; exact ⟨jQ_ (Eq.symm (by exact kr_ (fun hk => by have := kB_ hk; omega))), hb⟩)
         ·
          have h15 : c % u <= 0 := by omega
          by_cases h20 : me < 3
          ·
           skip
           exact (rchk_20 id m u b c z s me o a l w h00 h01 h02 h10 h11 h12 h13 h14 h15 h20).mono (by rintro e w1 ⟨rfl, hb⟩; exact ⟨jQ_ (Eq.symm (by exact kr_ (fun hk => by have := kB_ hk; omega))), hb⟩)
          ·
           have h20 : 3 <= me := by omega
           by_cases h21 : me + z + s > 64
           ·
            skip
            exact (rchk_21 id m u b c z s me o a l w h00 h01 h02 h10 h11 h12 h13 h14 h15 h20 h21).mono (by rintro e w1 ⟨rfl, hb⟩; exact ⟨jQ_ (Eq.symm (by exact kr_ (fun hk => by have := kB_ hk; omega))), hb⟩)
           ·
            have h21 : me + z + s <= 64 := by omega
            by_cases h22 : o > a
            ·
             skip
             exact (rchk_22 id m u b c z s me o a l w h00 h01 h02 h10 h11 h12 h13 h14 h15 h20 h21 h22).mono (by rintro e w1 ⟨rfl, hb⟩; exact ⟨jQ_ (Eq.symm (by exact kr_ (fun hk => by have := kB_ hk; omega))), hb⟩)
            ·
             have h22 : o <= a := by omega
             by_cases h23 : a > z
             ·
              skip
              exact (rchk_23 id m u b c z s me o a l w h00 h01 h02 h10 h11 h12 h13 h14 h15 h20 h21 h22 h23).mono (by rintro e w1 ⟨rfl, hb⟩; exact ⟨jQ_ (Eq.symm (by exact kr_ (fun hk => by have := kB_ hk; omega))), hb⟩)
             ·
              have h23 : a <= z := by omega
              by_cases h30 : l < a + s + me
              ·
               skip
               exact (rchk_30 id m u b c z s me o a l w h00 h01 h02 h10 h11 h12 h13 h14 h15 h20 h21 h22 h23 h30).mono (by rintro e w1 ⟨rfl, hb⟩; exact ⟨jQ_ (Eq.symm (by exact kr_ (fun hk => by have := kB_ hk; omega))), hb⟩)
              ·
               have h30 : a + s + me <= l := by omega
               by_cases h31 : l > 64
               ·
                skip
                exact (rchk_31 id m u b c z s me o a l w h00 h01 h02 h10 h11 h12 h13 h14 h15 h20 h21 h22 h23 h30 h31).mono (by rintro e w1 ⟨rfl, hb⟩; exact ⟨jQ_ (Eq.symm (by exact kr_ (fun hk => by have := kB_ hk; omega))), hb⟩)
               ·
                have h31 : l <= 64 := by omega
                have hr := rroom_eq (m := m) (z := z) (u := u) (b := b) (by have := jY_ h02; omega)
                have hk : okC id m u b c z s me o a l = true := okC_mk (by have := jY_ h02; have := Int.emod_nonneg c (show u ≠ 0 by omega); omega)
                have hq : yt_ m u b c z s me o a l = zl_ m u b z := by rw [yt_, if_pos h02, hr]
                by_cases h40 : zl_ m u b z > c
                ·
                 skip
                 exact (rchk_41 id m u b c z s me o a l w h00 h01 h02 h10 h11 h12 h13 h14 h15 h20 h21 h22 h23 h30 h31 h40).mono (by rintro e w1 ⟨rfl, hb⟩; exact ⟨jQ_ (Eq.symm (by rw [jn_, if_pos hk, hq, if_pos h40])), hb⟩)
                ·
                 have h40 : zl_ m u b z <= c := by omega
                 exact (rchk_40 id m u b c z s me o a l w h00 h01 h02 h10 h11 h12 h13 h14 h15 h20 h21 h22 h23 h30 h31 h40).mono (by rintro e w1 ⟨rfl, hb⟩; exact ⟨jQ_ (Eq.symm (by rw [jn_, if_pos hk, hq, if_neg (by omega)])), hb⟩)
end Go.Proofs.Ytgckcaoncjhgbaa
