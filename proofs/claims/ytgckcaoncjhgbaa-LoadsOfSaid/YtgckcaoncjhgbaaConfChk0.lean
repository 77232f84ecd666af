/- What Check of package conf answers, way by way. Conditions: the tests of the way. -/
import Derived.Test.YtgckcaoncjhgbaaFCf
set_option maxHeartbeats 2000000
set_option maxRecDepth 100000
open Go.Lib (hid)
namespace Go.Proofs.Ytgckcaoncjhgbaa
open Go.RowKit
set_option linter.unusedVariables false
set_option linter.unusedSimpArgs false
theorem chk_00 (id m u b c z s me o a l : Int) (w : World) (h_id : inB id 0 1099511627776 = false) :
  Calls Try.prog 52 #[.agg #[.int .i64 id, .int .i64 m, .int .i64 u, .int .i64 b, .int .i64 c, .int .i64 z, .int .i64 s, .int .i64 me, .int .i64 o, .int .i64 a, .int .i64 l]] w fun e w' => e = .returned (.int .i64 1) /\ Below w.heap.size w w' := by
 have H_id := hid h_id; clear h_id
 go_enter Try.func52, Try.ntmps52
 go_wp2_with fail
 refine (jm_ _ _ _ _).mono ?_
 rintro e w1 ⟨rfl, rfl⟩
 rw [H_id.out]
 go_wp2
 go_ret
 exact ⟨rfl, (Below.refl _ w).alloc (Nat.le_refl _) _⟩
theorem chk_11 (id m u b c z s me o a l : Int) (w : World) (h_id : inB id 0 1099511627776 = true) (h_m : inB m 3 16 = true) (h_u : inB u 1 64 = true) (h_b : inB b 1 4096 = true) (h_c : inB c 1 4096 = false) :
  Calls Try.prog 52 #[.agg #[.int .i64 id, .int .i64 m, .int .i64 u, .int .i64 b, .int .i64 c, .int .i64 z, .int .i64 s, .int .i64 me, .int .i64 o, .int .i64 a, .int .i64 l]] w fun e w' => e = .returned (.int .i64 1) /\ Below w.heap.size w w' := by
 have b_id := jo_ h_id
 have b_m := jo_ h_m
 have b_u := jo_ h_u
 have b_b := jo_ h_b
 have H_id := hid h_id; clear h_id
 have H_m := hid h_m; clear h_m
 have H_u := hid h_u; clear h_u
 have H_b := hid h_b; clear h_b
 have H_c := hid h_c; clear h_c
 go_enter Try.func52, Try.ntmps52
 go_wp2_with fail
 refine (jm_ _ _ _ _).mono ?_
 rintro e w1 ⟨rfl, rfl⟩
 rw [H_id.out]
 go_wp2_with fail
 refine (jm_ _ _ _ _).mono ?_
 rintro e w1 ⟨rfl, rfl⟩
 rw [H_m.out]
 go_wp2_with fail
 refine (jm_ _ _ _ _).mono ?_
 rintro e w1 ⟨rfl, rfl⟩
 rw [H_u.out]
 go_wp2_with fail
 refine (jm_ _ _ _ _).mono ?_
 rintro e w1 ⟨rfl, rfl⟩
 rw [H_b.out]
 go_wp2_with fail
 refine (jm_ _ _ _ _).mono ?_
 rintro e w1 ⟨rfl, rfl⟩
 rw [H_c.out]
 go_wp2
 go_ret
 exact ⟨rfl, (Below.refl _ w).alloc (Nat.le_refl _) _⟩
theorem chk_22 (id m u b c z s me o a l : Int) (w : World) (h_id : inB id 0 1099511627776 = true) (h_m : inB m 3 16 = true) (h_u : inB u 1 64 = true) (h_b : inB b 1 4096 = true) (h_c : inB c 1 4096 = true) (h_rem : (c % u != 0) = false) (h_z : inB z 1 64 = true) (h_s : inB s 1 64 = true) (h_me : inB me 3 64 = false) :
  Calls Try.prog 52 #[.agg #[.int .i64 id, .int .i64 m, .int .i64 u, .int .i64 b, .int .i64 c, .int .i64 z, .int .i64 s, .int .i64 me, .int .i64 o, .int .i64 a, .int .i64 l]] w fun e w' => e = .returned (.int .i64 1) /\ Below w.heap.size w w' := by
 have b_id := jo_ h_id
 have b_m := jo_ h_m
 have b_u := jo_ h_u
 have b_b := jo_ h_b
 have b_c := jo_ h_c
 have b_z := jo_ h_z
 have b_s := jo_ h_s
 have H_id := hid h_id; clear h_id
 have H_m := hid h_m; clear h_m
 have H_u := hid h_u; clear h_u
 have H_b := hid h_b; clear h_b
 have H_c := hid h_c; clear h_c
 have H_z := hid h_z; clear h_z
 have H_s := hid h_s; clear h_s
 have H_me := hid h_me; clear h_me
 go_enter Try.func52, Try.ntmps52
 go_wp2_with fail
 refine (jm_ _ _ _ _).mono ?_
 rintro e w1 ⟨rfl, rfl⟩
 rw [H_id.out]
 go_wp2_with fail
 refine (jm_ _ _ _ _).mono ?_
 rintro e w1 ⟨rfl, rfl⟩
 rw [H_m.out]
 go_wp2_with fail
 refine (jm_ _ _ _ _).mono ?_
 rintro e w1 ⟨rfl, rfl⟩
 rw [H_u.out]
 go_wp2_with fail
 refine (jm_ _ _ _ _).mono ?_
 rintro e w1 ⟨rfl, rfl⟩
 rw [H_b.out]
 go_wp2_with fail
 refine (jm_ _ _ _ _).mono ?_
 rintro e w1 ⟨rfl, rfl⟩
 rw [H_c.out]
 go_wp2_with fail
 refine (jm_ _ _ _ _).mono ?_
 rintro e w1 ⟨rfl, rfl⟩
 rw [H_z.out]
 go_wp2_with fail
 refine (jm_ _ _ _ _).mono ?_
 rintro e w1 ⟨rfl, rfl⟩
 rw [H_s.out]
 go_wp2_with fail
 refine (jm_ _ _ _ _).mono ?_
 rintro e w1 ⟨rfl, rfl⟩
 rw [H_me.out]
 go_wp2
 go_ret
 exact ⟨rfl, (Below.refl _ w).alloc (Nat.le_refl _) _⟩
theorem chk_s31 (id m u b c z s me o a l : Int) (w : World) (h_id : inB id 0 1099511627776 = true) (h_m : inB m 3 16 = true) (h_u : inB u 1 64 = true) (h_b : inB b 1 4096 = true) (h_c : inB c 1 4096 = true) (h_rem : (c % u != 0) = false) (h_z : inB z 1 64 = true) (h_s : inB s 1 64 = true) (h_me : inB me 3 64 = true) (hs : jZ_ m u b c z s me o a l = true) (h_all : me + z + s <= 64) (h_a : inB a 1 z = true) (h_o : inB o 1 a = false) :
  Calls Try.prog 52 #[.agg #[.int .i64 id, .int .i64 m, .int .i64 u, .int .i64 b, .int .i64 c, .int .i64 z, .int .i64 s, .int .i64 me, .int .i64 o, .int .i64 a, .int .i64 l]] w fun e w' => e = .returned (.int .i64 1) /\ Below w.heap.size w w' := by
 have b_id := jo_ h_id
 have b_m := jo_ h_m
 have b_u := jo_ h_u
 have b_b := jo_ h_b
 have b_c := jo_ h_c
 have b_z := jo_ h_z
 have b_s := jo_ h_s
 have b_me := jo_ h_me
 have b_a := jo_ h_a
 have H_id := hid h_id; clear h_id
 have H_m := hid h_m; clear h_m
 have H_u := hid h_u; clear h_u
 have H_b := hid h_b; clear h_b
 have H_c := hid h_c; clear h_c
 have H_z := hid h_z; clear h_z
 have H_s := hid h_s; clear h_s
 have H_me := hid h_me; clear h_me
 have Hall := hid (show allC m u b c z s me o a l = me + z + s by rw [allC, if_pos hs])
 clear hs
 have H_a := hid h_a; clear h_a
 have H_o := hid h_o; clear h_o
 go_enter Try.func52, Try.ntmps52
 go_wp2_with fail
 refine (jm_ _ _ _ _).mono ?_
 rintro e w1 ⟨rfl, rfl⟩
 rw [H_id.out]
 go_wp2_with fail
 refine (jm_ _ _ _ _).mono ?_
 rintro e w1 ⟨rfl, rfl⟩
 rw [H_m.out]
 go_wp2_with fail
 refine (jm_ _ _ _ _).mono ?_
 rintro e w1 ⟨rfl, rfl⟩
 rw [H_u.out]
 go_wp2_with fail
 refine (jm_ _ _ _ _).mono ?_
 rintro e w1 ⟨rfl, rfl⟩
 rw [H_b.out]
 go_wp2_with fail
 refine (jm_ _ _ _ _).mono ?_
 rintro e w1 ⟨rfl, rfl⟩
 rw [H_c.out]
 go_wp2_with fail
 refine (jm_ _ _ _ _).mono ?_
 rintro e w1 ⟨rfl, rfl⟩
 rw [H_z.out]
 go_wp2_with fail
 refine (jm_ _ _ _ _).mono ?_
 rintro e w1 ⟨rfl, rfl⟩
 rw [H_s.out]
 go_wp2_with fail
 refine (jm_ _ _ _ _).mono ?_
 rintro e w1 ⟨rfl, rfl⟩
 rw [H_me.out]
 go_wp2_with fail
 refine (xG_ id m u b c z s me o a l _).mono ?_
 rintro e wa ⟨rfl, hb⟩
 rw [Hall.out]
 obtain ⟨hbc, hbf⟩ := xF_ hb
 go_wp2_with fail
 refine (jm_ _ _ _ _).mono ?_
 rintro e w1 ⟨rfl, rfl⟩
 rw [H_a.out]
 go_wp2_with fail
 refine (jm_ _ _ _ _).mono ?_
 rintro e w1 ⟨rfl, rfl⟩
 rw [H_o.out]
 go_wp2
 go_ret
 exact ⟨rfl, ((Below.refl _ w).alloc (Nat.le_refl _) _).trans (hb.mono (by simp))⟩
theorem chk_room1 (id m u b c z s me o a l : Int) (w : World) (h_id : inB id 0 1099511627776 = true) (h_m : inB m 3 16 = true) (h_u : inB u 1 64 = true) (h_b : inB b 1 4096 = true) (h_c : inB c 1 4096 = true) (h_rem : (c % u != 0) = false) (h_z : inB z 1 64 = true) (h_s : inB s 1 64 = true) (h_me : inB me 3 64 = true) (hs : jZ_ m u b c z s me o a l = true) (h_all : me + z + s <= 64) (h_a : inB a 1 z = true) (h_o : inB o 1 a = true) (h_l : inB l (a + s + me) 64 = true) (h_room : yt_ m u b c z s me o a l > c) :
  Calls Try.prog 52 #[.agg #[.int .i64 id, .int .i64 m, .int .i64 u, .int .i64 b, .int .i64 c, .int .i64 z, .int .i64 s, .int .i64 me, .int .i64 o, .int .i64 a, .int .i64 l]] w fun e w' => e = .returned (.int .i64 17) /\ Below w.heap.size w w' := by
 have b_id := jo_ h_id
 have b_m := jo_ h_m
 have b_u := jo_ h_u
 have b_b := jo_ h_b
 have b_c := jo_ h_c
 have b_z := jo_ h_z
 have b_s := jo_ h_s
 have b_me := jo_ h_me
 have b_a := jo_ h_a
 have b_o := jo_ h_o
 have b_l := jo_ h_l
 have H_room := hid h_room; clear h_room
 have H_id := hid h_id; clear h_id
 have H_m := hid h_m; clear h_m
 have H_u := hid h_u; clear h_u
 have H_b := hid h_b; clear h_b
 have H_c := hid h_c; clear h_c
 have H_z := hid h_z; clear h_z
 have H_s := hid h_s; clear h_s
 have H_me := hid h_me; clear h_me
 have Hall := hid (show allC m u b c z s me o a l = me + z + s by rw [allC, if_pos hs])
 clear hs
 have H_a := hid h_a; clear h_a
 have H_o := hid h_o; clear h_o
 have H_l := hid h_l; clear h_l
 go_enter Try.func52, Try.ntmps52
 go_wp2_with fail
 refine (jm_ _ _ _ _).mono ?_
 rintro e w1 ⟨rfl, rfl⟩
 rw [H_id.out]
 go_wp2_with fail
 refine (jm_ _ _ _ _).mono ?_
 rintro e w1 ⟨rfl, rfl⟩
 rw [H_m.out]
 go_wp2_with fail
 refine (jm_ _ _ _ _).mono ?_
 rintro e w1 ⟨rfl, rfl⟩
 rw [H_u.out]
 go_wp2_with fail
 refine (jm_ _ _ _ _).mono ?_
 rintro e w1 ⟨rfl, rfl⟩
 rw [H_b.out]
 go_wp2_with fail
 refine (jm_ _ _ _ _).mono ?_
 rintro e w1 ⟨rfl, rfl⟩
 rw [H_c.out]
 go_wp2_with fail
 refine (jm_ _ _ _ _).mono ?_
 rintro e w1 ⟨rfl, rfl⟩
 rw [H_z.out]
 go_wp2_with fail
 refine (jm_ _ _ _ _).mono ?_
 rintro e w1 ⟨rfl, rfl⟩
 rw [H_s.out]
 go_wp2_with fail
 refine (jm_ _ _ _ _).mono ?_
 rintro e w1 ⟨rfl, rfl⟩
 rw [H_me.out]
 go_wp2_with fail
 refine (xG_ id m u b c z s me o a l _).mono ?_
 rintro e wa ⟨rfl, hb⟩
 rw [Hall.out]
 obtain ⟨hbc, hbf⟩ := xF_ hb
 go_wp2_with fail
 refine (jm_ _ _ _ _).mono ?_
 rintro e w1 ⟨rfl, rfl⟩
 rw [H_a.out]
 go_wp2_with fail
 refine (jm_ _ _ _ _).mono ?_
 rintro e w1 ⟨rfl, rfl⟩
 rw [H_o.out]
 go_wp2_with fail
 refine (jm_ _ _ _ _).mono ?_
 rintro e w1 ⟨rfl, rfl⟩
 rw [H_l.out]
 go_wp2_with fail
 have hz := hb.size
 simp at hz
 have hwa0 : wa.cell? ⟨w.heap.size, 0, none⟩ = some (.int .i64 id) := (hbc _ _ (by simp)).trans (by simp [go_sem])
 have hwa1 : wa.cell? ⟨w.heap.size, 1, none⟩ = some (.int .i64 m) := (hbc _ _ (by simp)).trans (by simp [go_sem])
 have hwa2 : wa.cell? ⟨w.heap.size, 2, none⟩ = some (.int .i64 u) := (hbc _ _ (by simp)).trans (by simp [go_sem])
 have hwa3 : wa.cell? ⟨w.heap.size, 3, none⟩ = some (.int .i64 b) := (hbc _ _ (by simp)).trans (by simp [go_sem])
 have hwa4 : wa.cell? ⟨w.heap.size, 4, none⟩ = some (.int .i64 c) := (hbc _ _ (by simp)).trans (by simp [go_sem])
 have hwa5 : wa.cell? ⟨w.heap.size, 5, none⟩ = some (.int .i64 z) := (hbc _ _ (by simp)).trans (by simp [go_sem])
 have hwa6 : wa.cell? ⟨w.heap.size, 6, none⟩ = some (.int .i64 s) := (hbc _ _ (by simp)).trans (by simp [go_sem])
 have hwa7 : wa.cell? ⟨w.heap.size, 7, none⟩ = some (.int .i64 me) := (hbc _ _ (by simp)).trans (by simp [go_sem])
 have hwa8 : wa.cell? ⟨w.heap.size, 8, none⟩ = some (.int .i64 o) := (hbc _ _ (by simp)).trans (by simp [go_sem])
 have hwa9 : wa.cell? ⟨w.heap.size, 9, none⟩ = some (.int .i64 a) := (hbc _ _ (by simp)).trans (by simp [go_sem])
 have hwa10 : wa.cell? ⟨w.heap.size, 10, none⟩ = some (.int .i64 l) := (hbc _ _ (by simp)).trans (by simp [go_sem])
 clear hbc hbf
 go_region_with (go_at_call 99; refine (room_any id m u b c z s me o a l _).mono ?_; rintro e wb ⟨rfl, hb2⟩; have hcc := (hb2.cell (p := ⟨w.heap.size, 4, none⟩) (by simp; omega)).trans hwa4)
 all_goals (have hroom := H_room.out; go_wp2; go_ret; exact ⟨rfl, ((Below.refl _ w).alloc (Nat.le_refl _) _).trans ((hb.mono (by simp)).drew.trans (hb2.mono (by simp; omega)))⟩)
theorem chk_01 (id m u b c z s me o a l : Int) (w : World) (h_id : inB id 0 1099511627776 = true) (h_m : inB m 3 16 = false) :
  Calls Try.prog 52 #[.agg #[.int .i64 id, .int .i64 m, .int .i64 u, .int .i64 b, .int .i64 c, .int .i64 z, .int .i64 s, .int .i64 me, .int .i64 o, .int .i64 a, .int .i64 l]] w fun e w' => e = .returned (.int .i64 1) /\ Below w.heap.size w w' := by
 have b_id := jo_ h_id
 have H_id := hid h_id; clear h_id
 have H_m := hid h_m; clear h_m
 go_enter Try.func52, Try.ntmps52
 go_wp2_with fail
 refine (jm_ _ _ _ _).mono ?_
 rintro e w1 ⟨rfl, rfl⟩
 rw [H_id.out]
 go_wp2_with fail
 refine (jm_ _ _ _ _).mono ?_
 rintro e w1 ⟨rfl, rfl⟩
 rw [H_m.out]
 go_wp2
 go_ret
 exact ⟨rfl, (Below.refl _ w).alloc (Nat.le_refl _) _⟩
theorem chk_12 (id m u b c z s me o a l : Int) (w : World) (h_id : inB id 0 1099511627776 = true) (h_m : inB m 3 16 = true) (h_u : inB u 1 64 = true) (h_b : inB b 1 4096 = true) (h_c : inB c 1 4096 = true) (h_rem : (c % u != 0) = true) :
  Calls Try.prog 52 #[.agg #[.int .i64 id, .int .i64 m, .int .i64 u, .int .i64 b, .int .i64 c, .int .i64 z, .int .i64 s, .int .i64 me, .int .i64 o, .int .i64 a, .int .i64 l]] w fun e w' => e = .returned (.int .i64 1) /\ Below w.heap.size w w' := by
 have b_id := jo_ h_id
 have b_m := jo_ h_m
 have b_u := jo_ h_u
 have b_b := jo_ h_b
 have b_c := jo_ h_c
 have H_id := hid h_id; clear h_id
 have H_m := hid h_m; clear h_m
 have H_u := hid h_u; clear h_u
 have H_b := hid h_b; clear h_b
 have H_c := hid h_c; clear h_c
 go_enter Try.func52, Try.ntmps52
 go_wp2_with fail
 refine (jm_ _ _ _ _).mono ?_
 rintro e w1 ⟨rfl, rfl⟩
 rw [H_id.out]
 go_wp2_with fail
 refine (jm_ _ _ _ _).mono ?_
 rintro e w1 ⟨rfl, rfl⟩
 rw [H_m.out]
 go_wp2_with fail
 refine (jm_ _ _ _ _).mono ?_
 rintro e w1 ⟨rfl, rfl⟩
 rw [H_u.out]
 go_wp2_with fail
 refine (jm_ _ _ _ _).mono ?_
 rintro e w1 ⟨rfl, rfl⟩
 rw [H_b.out]
 go_wp2_with fail
 refine (jm_ _ _ _ _).mono ?_
 rintro e w1 ⟨rfl, rfl⟩
 rw [H_c.out]
 go_wp2
 go_ret
 exact ⟨rfl, (Below.refl _ w).alloc (Nat.le_refl _) _⟩
theorem chk_s23 (id m u b c z s me o a l : Int) (w : World) (h_id : inB id 0 1099511627776 = true) (h_m : inB m 3 16 = true) (h_u : inB u 1 64 = true) (h_b : inB b 1 4096 = true) (h_c : inB c 1 4096 = true) (h_rem : (c % u != 0) = false) (h_z : inB z 1 64 = true) (h_s : inB s 1 64 = true) (h_me : inB me 3 64 = true) (hs : jZ_ m u b c z s me o a l = true) (h_all : me + z + s > 64) :
  Calls Try.prog 52 #[.agg #[.int .i64 id, .int .i64 m, .int .i64 u, .int .i64 b, .int .i64 c, .int .i64 z, .int .i64 s, .int .i64 me, .int .i64 o, .int .i64 a, .int .i64 l]] w fun e w' => e = .returned (.int .i64 1) /\ Below w.heap.size w w' := by
 have b_id := jo_ h_id
 have b_m := jo_ h_m
 have b_u := jo_ h_u
 have b_b := jo_ h_b
 have b_c := jo_ h_c
 have b_z := jo_ h_z
 have b_s := jo_ h_s
 have b_me := jo_ h_me
 have H_id := hid h_id; clear h_id
 have H_m := hid h_m; clear h_m
 have H_u := hid h_u; clear h_u
 have H_b := hid h_b; clear h_b
 have H_c := hid h_c; clear h_c
 have H_z := hid h_z; clear h_z
 have H_s := hid h_s; clear h_s
 have H_me := hid h_me; clear h_me
 have Hall := hid (show allC m u b c z s me o a l = me + z + s by rw [allC, if_pos hs])
 clear hs
 go_enter Try.func52, Try.ntmps52
 go_wp2_with fail
 refine (jm_ _ _ _ _).mono ?_
 rintro e w1 ⟨rfl, rfl⟩
 rw [H_id.out]
 go_wp2_with fail
 refine (jm_ _ _ _ _).mono ?_
 rintro e w1 ⟨rfl, rfl⟩
 rw [H_m.out]
 go_wp2_with fail
 refine (jm_ _ _ _ _).mono ?_
 rintro e w1 ⟨rfl, rfl⟩
 rw [H_u.out]
 go_wp2_with fail
 refine (jm_ _ _ _ _).mono ?_
 rintro e w1 ⟨rfl, rfl⟩
 rw [H_b.out]
 go_wp2_with fail
 refine (jm_ _ _ _ _).mono ?_
 rintro e w1 ⟨rfl, rfl⟩
 rw [H_c.out]
 go_wp2_with fail
 refine (jm_ _ _ _ _).mono ?_
 rintro e w1 ⟨rfl, rfl⟩
 rw [H_z.out]
 go_wp2_with fail
 refine (jm_ _ _ _ _).mono ?_
 rintro e w1 ⟨rfl, rfl⟩
 rw [H_s.out]
 go_wp2_with fail
 refine (jm_ _ _ _ _).mono ?_
 rintro e w1 ⟨rfl, rfl⟩
 rw [H_me.out]
 go_wp2_with fail
 refine (xG_ id m u b c z s me o a l _).mono ?_
 rintro e wa ⟨rfl, hb⟩
 rw [Hall.out]
 obtain ⟨hbc, hbf⟩ := xF_ hb
 go_wp2
 go_ret
 exact ⟨rfl, ((Below.refl _ w).alloc (Nat.le_refl _) _).trans (hb.mono (by simp))⟩
theorem chk_n31 (id m u b c z s me o a l : Int) (w : World) (h_id : inB id 0 1099511627776 = true) (h_m : inB m 3 16 = true) (h_u : inB u 1 64 = true) (h_b : inB b 1 4096 = true) (h_c : inB c 1 4096 = true) (h_rem : (c % u != 0) = false) (h_z : inB z 1 64 = true) (h_s : inB s 1 64 = true) (h_me : inB me 3 64 = true) (hs : jZ_ m u b c z s me o a l = false) (h_a : inB a 1 z = true) (h_o : inB o 1 a = false) :
  Calls Try.prog 52 #[.agg #[.int .i64 id, .int .i64 m, .int .i64 u, .int .i64 b, .int .i64 c, .int .i64 z, .int .i64 s, .int .i64 me, .int .i64 o, .int .i64 a, .int .i64 l]] w fun e w' => e = .returned (.int .i64 1) /\ Below w.heap.size w w' := by
 have b_id := jo_ h_id
 have b_m := jo_ h_m
 have b_u := jo_ h_u
 have b_b := jo_ h_b
 have b_c := jo_ h_c
 have b_z := jo_ h_z
 have b_s := jo_ h_s
 have b_me := jo_ h_me
 have b_a := jo_ h_a
 have H_id := hid h_id; clear h_id
 have H_m := hid h_m; clear h_m
 have H_u := hid h_u; clear h_u
 have H_b := hid h_b; clear h_b
 have H_c := hid h_c; clear h_c
 have H_z := hid h_z; clear h_z
 have H_s := hid h_s; clear h_s
 have H_me := hid h_me; clear h_me
 have Hall := hid (show allC m u b c z s me o a l = 0 by rw [allC, if_neg (by rw [hs]; decide)])
 clear hs
 have H_a := hid h_a; clear h_a
 have H_o := hid h_o; clear h_o
 go_enter Try.func52, Try.ntmps52
 go_wp2_with fail
 refine (jm_ _ _ _ _).mono ?_
 rintro e w1 ⟨rfl, rfl⟩
 rw [H_id.out]
 go_wp2_with fail
 refine (jm_ _ _ _ _).mono ?_
 rintro e w1 ⟨rfl, rfl⟩
 rw [H_m.out]
 go_wp2_with fail
 refine (jm_ _ _ _ _).mono ?_
 rintro e w1 ⟨rfl, rfl⟩
 rw [H_u.out]
 go_wp2_with fail
 refine (jm_ _ _ _ _).mono ?_
 rintro e w1 ⟨rfl, rfl⟩
 rw [H_b.out]
 go_wp2_with fail
 refine (jm_ _ _ _ _).mono ?_
 rintro e w1 ⟨rfl, rfl⟩
 rw [H_c.out]
 go_wp2_with fail
 refine (jm_ _ _ _ _).mono ?_
 rintro e w1 ⟨rfl, rfl⟩
 rw [H_z.out]
 go_wp2_with fail
 refine (jm_ _ _ _ _).mono ?_
 rintro e w1 ⟨rfl, rfl⟩
 rw [H_s.out]
 go_wp2_with fail
 refine (jm_ _ _ _ _).mono ?_
 rintro e w1 ⟨rfl, rfl⟩
 rw [H_me.out]
 go_wp2_with fail
 refine (xG_ id m u b c z s me o a l _).mono ?_
 rintro e wa ⟨rfl, hb⟩
 rw [Hall.out]
 obtain ⟨hbc, hbf⟩ := xF_ hb
 go_wp2_with fail
 refine (jm_ _ _ _ _).mono ?_
 rintro e w1 ⟨rfl, rfl⟩
 rw [H_a.out]
 go_wp2_with fail
 refine (jm_ _ _ _ _).mono ?_
 rintro e w1 ⟨rfl, rfl⟩
 rw [H_o.out]
 go_wp2
 go_ret
 exact ⟨rfl, ((Below.refl _ w).alloc (Nat.le_refl _) _).trans (hb.mono (by simp))⟩
theorem chk_room0 (id m u b c z s me o a l : Int) (w : World) (h_id : inB id 0 1099511627776 = true) (h_m : inB m 3 16 = true) (h_u : inB u 1 64 = true) (h_b : inB b 1 4096 = true) (h_c : inB c 1 4096 = true) (h_rem : (c % u != 0) = false) (h_z : inB z 1 64 = true) (h_s : inB s 1 64 = true) (h_me : inB me 3 64 = true) (hs : jZ_ m u b c z s me o a l = true) (h_all : me + z + s <= 64) (h_a : inB a 1 z = true) (h_o : inB o 1 a = true) (h_l : inB l (a + s + me) 64 = true) (h_room : yt_ m u b c z s me o a l <= c) :
  Calls Try.prog 52 #[.agg #[.int .i64 id, .int .i64 m, .int .i64 u, .int .i64 b, .int .i64 c, .int .i64 z, .int .i64 s, .int .i64 me, .int .i64 o, .int .i64 a, .int .i64 l]] w fun e w' => e = .returned (.int .i64 0) /\ Below w.heap.size w w' := by
 have b_id := jo_ h_id
 have b_m := jo_ h_m
 have b_u := jo_ h_u
 have b_b := jo_ h_b
 have b_c := jo_ h_c
 have b_z := jo_ h_z
 have b_s := jo_ h_s
 have b_me := jo_ h_me
 have b_a := jo_ h_a
 have b_o := jo_ h_o
 have b_l := jo_ h_l
 have H_room := hid h_room; clear h_room
 have H_id := hid h_id; clear h_id
 have H_m := hid h_m; clear h_m
 have H_u := hid h_u; clear h_u
 have H_b := hid h_b; clear h_b
 have H_c := hid h_c; clear h_c
 have H_z := hid h_z; clear h_z
 have H_s := hid h_s; clear h_s
 have H_me := hid h_me; clear h_me
 have Hall := hid (show allC m u b c z s me o a l = me + z + s by rw [allC, if_pos hs])
 clear hs
 have H_a := hid h_a; clear h_a
 have H_o := hid h_o; clear h_o
 have H_l := hid h_l; clear h_l
 go_enter Try.func52, Try.ntmps52
 go_wp2_with fail
 refine (jm_ _ _ _ _).mono ?_
 rintro e w1 ⟨rfl, rfl⟩
 rw [H_id.out]
 go_wp2_with fail
 refine (jm_ _ _ _ _).mono ?_
 rintro e w1 ⟨rfl, rfl⟩
 rw [H_m.out]
 go_wp2_with fail
 refine (jm_ _ _ _ _).mono ?_
 rintro e w1 ⟨rfl, rfl⟩
 rw [H_u.out]
 go_wp2_with fail
 refine (jm_ _ _ _ _).mono ?_
 rintro e w1 ⟨rfl, rfl⟩
 rw [H_b.out]
 go_wp2_with fail
 refine (jm_ _ _ _ _).mono ?_
 rintro e w1 ⟨rfl, rfl⟩
 rw [H_c.out]
 go_wp2_with fail
 refine (jm_ _ _ _ _).mono ?_
 rintro e w1 ⟨rfl, rfl⟩
 rw [H_z.out]
 go_wp2_with fail
 refine (jm_ _ _ _ _).mono ?_
 rintro e w1 ⟨rfl, rfl⟩
 rw [H_s.out]
 go_wp2_with fail
 refine (jm_ _ _ _ _).mono ?_
 rintro e w1 ⟨rfl, rfl⟩
 rw [H_me.out]
 go_wp2_with fail
 refine (xG_ id m u b c z s me o a l _).mono ?_
 rintro e wa ⟨rfl, hb⟩
 rw [Hall.out]
 obtain ⟨hbc, hbf⟩ := xF_ hb
 go_wp2_with fail
 refine (jm_ _ _ _ _).mono ?_
 rintro e w1 ⟨rfl, rfl⟩
 rw [H_a.out]
 go_wp2_with fail
 refine (jm_ _ _ _ _).mono ?_
 rintro e w1 ⟨rfl, rfl⟩
 rw [H_o.out]
 go_wp2_with fail
 refine (jm_ _ _ _ _).mono ?_
 rintro e w1 ⟨rfl, rfl⟩
 rw [H_l.out]
 go_wp2_with fail
 have hz := hb.size
 simp at hz
 have hwa0 : wa.cell? ⟨w.heap.size, 0, none⟩ = some (.int .i64 id) := (hbc _ _ (by simp)).trans (by simp [go_sem])
 have hwa1 : wa.cell? ⟨w.heap.size, 1, none⟩ = some (.int .i64 m) := (hbc _ _ (by simp)).trans (by simp [go_sem])
 have hwa2 : wa.cell? ⟨w.heap.size, 2, none⟩ = some (.int .i64 u) := (hbc _ _ (by simp)).trans (by simp [go_sem])
 have hwa3 : wa.cell? ⟨w.heap.size, 3, none⟩ = some (.int .i64 b) := (hbc _ _ (by simp)).trans (by simp [go_sem])
 have hwa4 : wa.cell? ⟨w.heap.size, 4, none⟩ = some (.int .i64 c) := (hbc _ _ (by simp)).trans (by simp [go_sem])
 have hwa5 : wa.cell? ⟨w.heap.size, 5, none⟩ = some (.int .i64 z) := (hbc _ _ (by simp)).trans (by simp [go_sem])
 have hwa6 : wa.cell? ⟨w.heap.size, 6, none⟩ = some (.int .i64 s) := (hbc _ _ (by simp)).trans (by simp [go_sem])
 have hwa7 : wa.cell? ⟨w.heap.size, 7, none⟩ = some (.int .i64 me) := (hbc _ _ (by simp)).trans (by simp [go_sem])
 have hwa8 : wa.cell? ⟨w.heap.size, 8, none⟩ = some (.int .i64 o) := (hbc _ _ (by simp)).trans (by simp [go_sem])
 have hwa9 : wa.cell? ⟨w.heap.size, 9, none⟩ = some (.int .i64 a) := (hbc _ _ (by simp)).trans (by simp [go_sem])
 have hwa10 : wa.cell? ⟨w.heap.size, 10, none⟩ = some (.int .i64 l) := (hbc _ _ (by simp)).trans (by simp [go_sem])
 clear hbc hbf
 go_region_with (go_at_call 99; refine (room_any id m u b c z s me o a l _).mono ?_; rintro e wb ⟨rfl, hb2⟩; have hcc := (hb2.cell (p := ⟨w.heap.size, 4, none⟩) (by simp; omega)).trans hwa4)
 all_goals (have hroom := H_room.out; go_wp2; go_ret; exact ⟨rfl, ((Below.refl _ w).alloc (Nat.le_refl _) _).trans ((hb.mono (by simp)).drew.trans (hb2.mono (by simp; omega)))⟩)
theorem chk_02 (id m u b c z s me o a l : Int) (w : World) (h_id : inB id 0 1099511627776 = true) (h_m : inB m 3 16 = true) (h_u : inB u 1 64 = false) :
  Calls Try.prog 52 #[.agg #[.int .i64 id, .int .i64 m, .int .i64 u, .int .i64 b, .int .i64 c, .int .i64 z, .int .i64 s, .int .i64 me, .int .i64 o, .int .i64 a, .int .i64 l]] w fun e w' => e = .returned (.int .i64 1) /\ Below w.heap.size w w' := by
 have b_id := jo_ h_id
 have b_m := jo_ h_m
 have H_id := hid h_id; clear h_id
 have H_m := hid h_m; clear h_m
 have H_u := hid h_u; clear h_u
 go_enter Try.func52, Try.ntmps52
 go_wp2_with fail
 refine (jm_ _ _ _ _).mono ?_
 rintro e w1 ⟨rfl, rfl⟩
 rw [H_id.out]
 go_wp2_with fail
 refine (jm_ _ _ _ _).mono ?_
 rintro e w1 ⟨rfl, rfl⟩
 rw [H_m.out]
 go_wp2_with fail
 refine (jm_ _ _ _ _).mono ?_
 rintro e w1 ⟨rfl, rfl⟩
 rw [H_u.out]
 go_wp2
 go_ret
 exact ⟨rfl, (Below.refl _ w).alloc (Nat.le_refl _) _⟩
theorem chk_20 (id m u b c z s me o a l : Int) (w : World) (h_id : inB id 0 1099511627776 = true) (h_m : inB m 3 16 = true) (h_u : inB u 1 64 = true) (h_b : inB b 1 4096 = true) (h_c : inB c 1 4096 = true) (h_rem : (c % u != 0) = false) (h_z : inB z 1 64 = false) :
  Calls Try.prog 52 #[.agg #[.int .i64 id, .int .i64 m, .int .i64 u, .int .i64 b, .int .i64 c, .int .i64 z, .int .i64 s, .int .i64 me, .int .i64 o, .int .i64 a, .int .i64 l]] w fun e w' => e = .returned (.int .i64 1) /\ Below w.heap.size w w' := by
 have b_id := jo_ h_id
 have b_m := jo_ h_m
 have b_u := jo_ h_u
 have b_b := jo_ h_b
 have b_c := jo_ h_c
 have H_id := hid h_id; clear h_id
 have H_m := hid h_m; clear h_m
 have H_u := hid h_u; clear h_u
 have H_b := hid h_b; clear h_b
 have H_c := hid h_c; clear h_c
 have H_z := hid h_z; clear h_z
 go_enter Try.func52, Try.ntmps52
 go_wp2_with fail
 refine (jm_ _ _ _ _).mono ?_
 rintro e w1 ⟨rfl, rfl⟩
 rw [H_id.out]
 go_wp2_with fail
 refine (jm_ _ _ _ _).mono ?_
 rintro e w1 ⟨rfl, rfl⟩
 rw [H_m.out]
 go_wp2_with fail
 refine (jm_ _ _ _ _).mono ?_
 rintro e w1 ⟨rfl, rfl⟩
 rw [H_u.out]
 go_wp2_with fail
 refine (jm_ _ _ _ _).mono ?_
 rintro e w1 ⟨rfl, rfl⟩
 rw [H_b.out]
 go_wp2_with fail
 refine (jm_ _ _ _ _).mono ?_
 rintro e w1 ⟨rfl, rfl⟩
 rw [H_c.out]
 go_wp2_with fail
 refine (jm_ _ _ _ _).mono ?_
 rintro e w1 ⟨rfl, rfl⟩
 rw [H_z.out]
 go_wp2
 go_ret
 exact ⟨rfl, (Below.refl _ w).alloc (Nat.le_refl _) _⟩
theorem chk_s30 (id m u b c z s me o a l : Int) (w : World) (h_id : inB id 0 1099511627776 = true) (h_m : inB m 3 16 = true) (h_u : inB u 1 64 = true) (h_b : inB b 1 4096 = true) (h_c : inB c 1 4096 = true) (h_rem : (c % u != 0) = false) (h_z : inB z 1 64 = true) (h_s : inB s 1 64 = true) (h_me : inB me 3 64 = true) (hs : jZ_ m u b c z s me o a l = true) (h_all : me + z + s <= 64) (h_a : inB a 1 z = false) :
  Calls Try.prog 52 #[.agg #[.int .i64 id, .int .i64 m, .int .i64 u, .int .i64 b, .int .i64 c, .int .i64 z, .int .i64 s, .int .i64 me, .int .i64 o, .int .i64 a, .int .i64 l]] w fun e w' => e = .returned (.int .i64 1) /\ Below w.heap.size w w' := by
 have b_id := jo_ h_id
 have b_m := jo_ h_m
 have b_u := jo_ h_u
 have b_b := jo_ h_b
 have b_c := jo_ h_c
 have b_z := jo_ h_z
 have b_s := jo_ h_s
 have b_me := jo_ h_me
 have H_id := hid h_id; clear h_id
 have H_m := hid h_m; clear h_m
 have H_u := hid h_u; clear h_u
 have H_b := hid h_b; clear h_b
 have H_c := hid h_c; clear h_c
 have H_z := hid h_z; clear h_z
 have H_s := hid h_s; clear h_s
 have H_me := hid h_me; clear h_me
 have Hall := hid (show allC m u b c z s me o a l = me + z + s by rw [allC, if_pos hs])
 clear hs
 have H_a := hid h_a; clear h_a
 go_enter Try.func52, Try.ntmps52
 go_wp2_with fail
 refine (jm_ _ _ _ _).mono ?_
 rintro e w1 ⟨rfl, rfl⟩
 rw [H_id.out]
 go_wp2_with fail
 refine (jm_ _ _ _ _).mono ?_
 rintro e w1 ⟨rfl, rfl⟩
 rw [H_m.out]
 go_wp2_with fail
 refine (jm_ _ _ _ _).mono ?_
 rintro e w1 ⟨rfl, rfl⟩
 rw [H_u.out]
 go_wp2_with fail
 refine (jm_ _ _ _ _).mono ?_
 rintro e w1 ⟨rfl, rfl⟩
 rw [H_b.out]
 go_wp2_with fail
 refine (jm_ _ _ _ _).mono ?_
 rintro e w1 ⟨rfl, rfl⟩
 rw [H_c.out]
 go_wp2_with fail
 refine (jm_ _ _ _ _).mono ?_
 rintro e w1 ⟨rfl, rfl⟩
 rw [H_z.out]
 go_wp2_with fail
 refine (jm_ _ _ _ _).mono ?_
 rintro e w1 ⟨rfl, rfl⟩
 rw [H_s.out]
 go_wp2_with fail
 refine (jm_ _ _ _ _).mono ?_
 rintro e w1 ⟨rfl, rfl⟩
 rw [H_me.out]
 go_wp2_with fail
 refine (xG_ id m u b c z s me o a l _).mono ?_
 rintro e wa ⟨rfl, hb⟩
 rw [Hall.out]
 obtain ⟨hbc, hbf⟩ := xF_ hb
 go_wp2_with fail
 refine (jm_ _ _ _ _).mono ?_
 rintro e w1 ⟨rfl, rfl⟩
 rw [H_a.out]
 go_wp2
 go_ret
 exact ⟨rfl, ((Below.refl _ w).alloc (Nat.le_refl _) _).trans (hb.mono (by simp))⟩
theorem chk_s32 (id m u b c z s me o a l : Int) (w : World) (h_id : inB id 0 1099511627776 = true) (h_m : inB m 3 16 = true) (h_u : inB u 1 64 = true) (h_b : inB b 1 4096 = true) (h_c : inB c 1 4096 = true) (h_rem : (c % u != 0) = false) (h_z : inB z 1 64 = true) (h_s : inB s 1 64 = true) (h_me : inB me 3 64 = true) (hs : jZ_ m u b c z s me o a l = true) (h_all : me + z + s <= 64) (h_a : inB a 1 z = true) (h_o : inB o 1 a = true) (h_l : inB l (a + s + me) 64 = false) :
  Calls Try.prog 52 #[.agg #[.int .i64 id, .int .i64 m, .int .i64 u, .int .i64 b, .int .i64 c, .int .i64 z, .int .i64 s, .int .i64 me, .int .i64 o, .int .i64 a, .int .i64 l]] w fun e w' => e = .returned (.int .i64 1) /\ Below w.heap.size w w' := by
 have b_id := jo_ h_id
 have b_m := jo_ h_m
 have b_u := jo_ h_u
 have b_b := jo_ h_b
 have b_c := jo_ h_c
 have b_z := jo_ h_z
 have b_s := jo_ h_s
 have b_me := jo_ h_me
 have b_a := jo_ h_a
 have b_o := jo_ h_o
 have H_id := hid h_id; clear h_id
 have H_m := hid h_m; clear h_m
 have H_u := hid h_u; clear h_u
 have H_b := hid h_b; clear h_b
 have H_c := hid h_c; clear h_c
 have H_z := hid h_z; clear h_z
 have H_s := hid h_s; clear h_s
 have H_me := hid h_me; clear h_me
 have Hall := hid (show allC m u b c z s me o a l = me + z + s by rw [allC, if_pos hs])
 clear hs
 have H_a := hid h_a; clear h_a
 have H_o := hid h_o; clear h_o
 have H_l := hid h_l; clear h_l
 go_enter Try.func52, Try.ntmps52
 go_wp2_with fail
 refine (jm_ _ _ _ _).mono ?_
 rintro e w1 ⟨rfl, rfl⟩
 rw [H_id.out]
 go_wp2_with fail
 refine (jm_ _ _ _ _).mono ?_
 rintro e w1 ⟨rfl, rfl⟩
 rw [H_m.out]
 go_wp2_with fail
 refine (jm_ _ _ _ _).mono ?_
 rintro e w1 ⟨rfl, rfl⟩
 rw [H_u.out]
 go_wp2_with fail
 refine (jm_ _ _ _ _).mono ?_
 rintro e w1 ⟨rfl, rfl⟩
 rw [H_b.out]
 go_wp2_with fail
 refine (jm_ _ _ _ _).mono ?_
 rintro e w1 ⟨rfl, rfl⟩
 rw [H_c.out]
 go_wp2_with fail
 refine (jm_ _ _ _ _).mono ?_
 rintro e w1 ⟨rfl, rfl⟩
 rw [H_z.out]
 go_wp2_with fail
 refine (jm_ _ _ _ _).mono ?_
 rintro e w1 ⟨rfl, rfl⟩
 rw [H_s.out]
 go_wp2_with fail
 refine (jm_ _ _ _ _).mono ?_
 rintro e w1 ⟨rfl, rfl⟩
 rw [H_me.out]
 go_wp2_with fail
 refine (xG_ id m u b c z s me o a l _).mono ?_
 rintro e wa ⟨rfl, hb⟩
 rw [Hall.out]
 obtain ⟨hbc, hbf⟩ := xF_ hb
 go_wp2_with fail
 refine (jm_ _ _ _ _).mono ?_
 rintro e w1 ⟨rfl, rfl⟩
 rw [H_a.out]
 go_wp2_with fail
 refine (jm_ _ _ _ _).mono ?_
 rintro e w1 ⟨rfl, rfl⟩
 rw [H_o.out]
 go_wp2_with fail
 refine (jm_ _ _ _ _).mono ?_
 rintro e w1 ⟨rfl, rfl⟩
 rw [H_l.out]
 go_wp2
 go_ret
 exact ⟨rfl, ((Below.refl _ w).alloc (Nat.le_refl _) _).trans (hb.mono (by simp))⟩
theorem chk_10 (id m u b c z s me o a l : Int) (w : World) (h_id : inB id 0 1099511627776 = true) (h_m : inB m 3 16 = true) (h_u : inB u 1 64 = true) (h_b : inB b 1 4096 = false) :
  Calls Try.prog 52 #[.agg #[.int .i64 id, .int .i64 m, .int .i64 u, .int .i64 b, .int .i64 c, .int .i64 z, .int .i64 s, .int .i64 me, .int .i64 o, .int .i64 a, .int .i64 l]] w fun e w' => e = .returned (.int .i64 1) /\ Below w.heap.size w w' := by
 have b_id := jo_ h_id
 have b_m := jo_ h_m
 have b_u := jo_ h_u
 have H_id := hid h_id; clear h_id
 have H_m := hid h_m; clear h_m
 have H_u := hid h_u; clear h_u
 have H_b := hid h_b; clear h_b
 go_enter Try.func52, Try.ntmps52
 go_wp2_with fail
 refine (jm_ _ _ _ _).mono ?_
 rintro e w1 ⟨rfl, rfl⟩
 rw [H_id.out]
 go_wp2_with fail
 refine (jm_ _ _ _ _).mono ?_
 rintro e w1 ⟨rfl, rfl⟩
 rw [H_m.out]
 go_wp2_with fail
 refine (jm_ _ _ _ _).mono ?_
 rintro e w1 ⟨rfl, rfl⟩
 rw [H_u.out]
 go_wp2_with fail
 refine (jm_ _ _ _ _).mono ?_
 rintro e w1 ⟨rfl, rfl⟩
 rw [H_b.out]
 go_wp2
 go_ret
 exact ⟨rfl, (Below.refl _ w).alloc (Nat.le_refl _) _⟩
theorem chk_21 (id m u b c z s me o a l : Int) (w : World) (h_id : inB id 0 1099511627776 = true) (h_m : inB m 3 16 = true) (h_u : inB u 1 64 = true) (h_b : inB b 1 4096 = true) (h_c : inB c 1 4096 = true) (h_rem : (c % u != 0) = false) (h_z : inB z 1 64 = true) (h_s : inB s 1 64 = false) :
  Calls Try.prog 52 #[.agg #[.int .i64 id, .int .i64 m, .int .i64 u, .int .i64 b, .int .i64 c, .int .i64 z, .int .i64 s, .int .i64 me, .int .i64 o, .int .i64 a, .int .i64 l]] w fun e w' => e = .returned (.int .i64 1) /\ Below w.heap.size w w' := by
 have b_id := jo_ h_id
 have b_m := jo_ h_m
 have b_u := jo_ h_u
 have b_b := jo_ h_b
 have b_c := jo_ h_c
 have b_z := jo_ h_z
 have H_id := hid h_id; clear h_id
 have H_m := hid h_m; clear h_m
 have H_u := hid h_u; clear h_u
 have H_b := hid h_b; clear h_b
 have H_c := hid h_c; clear h_c
 have H_z := hid h_z; clear h_z
 have H_s := hid h_s; clear h_s
 go_enter Try.func52, Try.ntmps52
 go_wp2_with fail
 refine (jm_ _ _ _ _).mono ?_
 rintro e w1 ⟨rfl, rfl⟩
 rw [H_id.out]
 go_wp2_with fail
 refine (jm_ _ _ _ _).mono ?_
 rintro e w1 ⟨rfl, rfl⟩
 rw [H_m.out]
 go_wp2_with fail
 refine (jm_ _ _ _ _).mono ?_
 rintro e w1 ⟨rfl, rfl⟩
 rw [H_u.out]
 go_wp2_with fail
 refine (jm_ _ _ _ _).mono ?_
 rintro e w1 ⟨rfl, rfl⟩
 rw [H_b.out]
 go_wp2_with fail
 refine (jm_ _ _ _ _).mono ?_
 rintro e w1 ⟨rfl, rfl⟩
 rw [H_c.out]
 go_wp2_with fail
 refine (jm_ _ _ _ _).mono ?_
 rintro e w1 ⟨rfl, rfl⟩
 rw [H_z.out]
 go_wp2_with fail
 refine (jm_ _ _ _ _).mono ?_
 rintro e w1 ⟨rfl, rfl⟩
 rw [H_s.out]
 go_wp2
 go_ret
 exact ⟨rfl, (Below.refl _ w).alloc (Nat.le_refl _) _⟩
theorem chk_n30 (id m u b c z s me o a l : Int) (w : World) (h_id : inB id 0 1099511627776 = true) (h_m : inB m 3 16 = true) (h_u : inB u 1 64 = true) (h_b : inB b 1 4096 = true) (h_c : inB c 1 4096 = true) (h_rem : (c % u != 0) = false) (h_z : inB z 1 64 = true) (h_s : inB s 1 64 = true) (h_me : inB me 3 64 = true) (hs : jZ_ m u b c z s me o a l = false) (h_a : inB a 1 z = false) :
  Calls Try.prog 52 #[.agg #[.int .i64 id, .int .i64 m, .int .i64 u, .int .i64 b, .int .i64 c, .int .i64 z, .int .i64 s, .int .i64 me, .int .i64 o, .int .i64 a, .int .i64 l]] w fun e w' => e = .returned (.int .i64 1) /\ Below w.heap.size w w' := by
 have b_id := jo_ h_id
 have b_m := jo_ h_m
 have b_u := jo_ h_u
 have b_b := jo_ h_b
 have b_c := jo_ h_c
 have b_z := jo_ h_z
 have b_s := jo_ h_s
 have b_me := jo_ h_me
 have H_id := hid h_id; clear h_id
 have H_m := hid h_m; clear h_m
 have H_u := hid h_u; clear h_u
 have H_b := hid h_b; clear h_b
 have H_c := hid h_c; clear h_c
 have H_z := hid h_z; clear h_z
 have H_s := hid h_s; clear h_s
 have H_me := hid h_me; clear h_me
 have Hall := hid (show allC m u b c z s me o a l = 0 by rw [allC, if_neg (by rw [hs]; decide)])
 clear hs
 have H_a := hid h_a; clear h_a
 go_enter Try.func52, Try.ntmps52
 go_wp2_with fail
 refine (jm_ _ _ _ _).mono ?_
 rintro e w1 ⟨rfl, rfl⟩
 rw [H_id.out]
 go_wp2_with fail
 refine (jm_ _ _ _ _).mono ?_
 rintro e w1 ⟨rfl, rfl⟩
 rw [H_m.out]
 go_wp2_with fail
 refine (jm_ _ _ _ _).mono ?_
 rintro e w1 ⟨rfl, rfl⟩
 rw [H_u.out]
 go_wp2_with fail
 refine (jm_ _ _ _ _).mono ?_
 rintro e w1 ⟨rfl, rfl⟩
 rw [H_b.out]
 go_wp2_with fail
 refine (jm_ _ _ _ _).mono ?_
 rintro e w1 ⟨rfl, rfl⟩
 rw [H_c.out]
 go_wp2_with fail
 refine (jm_ _ _ _ _).mono ?_
 rintro e w1 ⟨rfl, rfl⟩
 rw [H_z.out]
 go_wp2_with fail
 refine (jm_ _ _ _ _).mono ?_
 rintro e w1 ⟨rfl, rfl⟩
 rw [H_s.out]
 go_wp2_with fail
 refine (jm_ _ _ _ _).mono ?_
 rintro e w1 ⟨rfl, rfl⟩
 rw [H_me.out]
 go_wp2_with fail
 refine (xG_ id m u b c z s me o a l _).mono ?_
 rintro e wa ⟨rfl, hb⟩
 rw [Hall.out]
 obtain ⟨hbc, hbf⟩ := xF_ hb
 go_wp2_with fail
 refine (jm_ _ _ _ _).mono ?_
 rintro e w1 ⟨rfl, rfl⟩
 rw [H_a.out]
 go_wp2
 go_ret
 exact ⟨rfl, ((Below.refl _ w).alloc (Nat.le_refl _) _).trans (hb.mono (by simp))⟩
theorem chk_n32 (id m u b c z s me o a l : Int) (w : World) (h_id : inB id 0 1099511627776 = true) (h_m : inB m 3 16 = true) (h_u : inB u 1 64 = true) (h_b : inB b 1 4096 = true) (h_c : inB c 1 4096 = true) (h_rem : (c % u != 0) = false) (h_z : inB z 1 64 = true) (h_s : inB s 1 64 = true) (h_me : inB me 3 64 = true) (hs : jZ_ m u b c z s me o a l = false) (h_a : inB a 1 z = true) (h_o : inB o 1 a = true) (h_l : inB l (a + s + me) 64 = false) :
  Calls Try.prog 52 #[.agg #[.int .i64 id, .int .i64 m, .int .i64 u, .int .i64 b, .int .i64 c, .int .i64 z, .int .i64 s, .int .i64 me, .int .i64 o, .int .i64 a, .int .i64 l]] w fun e w' => e = .returned (.int .i64 1) /\ Below w.heap.size w w' := by
 have b_id := jo_ h_id
 have b_m := jo_ h_m
 have b_u := jo_ h_u
 have b_b := jo_ h_b
 have b_c := jo_ h_c
 have b_z := jo_ h_z
 have b_s := jo_ h_s
 have b_me := jo_ h_me
 have b_a := jo_ h_a
 have b_o := jo_ h_o
 have H_id := hid h_id; clear h_id
 have H_m := hid h_m; clear h_m
 have H_u := hid h_u; clear h_u
 have H_b := hid h_b; clear h_b
 have H_c := hid h_c; clear h_c
 have H_z := hid h_z; clear h_z
 have H_s := hid h_s; clear h_s
 have H_me := hid h_me; clear h_me
 have Hall := hid (show allC m u b c z s me o a l = 0 by rw [allC, if_neg (by rw [hs]; decide)])
 clear hs
 have H_a := hid h_a; clear h_a
 have H_o := hid h_o; clear h_o
 have H_l := hid h_l; clear h_l
 go_enter Try.func52, Try.ntmps52
 go_wp2_with fail
 refine (jm_ _ _ _ _).mono ?_
 rintro e w1 ⟨rfl, rfl⟩
 rw [H_id.out]
 go_wp2_with fail
 refine (jm_ _ _ _ _).mono ?_
 rintro e w1 ⟨rfl, rfl⟩
 rw [H_m.out]
 go_wp2_with fail
 refine (jm_ _ _ _ _).mono ?_
 rintro e w1 ⟨rfl, rfl⟩
 rw [H_u.out]
 go_wp2_with fail
 refine (jm_ _ _ _ _).mono ?_
 rintro e w1 ⟨rfl, rfl⟩
 rw [H_b.out]
 go_wp2_with fail
 refine (jm_ _ _ _ _).mono ?_
 rintro e w1 ⟨rfl, rfl⟩
 rw [H_c.out]
 go_wp2_with fail
 refine (jm_ _ _ _ _).mono ?_
 rintro e w1 ⟨rfl, rfl⟩
 rw [H_z.out]
 go_wp2_with fail
 refine (jm_ _ _ _ _).mono ?_
 rintro e w1 ⟨rfl, rfl⟩
 rw [H_s.out]
 go_wp2_with fail
 refine (jm_ _ _ _ _).mono ?_
 rintro e w1 ⟨rfl, rfl⟩
 rw [H_me.out]
 go_wp2_with fail
 refine (xG_ id m u b c z s me o a l _).mono ?_
 rintro e wa ⟨rfl, hb⟩
 rw [Hall.out]
 obtain ⟨hbc, hbf⟩ := xF_ hb
 go_wp2_with fail
 refine (jm_ _ _ _ _).mono ?_
 rintro e w1 ⟨rfl, rfl⟩
 rw [H_a.out]
 go_wp2_with fail
 refine (jm_ _ _ _ _).mono ?_
 rintro e w1 ⟨rfl, rfl⟩
 rw [H_o.out]
 go_wp2_with fail
 refine (jm_ _ _ _ _).mono ?_
 rintro e w1 ⟨rfl, rfl⟩
 rw [H_l.out]
 go_wp2
 go_ret
 exact ⟨rfl, ((Below.refl _ w).alloc (Nat.le_refl _) _).trans (hb.mono (by simp))⟩
end Go.Proofs.Ytgckcaoncjhgbaa
