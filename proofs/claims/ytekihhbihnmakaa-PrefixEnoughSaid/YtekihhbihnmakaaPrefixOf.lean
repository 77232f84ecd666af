/- prefix.Of: what it answers: for all settings, members' blocks and parities. No condition. -/
import Derived.WalkKit
import Derived.WalkSpells
import Derived.WalkLawsBesides
import Derived.StillTailTactics
import Derived.Deep.QuietTactic
import Derived.BigQuiet
import Derived.Lib.Hide
import Derived.Test.YtekihhbihnmakaaPAx36
import Derived.Test.YtekihhbihnmakaaPAx48
import Derived.Test.YtekihhbihnmakaaPAx49
import Derived.Test.YtekihhbihnmakaaPAx6
import Derived.Test.YtekihhbihnmakaaOfLaw
namespace Go.Proofs.Ytekihhbihnmakaa
open Go.RowKit Go.Proofs.Ytekihhbihnmakaa.PA Go.Proofs.YtekihhbihnmakaaW.PrintWords Go.Proofs.YtekihhbihnmakaaW.PrintLast Go.Proofs.Ytekihhbihnmakaa.Geo
set_option linter.unusedVariables false
set_option linter.unusedSimpArgs false
-- prefix_How.calls prefix_Whole.calls prefix_right.calls conf_Row.calls conf_Size.calls
/-- What a call of the closure finds: its boxes. -/
structure OfBoxes (id m u b c z s me o a l : Int) (A1 : Option Addr) (n1 c1 : Nat) (lost : Int) (A3 : Option Addr) (n3 c3 : Nat) (R : Int) (Bc Bh Bl Bp Br : Nat) (w : World) : Prop where
  bc : w.heap[Bc]? = some (.cells #[.int .i64 id, .int .i64 m, .int .i64 u, .int .i64 b, .int .i64 c, .int .i64 z, .int .i64 s, .int .i64 me, .int .i64 o, .int .i64 a, .int .i64 l] 23 (0, 0))
  bh : w.heap[Bh]? = some (.cells #[.slice A1 n1 c1] 34 (0, 0))
  bl : w.heap[Bl]? = some (.cells #[.int .i64 lost] 3 (0, 0))
  bp : w.heap[Bp]? = some (.cells #[.slice A3 n3 c3] 57 (0, 0))
  br : w.heap[Br]? = some (.cells #[.int .i64 R] 3 (0, 0))
theorem OfBoxes.below {id m u b c z s me o a l : Int} {A1 : Option Addr} {n1 c1 : Nat} {lost : Int} {A3 : Option Addr} {n3 c3 : Nat} {R : Int} {Bc Bh Bl Bp Br : Nat} {w w1 : World} (h : OfBoxes id m u b c z s me o a l A1 n1 c1 lost A3 n3 c3 R Bc Bh Bl Bp Br w) (hb : Below w.heap.size w w1) : OfBoxes id m u b c z s me o a l A1 n1 c1 lost A3 n3 c3 R Bc Bh Bl Bp Br w1 :=
  ⟨blk_below h.bc hb, blk_below h.bh hb, blk_below h.bl hb, blk_below h.bp hb, blk_below h.br hb⟩
/-- What it reads. -/
def S1 (id m u b c z s me o a l : Int) (A1 : Option Addr) (n1 c1 : Nat) (lost R : Int) (Bc Bh Bl Br : Nat) (w : World) : Prop :=
  w.cell? ⟨Br, 0, none⟩ = some (.int .i64 R) ∧ w.cell? ⟨Bh, 0, none⟩ = some (.slice A1 n1 c1) ∧ w.cell? ⟨Bl, 0, none⟩ = some (.int .i64 lost) ∧ w.cell? ⟨Bc, 0, none⟩ = some (.int .i64 id) ∧ w.cell? ⟨Bc, 1, none⟩ = some (.int .i64 m) ∧ w.cell? ⟨Bc, 2, none⟩ = some (.int .i64 u) ∧ w.cell? ⟨Bc, 3, none⟩ = some (.int .i64 b) ∧ w.cell? ⟨Bc, 4, none⟩ = some (.int .i64 c) ∧ w.cell? ⟨Bc, 5, none⟩ = some (.int .i64 z) ∧ w.cell? ⟨Bc, 6, none⟩ = some (.int .i64 s) ∧ w.cell? ⟨Bc, 7, none⟩ = some (.int .i64 me) ∧ w.cell? ⟨Bc, 8, none⟩ = some (.int .i64 o) ∧ w.cell? ⟨Bc, 9, none⟩ = some (.int .i64 a) ∧ w.cell? ⟨Bc, 10, none⟩ = some (.int .i64 l)
theorem S1.of {id m u b c z s me o a l : Int} {A1 : Option Addr} {n1 c1 : Nat} {lost : Int} {A3 : Option Addr} {n3 c3 : Nat} {R : Int} {Bc Bh Bl Bp Br : Nat} {w : World} (h : OfBoxes id m u b c z s me o a l A1 n1 c1 lost A3 n3 c3 R Bc Bh Bl Bp Br w) : S1 id m u b c z s me o a l A1 n1 c1 lost R Bc Bh Bl Br w :=
  ⟨(blk_cell h.br 0).trans rfl, (blk_cell h.bh 0).trans rfl, (blk_cell h.bl 0).trans rfl, cz11 h.bc⟩
theorem S1.drew {id m u b c z s me o a l : Int} {A1 : Option Addr} {n1 c1 : Nat} {lost R : Int} {Bc Bh Bl Br : Nat} {w : World} (h : S1 id m u b c z s me o a l A1 n1 c1 lost R Bc Bh Bl Br w) : S1 id m u b c z s me o a l A1 n1 c1 lost R Bc Bh Bl Br w.drew := h
theorem S1.below {id m u b c z s me o a l : Int} {A1 : Option Addr} {n1 c1 : Nat} {lost R : Int} {Bc Bh Bl Br : Nat} {w w1 : World} (hb : Below w.heap.size w w1) (h : S1 id m u b c z s me o a l A1 n1 c1 lost R Bc Bh Bl Br w) : S1 id m u b c z s me o a l A1 n1 c1 lost R Bc Bh Bl Br w1 := by
  obtain ⟨h1, h2, h3, h4, h5, h6, h7, h8, h9, h10, h11, h12, h13, h14⟩ := h
  exact ⟨pw_cell_below hb h1, pw_cell_below hb h2, pw_cell_below hb h3, pw_cell_below hb h4, pw_cell_below hb h5, pw_cell_below hb h6, pw_cell_below hb h7, pw_cell_below hb h8, pw_cell_below hb h9, pw_cell_below hb h10, pw_cell_below hb h11, pw_cell_below hb h12, pw_cell_below hb h13, pw_cell_below hb h14⟩
set_option maxHeartbeats 1000000 in
set_option maxRecDepth 100000 in
theorem of1_no (id m u b c z s me o a l : Int) (A1 : Option Addr) (c1 : Nat) (hv : List Int) (lost : Int) (A3 : Option Addr) (c3 : Nat) (pars : List S71) (R : Int) (Bc Bh Bl Bp Br : Nat) (lb : Int) (w : World)
    (hB : OfBoxes id m u b c z s me o a l A1 hv.length c1 lost A3 pars.length c3 R Bc Bh Bl Bp Br w) (hr1 : Kd.C (Kd.int .i64) w A1 hv.length hv) (hc1 : hv.length ≤ c1) (hr3 : Kd.C k71 w A3 pars.length pars) (hc3 : pars.length ≤ c3)
    (q2 : Int) (hq : prefix_How.f (pars.length + 40) id m u b c z s me o a l hv lost pars lb = some (0, q2)) :
    Calls Try.prog 83 #[.int .i64 lb, .pointer (some ⟨Bc, 0, none⟩), .pointer (some ⟨Bh, 0, none⟩), .pointer (some ⟨Bl, 0, none⟩), .pointer (some ⟨Bp, 0, none⟩), .pointer (some ⟨Br, 0, none⟩)] w fun e w' => e = .returned (.bool false) ∧ Below w.heap.size w w' := by
  have HQ := Lib.hid hq
  have HB := Lib.hid hB
  have HR1 := Lib.hid hr1
  have HR3 := Lib.hid hr3
  have HC1 := Lib.hid hc1
  have HC3 := Lib.hid hc3
  obtain ⟨q0, q1, q2', q3, q4, q5, q6, q7, q8, q9, q10⟩ := cz11 hB.bc
  have ch := blk_cell hB.bh 0
  have cl := blk_cell hB.bl 0
  have cp := blk_cell hB.bp 0
  simp only [List.getElem?_toArray, List.getElem?_cons_zero] at ch cl cp
  clear hq hB hr1 hr3 hc1 hc3
  go_enter Try.func83, Try.ntmps83
  go_wp2_with fail
  refine (prefix_How.calls _ id m u b c z s me o a l A1 c1 hv lost A3 c3 pars lb _ _ _ HR1.out HC1.out HR3.out HC3.out HQ.out).mono ?_
  rintro e w1 ⟨rfl, hb⟩
  have HBB := Lib.hid hb
  clear q0 q1 q2' q3 q4 q5 q6 q7 q8 q9 q10 ch cl cp
  clear hb
  go_wp2
  go_quiet (fail)
  go_wp2
  go_ret
  exact ⟨rfl, pw_below_drewN HBB.out _⟩
set_option maxHeartbeats 1000000 in
set_option maxRecDepth 100000 in
theorem of1_in (id m u b c z s me o a l : Int) (A1 : Option Addr) (c1 : Nat) (hv : List Int) (lost : Int) (A3 : Option Addr) (c3 : Nat) (pars : List S71) (R : Int) (Bc Bh Bl Bp Br : Nat) (lb : Int) (w : World)
    (hB : OfBoxes id m u b c z s me o a l A1 hv.length c1 lost A3 pars.length c3 R Bc Bh Bl Bp Br w) (hr1 : Kd.C (Kd.int .i64) w A1 hv.length hv) (hc1 : hv.length ≤ c1) (hr3 : Kd.C k71 w A3 pars.length pars) (hc3 : pars.length ≤ c3)
    (qh q2 : Int) (hq : prefix_How.f (pars.length + 40) id m u b c z s me o a l hv lost pars lb = some (qh, q2)) (hne : qh ≠ 0) (h0 : 0 ≤ lb) (hR : 2 ≤ R) (hRb : R ≤ 960) (hin : ¬ lb % R = 0) :
    Calls Try.prog 83 #[.int .i64 lb, .pointer (some ⟨Bc, 0, none⟩), .pointer (some ⟨Bh, 0, none⟩), .pointer (some ⟨Bl, 0, none⟩), .pointer (some ⟨Bp, 0, none⟩), .pointer (some ⟨Br, 0, none⟩)] w fun e w' => e = .returned (.bool true) ∧ Below w.heap.size w w' := by
  have e1 : (qh != 0) = true := by simpa using hne
  have e2 : (Int.tmod lb R != 0) = true := by rw [Int.tmod_eq_emod_of_nonneg h0]; simpa using hin
  have e3 : (R == 0) = false := beq_eq_false_iff_ne.mpr (by omega)
  have e4 : ¬ R = 0 := by omega
  have HQ := Lib.hid hq
  have HB := Lib.hid hB
  have HR1 := Lib.hid hr1
  have HR3 := Lib.hid hr3
  have HC1 := Lib.hid hc1
  have HC3 := Lib.hid hc3
  obtain ⟨q0, q1, q2', q3, q4, q5, q6, q7, q8, q9, q10⟩ := cz11 hB.bc
  have ch := blk_cell hB.bh 0
  have cl := blk_cell hB.bl 0
  have cp := blk_cell hB.bp 0
  simp only [List.getElem?_toArray, List.getElem?_cons_zero] at ch cl cp
  clear hq hB hr1 hr3 hc1 hc3
  go_enter Try.func83, Try.ntmps83
  go_wp2_with fail
  refine (prefix_How.calls _ id m u b c z s me o a l A1 c1 hv lost A3 c3 pars lb _ _ _ HR1.out HC1.out HR3.out HC3.out HQ.out).mono ?_
  rintro e w1 ⟨rfl, hb⟩
  have HBB := Lib.hid hb
  clear q0 q1 q2' q3 q4 q5 q6 q7 q8 q9 q10 ch cl cp
  have hS := S1.of (HB.out.below hb)
  clear hb
  go_wp2
  refine start_ (n := 23) (S := S1 id m u b c z s me o a l A1 hv.length c1 lost R Bc Bh Bl Br) (ds := []) (bq 23 0) (by kernel_rfl) rfl rfl (S1.drew hS) (fun hHeld => ?_); refine with_tabW (B := []) rfl (by kernel_rfl) (fun HT_ HW_ => ?_)
  clear hS
  apply pu 0 19 (bq 23 1) HT_
  apply pu 1 20 (bq 23 3) HT_
  apply pu 2 21 (bq 23 7) HT_
  apply pu 3 22 (bq 23 15) HT_
  apply tu 4 23 (bq 23 31) HT_ HW_ hHeld
  apply pu 5 24 (bq 23 63) HT_
  apply pu 6 25 (bq 23 127) HT_
  apply pu 7 26 (bq 23 255) HT_
  apply po 8 27 (bq 23 511) HT_
  apply po 9 28 (bq 23 1023) HT_
  apply pu 10 29 (bq 23 2047) HT_
  apply pu 11 30 (bq 23 4095) HT_
  apply po 12 31 (bq 23 8191) HT_
  apply po 13 32 (bq 23 16383) HT_
  apply po 14 33 (bq 23 32767) HT_
  apply po 15 34 (bq 23 65535) HT_
  apply po 16 35 (bq 23 131071) HT_
  apply po 17 36 (bq 23 262143) HT_
  apply po 18 37 (bq 23 524287) HT_
  apply po 19 38 (bq 23 1048575) HT_
  apply pu 20 39 (bq 23 2097151) HT_
  apply pu 21 40 (bq 23 4194303) HT_
  apply pu 22 7 (bq 23 8388607) HT_
  refine done_ (done_of HT_.out (by kernel_rfl)) ?_
  go_wp2
  go_ret
  exact ⟨rfl, HBB.out.drew⟩
set_option maxHeartbeats 1000000 in
set_option maxRecDepth 100000 in
theorem of1_at0 (id m u b c z s me o a l : Int) (A1 : Option Addr) (c1 : Nat) (hv : List Int) (lost : Int) (A3 : Option Addr) (c3 : Nat) (pars : List S71) (R : Int) (Bc Bh Bl Bp Br : Nat) (lb : Int) (w : World)
    (hB : OfBoxes id m u b c z s me o a l A1 hv.length c1 lost A3 pars.length c3 R Bc Bh Bl Bp Br w) (hr1 : Kd.C (Kd.int .i64) w A1 hv.length hv) (hc1 : hv.length ≤ c1) (hr3 : Kd.C k71 w A3 pars.length pars) (hc3 : pars.length ≤ c3)
    (qh q2 : Int) (hq : prefix_How.f (pars.length + 40) id m u b c z s me o a l hv lost pars lb = some (qh, q2)) (hne : qh ≠ 0) (h0 : lb = 0) (hR : 2 ≤ R) (hRb : R ≤ 960) :
    Calls Try.prog 83 #[.int .i64 lb, .pointer (some ⟨Bc, 0, none⟩), .pointer (some ⟨Bh, 0, none⟩), .pointer (some ⟨Bl, 0, none⟩), .pointer (some ⟨Bp, 0, none⟩), .pointer (some ⟨Br, 0, none⟩)] w fun e w' => e = .returned (.bool true) ∧ Below w.heap.size w w' := by
  have e1 : (qh != 0) = true := by simpa using hne
  have e2 : (Int.tmod lb R != 0) = false := by rw [h0]; simp
  have e3 : (R == 0) = false := beq_eq_false_iff_ne.mpr (by omega)
  have e4 : ¬ R = 0 := by omega
  have e5 : (lb == 0) = true := beq_iff_eq.mpr h0
  clear h0
  have HQ := Lib.hid hq
  have HB := Lib.hid hB
  have HR1 := Lib.hid hr1
  have HR3 := Lib.hid hr3
  have HC1 := Lib.hid hc1
  have HC3 := Lib.hid hc3
  obtain ⟨q0, q1, q2', q3, q4, q5, q6, q7, q8, q9, q10⟩ := cz11 hB.bc
  have ch := blk_cell hB.bh 0
  have cl := blk_cell hB.bl 0
  have cp := blk_cell hB.bp 0
  simp only [List.getElem?_toArray, List.getElem?_cons_zero] at ch cl cp
  clear hq hB hr1 hr3 hc1 hc3
  go_enter Try.func83, Try.ntmps83
  go_wp2_with fail
  refine (prefix_How.calls _ id m u b c z s me o a l A1 c1 hv lost A3 c3 pars lb _ _ _ HR1.out HC1.out HR3.out HC3.out HQ.out).mono ?_
  rintro e w1 ⟨rfl, hb⟩
  have HBB := Lib.hid hb
  clear q0 q1 q2' q3 q4 q5 q6 q7 q8 q9 q10 ch cl cp
  have hS := S1.of (HB.out.below hb)
  clear hb
  go_wp2
  refine start_ (n := 23) (S := S1 id m u b c z s me o a l A1 hv.length c1 lost R Bc Bh Bl Br) (ds := []) (bq 23 0) (by kernel_rfl) rfl rfl (S1.drew hS) (fun hHeld => ?_); refine with_tabW (B := []) rfl (by kernel_rfl) (fun HT_ HW_ => ?_)
  clear hS
  apply pu 0 19 (bq 23 1) HT_
  apply pu 1 20 (bq 23 3) HT_
  apply pu 2 21 (bq 23 7) HT_
  apply pu 3 22 (bq 23 15) HT_
  apply tu 4 23 (bq 23 31) HT_ HW_ hHeld
  apply pu 5 24 (bq 23 63) HT_
  apply pu 6 25 (bq 23 127) HT_
  apply pu 7 26 (bq 23 255) HT_
  apply pu 8 27 (bq 23 511) HT_
  apply pu 9 28 (bq 23 1023) HT_
  apply pu 10 29 (bq 23 2047) HT_
  apply pu 11 30 (bq 23 4095) HT_
  apply po 12 31 (bq 23 8191) HT_
  apply po 13 32 (bq 23 16383) HT_
  apply po 14 33 (bq 23 32767) HT_
  apply po 15 34 (bq 23 65535) HT_
  apply po 16 35 (bq 23 131071) HT_
  apply po 17 36 (bq 23 262143) HT_
  apply po 18 37 (bq 23 524287) HT_
  apply po 19 38 (bq 23 1048575) HT_
  apply pu 20 39 (bq 23 2097151) HT_
  apply pu 21 40 (bq 23 4194303) HT_
  apply pu 22 7 (bq 23 8388607) HT_
  refine done_ (done_of HT_.out (by kernel_rfl)) ?_
  go_wp2
  go_ret
  exact ⟨rfl, HBB.out.drew⟩
set_option maxHeartbeats 1000000 in
set_option maxRecDepth 100000 in
theorem of1_call (id m u b c z s me o a l : Int) (A1 : Option Addr) (c1 : Nat) (hv : List Int) (lost : Int) (A3 : Option Addr) (c3 : Nat) (pars : List S71) (R : Int) (Bc Bh Bl Bp Br : Nat) (lb : Int) (w : World)
    (hB : OfBoxes id m u b c z s me o a l A1 hv.length c1 lost A3 pars.length c3 R Bc Bh Bl Bp Br w) (hr1 : Kd.C (Kd.int .i64) w A1 hv.length hv) (hc1 : hv.length ≤ c1) (hr3 : Kd.C k71 w A3 pars.length pars) (hc3 : pars.length ≤ c3)
    (qh q2 : Int) (hq : prefix_How.f (pars.length + 40) id m u b c z s me o a l hv lost pars lb = some (qh, q2)) (hne : qh ≠ 0) (h0 : 0 ≤ lb) (hR : 2 ≤ R) (hRb : R ≤ 960) (hin : lb % R = 0) (hlb : lb ≠ 0) (rw : Bool) (hw : prefix_Whole.f id m u b c z s me o a l hv lost (wrap64 (wrap64 (Int.tdiv lb R) - 1)) = some rw) :
    Calls Try.prog 83 #[.int .i64 lb, .pointer (some ⟨Bc, 0, none⟩), .pointer (some ⟨Bh, 0, none⟩), .pointer (some ⟨Bl, 0, none⟩), .pointer (some ⟨Bp, 0, none⟩), .pointer (some ⟨Br, 0, none⟩)] w fun e w' => e = .returned (.bool rw) ∧ Below w.heap.size w w' := by
  have e1 : (qh != 0) = true := by simpa using hne
  have e2 : (Int.tmod lb R != 0) = false := by rw [Int.tmod_eq_emod_of_nonneg h0]; simpa using hin
  have e3 : (R == 0) = false := beq_eq_false_iff_ne.mpr (by omega)
  have e4 : ¬ R = 0 := by omega
  have e5 : (lb == 0) = false := beq_eq_false_iff_ne.mpr hlb
  have HW1 := Lib.hid hw
  clear hw
  have HQ := Lib.hid hq
  have HB := Lib.hid hB
  have HR1 := Lib.hid hr1
  have HR3 := Lib.hid hr3
  have HC1 := Lib.hid hc1
  have HC3 := Lib.hid hc3
  obtain ⟨q0, q1, q2', q3, q4, q5, q6, q7, q8, q9, q10⟩ := cz11 hB.bc
  have ch := blk_cell hB.bh 0
  have cl := blk_cell hB.bl 0
  have cp := blk_cell hB.bp 0
  simp only [List.getElem?_toArray, List.getElem?_cons_zero] at ch cl cp
  clear hq hB hr1 hr3 hc1 hc3
  go_enter Try.func83, Try.ntmps83
  go_wp2_with fail
  refine (prefix_How.calls _ id m u b c z s me o a l A1 c1 hv lost A3 c3 pars lb _ _ _ HR1.out HC1.out HR3.out HC3.out HQ.out).mono ?_
  rintro e w1 ⟨rfl, hb⟩
  have HBB := Lib.hid hb
  clear q0 q1 q2' q3 q4 q5 q6 q7 q8 q9 q10 ch cl cp
  replace HR1 := Lib.hid (Kd.C_below HR1.out (below_drew1 hb))
  have hS := S1.of (HB.out.below hb)
  clear hb
  go_wp2
  refine start_ (n := 23) (S := S1 id m u b c z s me o a l A1 hv.length c1 lost R Bc Bh Bl Br) (ds := []) (bq 23 0) (by kernel_rfl) rfl rfl (S1.drew hS) (fun hHeld => ?_); refine with_tabW (B := []) rfl (by kernel_rfl) (fun HT_ HW_ => ?_)
  clear hS
  apply pu 0 19 (bq 23 1) HT_
  apply pu 1 20 (bq 23 3) HT_
  apply pu 2 21 (bq 23 7) HT_
  apply pu 3 22 (bq 23 15) HT_
  apply tu 4 23 (bq 23 31) HT_ HW_ hHeld
  apply pu 5 24 (bq 23 63) HT_
  apply pu 6 25 (bq 23 127) HT_
  apply pu 7 26 (bq 23 255) HT_
  apply pu 8 27 (bq 23 511) HT_
  apply pu 9 28 (bq 23 1023) HT_
  apply pu 10 29 (bq 23 2047) HT_
  apply pu 11 30 (bq 23 4095) HT_
  apply tu 12 31 (bq 23 8191) HT_ HW_ hHeld
  apply tu 13 32 (bq 23 16383) HT_ HW_ hHeld
  apply tu 14 33 (bq 23 32767) HT_ HW_ hHeld
  apply pu 15 34 (bq 23 65535) HT_
  apply tu 16 35 (bq 23 131071) HT_ HW_ hHeld
  apply pu 17 36 (bq 23 262143) HT_
  apply pu 18 37 (bq 23 524287) HT_
  refine one_ (i := 19) (N := some 38) (bq 23 1048575) rfl rfl (one_of HT_.out (by kernel_rfl)) (by decide) (fun K hK => ?_)
  refine gs Try.func54 #[.agg #[.int .i64 id, .int .i64 m, .int .i64 u, .int .i64 b, .int .i64 c, .int .i64 z, .int .i64 s, .int .i64 me, .int .i64 o, .int .i64 a, .int .i64 l], .slice A1 hv.length c1, .int .i64 lost, .int .i64 (wrap64 (wrap64 (Int.tdiv lb R) - 1))] ?_
  refine (prefix_Whole.calls id m u b c z s me o a l A1 c1 hv lost _ rw _ HR1.out HC1.out HW1.out).mono ?_
  rintro e w2 ⟨rfl, hb2⟩
  refine ⟨_, rfl, ?_⟩
  have HBB2 := Lib.hid (below_step (below_drew1 HBB.out) hb2)
  refine hK.out _ _ (S1.below hb2 hHeld) (fun hHeld => ?_)
  clear hK K
  apply nm 0
  apply pu 20 39 (bq 23 2097151) HT_
  apply pu 21 40 (bq 23 4194303) HT_
  apply pu 22 7 (bq 23 8388607) HT_
  refine done_ (done_of HT_.out (by kernel_rfl)) ?_
  go_wp2
  go_ret
  exact ⟨rfl, HBB2.out⟩
/-- The closure, in all its ways. -/
theorem of1_any (id m u b c z s me o a l : Int) (A1 : Option Addr) (c1 : Nat) (hv : List Int) (lost : Int) (A3 : Option Addr) (c3 : Nat) (pars : List S71) (Bc Bh Bl Bp Br : Nat) (lb : Int) (w : World)
    (hb : rightB2 id m u b c z s me o a l hv = true) (h0 : 0 ≤ lb) (h1 : lb < sizeC m u b c z s me o a l)
    (hB : OfBoxes id m u b c z s me o a l A1 hv.length c1 lost A3 pars.length c3 ((m - 1) * u) Bc Bh Bl Bp Br w) (hr1 : Kd.C (Kd.int .i64) w A1 hv.length hv) (hc1 : hv.length ≤ c1) (hr3 : Kd.C k71 w A3 pars.length pars) (hc3 : pars.length ≤ c3) :
    Calls Try.prog 83 #[.int .i64 lb, .pointer (some ⟨Bc, 0, none⟩), .pointer (some ⟨Bh, 0, none⟩), .pointer (some ⟨Bl, 0, none⟩), .pointer (some ⟨Bp, 0, none⟩), .pointer (some ⟨Br, 0, none⟩)] w fun e w' => e = .returned (.bool (readB id m u b c z s me o a l hv lost pars lb)) ∧ Below w.heap.size w w' := by
  obtain ⟨h, hl⟩ := rightB2_out hb
  obtain ⟨g, hr, hs, hd, hz⟩ := good h
  have hp := Kd.C_max hr3
  have hq := how_ok id m u b c z s me o a l (pars.length + 40) hv lost pars (by omega) lb (Nat.le_refl _)
  have hZ := g.Z2; rw [← hz] at hZ
  obtain ⟨qh, q2, e⟩ : ∃ qh q2, howF id m u b c z s me o a l hv lost pars lb = (qh, q2) := ⟨_, _, rfl⟩
  rw [e] at hq
  have eq0 : readB id m u b c z s me o a l hv lost pars lb = (decide (qh ≠ 0) && (decide (lb % ((m - 1) * u) ≠ 0) || (decide (lb = 0) || wholeF id m u b c z s me o a l hv lost (lb / ((m - 1) * u) - 1)))) := by
    unfold readB; rw [e]
  rw [eq0]
  by_cases c1' : qh = 0
  · subst c1'
    simpa using of1_no id m u b c z s me o a l A1 c1 hv lost A3 c3 pars _ Bc Bh Bl Bp Br lb w hB hr1 hc1 hr3 hc3 q2 hq
  · by_cases c2 : lb % ((m - 1) * u) = 0
    · by_cases c3' : lb = 0
      · simpa [c1', c2, c3'] using of1_at0 id m u b c z s me o a l A1 c1 hv lost A3 c3 pars _ Bc Bh Bl Bp Br lb w hB hr1 hc1 hr3 hc3 qh q2 hq c1' c3' g.R1 g.R2
      · have d1 : 0 ≤ lb / ((m - 1) * u) := Int.ediv_nonneg h0 (by have := g.R1; omega)
        have d2 : lb / ((m - 1) * u) ≤ lb := Int.ediv_le_self _ h0
        have e6 : wrap64 (wrap64 (Int.tdiv lb ((m - 1) * u)) - 1) = lb / ((m - 1) * u) - 1 := by
          rw [Int.tdiv_eq_ediv_of_nonneg h0, Geo.wr (x := lb / ((m - 1) * u)) ⟨by omega, by omega⟩, Geo.wr ⟨by omega, by omega⟩]
        have := of1_call id m u b c z s me o a l A1 c1 hv lost A3 c3 pars _ Bc Bh Bl Bp Br lb w hB hr1 hc1 hr3 hc3 qh q2 hq c1' h0 g.R1 g.R2 c2 c3' _ (by rw [e6]; exact whole_ok id m u b c z s me o a l hv lost (lb / ((m - 1) * u) - 1))
        simpa [c1', c2, c3'] using this
    · simpa [c1', c2] using of1_in id m u b c z s me o a l A1 c1 hv lost A3 c3 pars _ Bc Bh Bl Bp Br lb w hB hr1 hc1 hr3 hc3 qh q2 hq c1' h0 g.R1 g.R2 c2
set_option maxHeartbeats 2000000 in
set_option maxRecDepth 100000 in
theorem prefixOf_any (id m u b c z s me o a l : Int) (A1 : Option Addr) (c1 : Nat) (hv : List Int) (lost : Int) (A3 : Option Addr) (c3 : Nat) (pars : List S71) (w : World)
    (hr1 : Kd.C (Kd.int .i64) w A1 hv.length hv) (hc1 : hv.length ≤ c1) (hr3 : Kd.C k71 w A3 pars.length pars) (hc3 : pars.length ≤ c3) :
    Calls Try.prog 48 #[.agg #[.int .i64 id, .int .i64 m, .int .i64 u, .int .i64 b, .int .i64 c, .int .i64 z, .int .i64 s, .int .i64 me, .int .i64 o, .int .i64 a, .int .i64 l], .slice A1 hv.length c1, .int .i64 lost, .slice A3 pars.length c3] w fun e w' => e = .returned (.int .i64 (prefixOf id m u b c z s me o a l hv lost pars)) ∧ Below w.heap.size w w' := by
  have HR1 := Lib.hid hr1
  have HR3 := Lib.hid hr3
  have HC1 := Lib.hid hc1
  have HC3 := Lib.hid hc3
  clear hr1 hr3 hc1 hc3
  by_cases hb : rightB2 id m u b c z s me o a l hv = true
  · have e0 : prefixOf id m u b c z s me o a l hv lost pars = cntB (readB id m u b c z s me o a l hv lost pars) (sizeC m u b c z s me o a l).toNat 0 := by unfold prefixOf; rw [if_pos hb]
    obtain ⟨r0, hr0⟩ : ∃ r0, r0 = prefixOf id m u b c z s me o a l hv lost pars := ⟨_, rfl⟩
    rw [← hr0] at e0 ⊢
    obtain ⟨h, hl⟩ := rightB2_out hb
    obtain ⟨g, hr, hs, hd, hz⟩ := good h
    have hZ2 := g.Z2; rw [← hz] at hZ2
    have hZ0 : 0 ≤ sizeC m u b c z s me o a l := by have := g.Z1; have := g.R1; omega
    have hrow : conf_Row.f id m u b c z s me o a l = some ((m - 1) * u) := by unfold conf_Row.f; rw [hr]
    have hsize : conf_Size.f id m u b c z s me o a l = some (sizeC m u b c z s me o a l) := size_eq id m u b c z s me o a l h
    obtain ⟨Z, hZ⟩ : ∃ Z, Z = sizeC m u b c z s me o a l := ⟨_, rfl⟩
    have hread : ∀ i : Int, 0 ≤ i → i < Z → ∀ (Bc Bh Bl Bp Br : Nat) (w' : World), OfBoxes id m u b c z s me o a l A1 hv.length c1 lost A3 pars.length c3 ((m - 1) * u) Bc Bh Bl Bp Br w' → Below w.heap.size w w' →
        Calls Try.prog 83 #[.int .i64 i, .pointer (some ⟨Bc, 0, none⟩), .pointer (some ⟨Bh, 0, none⟩), .pointer (some ⟨Bl, 0, none⟩), .pointer (some ⟨Bp, 0, none⟩), .pointer (some ⟨Br, 0, none⟩)] w' fun e w'' => e = .returned (.bool (readB id m u b c z s me o a l hv lost pars i)) ∧ Below w'.heap.size w' w'' :=
      fun i i0 i1 Bc Bh Bl Bp Br w' hB hb' => of1_any id m u b c z s me o a l A1 c1 hv lost A3 c3 pars Bc Bh Bl Bp Br i w' hb i0 (by omega) hB (Kd.C_below HR1.out hb') HC1.out (Kd.C_below HR3.out hb') HC3.out
    rw [← hZ] at hsize hZ2 hZ0 e0
    obtain ⟨f, hf⟩ : ∃ f, f = readB id m u b c z s me o a l hv lost pars := ⟨_, rfl⟩
    rw [← hf] at hread e0
    obtain ⟨R, hR⟩ : ∃ R, R = (m - 1) * u := ⟨_, rfl⟩
    rw [← hR] at hread hrow
    have HF := Lib.hid hread
    have HE := Lib.hid e0
    have HRO := Lib.hid hrow
    have HSI := Lib.hid hsize
    have HQ := Lib.hid (show prefix_right.f id m u b c z s me o a l hv = some true by rw [pright_eq, hb])
    clear hread e0 hrow hsize hb h hl g hr hs hd hz hZ hR hf hr0
    go_enter Try.func48, Try.ntmps48
    go_wp2_with fail
    refine (prefix_right.calls id m u b c z s me o a l A1 c1 hv true _ ?_ HC1.out HQ.out).mono ?_
    · exact Kd.C_below HR1.out (below_alloc (below_alloc (below_alloc (below_alloc (Below.refl _ w) _) _) _) _)
    rintro e w1 ⟨rfl, hb1⟩
    have bC := blk_below (blk_alloc (blk_alloc (blk_alloc (blk_new w (.cells #[.int .i64 id, .int .i64 m, .int .i64 u, .int .i64 b, .int .i64 c, .int .i64 z, .int .i64 s, .int .i64 me, .int .i64 o, .int .i64 a, .int .i64 l] 23)) (.cells #[.slice A1 hv.length c1] 34)) (.cells #[.int .i64 lost] 3)) (.cells #[.slice A3 pars.length c3] 57)) hb1
    have bH := blk_below (blk_alloc (blk_alloc (blk_new (w.alloc (.cells #[.int .i64 id, .int .i64 m, .int .i64 u, .int .i64 b, .int .i64 c, .int .i64 z, .int .i64 s, .int .i64 me, .int .i64 o, .int .i64 a, .int .i64 l] 23)) (.cells #[.slice A1 hv.length c1] 34)) (.cells #[.int .i64 lost] 3)) (.cells #[.slice A3 pars.length c3] 57)) hb1
    have bL := blk_below (blk_alloc (blk_new ((w.alloc (.cells #[.int .i64 id, .int .i64 m, .int .i64 u, .int .i64 b, .int .i64 c, .int .i64 z, .int .i64 s, .int .i64 me, .int .i64 o, .int .i64 a, .int .i64 l] 23)).alloc (.cells #[.slice A1 hv.length c1] 34)) (.cells #[.int .i64 lost] 3)) (.cells #[.slice A3 pars.length c3] 57)) hb1
    have bP := blk_below (blk_new (((w.alloc (.cells #[.int .i64 id, .int .i64 m, .int .i64 u, .int .i64 b, .int .i64 c, .int .i64 z, .int .i64 s, .int .i64 me, .int .i64 o, .int .i64 a, .int .i64 l] 23)).alloc (.cells #[.slice A1 hv.length c1] 34)).alloc (.cells #[.int .i64 lost] 3)) (.cells #[.slice A3 pars.length c3] 57)) hb1
    simp only [World.size_alloc] at bH bL bP
    have HB1 := Lib.hid (below_step (below_alloc (below_alloc (below_alloc (below_alloc (Below.refl _ w) _) _) _) _) hb1)
    obtain ⟨q0, q1, q2, q3, q4, q5, q6, q7, q8, q9, q10⟩ := cz11 bC
    have HBC := Lib.hid bC
    have HBH := Lib.hid bH
    have HBL := Lib.hid bL
    have HBP := Lib.hid bP
    clear hb1 bC bH bL bP
    go_wp2_with fail
    refine (conf_Row.calls id m u b c z s me o a l R _ HRO.out).mono ?_
    rintro e w2 ⟨rfl, hb2⟩
    replace HBC := Lib.hid (blk_below HBC.out hb2)
    replace HBH := Lib.hid (blk_below HBH.out hb2)
    replace HBL := Lib.hid (blk_below HBL.out hb2)
    replace HBP := Lib.hid (blk_below HBP.out hb2)
    replace HB1 := Lib.hid (below_step HB1.out hb2)
    clear hb2 q0 q1 q2 q3 q4 q5 q6 q7 q8 q9 q10
    go_wp2
    have HBX : Hid (OfBoxes id m u b c z s me o a l A1 hv.length c1 lost A3 pars.length c3 R w.heap.size (w.heap.size + 1) (w.heap.size + 1 + 1) (w.heap.size + 1 + 1 + 1) w2.heap.size (w2.alloc (.cells #[.int .i64 R] 3))) := Lib.hid ⟨blk_alloc HBC.out _, blk_alloc HBH.out _, blk_alloc HBL.out _, blk_alloc HBP.out _, blk_new w2 _⟩
    have HB2 := Lib.hid (below_alloc HB1.out (.cells #[.int .i64 R] 3))
    have HE2 : Hid (cntB f (Z.toNat - 0) ((0 : Nat) : Int) = r0) := Lib.hid (by simpa using HE.out.symm)
    clear HBC HBH HBL HBP HB1 HE HRO HQ
    go_loopw [11] (fun v11 wr => ∃ i : Nat, v11 = .int .i64 i ∧ i ≤ Z.toNat ∧ Hid (cntB f (Z.toNat - i) (i : Int) = r0) ∧ Hid (OfBoxes id m u b c z s me o a l A1 hv.length c1 lost A3 pars.length c3 R w.heap.size (w.heap.size + 1) (w.heap.size + 1 + 1) (w.heap.size + 1 + 1 + 1) w2.heap.size wr) ∧ Hid (Below w.heap.size w wr)) (fun v11 _ => (Z - intOf v11).toNat)
    case atStart => exact ⟨0, rfl, by omega, HE2, HBX, HB2⟩
    case round =>
      clear HBX HB2 HE2
      obtain ⟨i, rfl, hi, HC, HX, HBW⟩ := hrel
      obtain ⟨q0, q1, q2, q3, q4, q5, q6, q7, q8, q9, q10⟩ := cz11 HX.out.bc
      by_cases hlt : (i : Int) < Z
      · go_wp2_with fail
        refine (conf_Size.calls id m u b c z s me o a l Z _ HSI.out).mono ?_
        rintro e w3 ⟨rfl, hb3⟩
        have HX3 := Lib.hid (HX.out.below hb3)
        have HBW3 := Lib.hid (below_step HBW.out hb3)
        clear hb3 q0 q1 q2 q3 q4 q5 q6 q7 q8 q9 q10 HX HBW
        go_wp2_with fail
        refine (HF.out i (by omega) hlt _ _ _ _ _ _ HX3.out HBW3.out).mono ?_
        rintro e w4 ⟨rfl, hb4⟩
        have HX4 := Lib.hid (HX3.out.below hb4)
        have HBW4 := Lib.hid (below_step HBW3.out hb4)
        have hstep : cntB f (Z.toNat - i) (i : Int) = if f (i : Int) = true then cntB f (Z.toNat - (i + 1)) ((i : Int) + 1) else i := by
          rw [show Z.toNat - i = (Z.toNat - (i + 1)) + 1 by omega]; rfl
        have HST := Lib.hid hstep
        clear hb4 hstep HX3 HBW3
        rcases hfi : f (i : Int) with _ | _
        · have HFI := Lib.hid hfi
          clear hfi
          go_wp2
          go_ret
          refine ⟨?_, HBW4.out⟩
          have := HC.out
          rw [HST.out, HFI.out, if_neg (by decide)] at this
          rw [this]; rfl
        · have HFI := Lib.hid hfi
          clear hfi
          go_wp2
          go_roundw
          case rel =>
            refine ⟨i + 1, by go_num, by omega, Lib.hid ?_, HX4, HBW4⟩
            have := HC.out
            rw [HST.out, HFI.out, if_pos rfl] at this
            push_cast
            exact this
          case measure => simp [intOf]; omega
      · go_wp2_with fail
        refine (conf_Size.calls id m u b c z s me o a l Z _ HSI.out).mono ?_
        rintro e w3 ⟨rfl, hb3⟩
        have HBW3 := Lib.hid (below_step HBW.out hb3)
        clear hb3 q0 q1 q2 q3 q4 q5 q6 q7 q8 q9 q10 HX HBW
        go_wp2
        go_ret
        refine ⟨?_, HBW3.out⟩
        have := HC.out
        rw [show Z.toNat - i = 0 by omega] at this
        rw [← this]; rfl
  · have e0 : prefixOf id m u b c z s me o a l hv lost pars = 0 := by unfold prefixOf; rw [if_neg hb]
    have HQ := Lib.hid (show prefix_right.f id m u b c z s me o a l hv = some false by rw [pright_eq]; simp [hb])
    rw [e0]
    clear hb e0
    go_enter Try.func48, Try.ntmps48
    go_wp2_with fail
    refine (prefix_right.calls id m u b c z s me o a l A1 c1 hv false _ ?_ HC1.out HQ.out).mono ?_
    · exact Kd.C_below HR1.out (below_alloc (below_alloc (below_alloc (below_alloc (Below.refl _ w) _) _) _) _)
    rintro e w1 ⟨rfl, hb1⟩
    have HB1 := Lib.hid (below_step (below_alloc (below_alloc (below_alloc (below_alloc (Below.refl _ w) _) _) _) _) hb1)
    clear hb1
    go_wp2
    go_ret
    exact ⟨rfl, HB1.out⟩
end Go.Proofs.Ytekihhbihnmakaa
