/- The walk of revetmentlaw17.LzoneLoads. -/
import Derived.WalkKit
import Derived.WalkSpells
import Derived.WalkLawsBesides
import Derived.Lib.Hide
import Derived.Test.YtlellnmpogimlaaLzLive
import Derived.Test.YtlellnmpogimlaaLzLoadsLaw
import Derived.Test.YtlellnmpogimlaaPLx10
import Derived.Test.YtlellnmpogimlaaPLx12
import Derived.Test.YtlellnmpogimlaaPLx14
import Derived.Test.YtlellnmpogimlaaPLx15
namespace Go.Proofs.Ytlellnmpogimlaa
-- lzone_Load.calls revetmentref17_Load.calls revetmentref17_Same.calls revetmentref07_Check.calls
open Go.RowKit Go.Proofs.Ytlellnmpogimlaa.PL Go.Proofs.YtlellnmpogimlaaW.PrintWords Go.Proofs.YtlellnmpogimlaaW.PrintLast
set_option linter.unusedVariables false
set_option linter.unusedSimpArgs false
theorem same_any (M : List S57) (A1 : Option Addr) (k1 : Nat) (A3 : Option Addr) (k3 : Nat) (W : World) (h1 : Kd.C k57 W A1 M.length M) (g1 : M.length ≤ k1) (h3 : Kd.C k57 W A3 M.length M) (g3 : M.length ≤ k3) (hl : M.length ≤ 1000000) :
    Calls Try.prog 13 #[.slice A1 M.length k1, .slice A3 M.length k3] W fun e w' => e = .returned (.bool true) ∧ Below W.heap.size W w' := by
  refine (revetmentref17_Same.calls (M.length + 1) A1 k1 M A3 k3 M true W h1 g1 h3 g3 ?_).mono ?_
  · unfold revetmentref17_Same.f
    rw [if_pos rfl]
    have := Geo.same_loop M hl M.length 0 (M.length + 1) (by omega) (by omega)
    exact this
  · rintro e w' ⟨rfl, nd, rfl⟩
    exact ⟨rfl, pw_below_drewN (Below.refl _ _) nd⟩
abbrev cfO (id m u b c z s me o a l : Int) : Obj := .cells #[.int .i64 id, .int .i64 m, .int .i64 u, .int .i64 b, .int .i64 c, .int .i64 z, .int .i64 s, .int .i64 me, .int .i64 o, .int .i64 a, .int .i64 l] 23
abbrev rtabO (id m u b c z s me o a l : Int) (v : Value) : Obj := .cells #[.int .i64 id, .int .i64 m, .int .i64 u, .int .i64 b, .int .i64 c, .int .i64 z, .int .i64 s, .int .i64 me, .int .i64 o, .int .i64 a, .int .i64 l, v] 34
def T3_5 : Bool × List (List Nat × List Nat) := (true, [([], []), ([0], [0]), ([], []), ([2, 1], [2]), ([1, 3], [1, 3]), ([4, 3], [4]), ([5], [5]), ([6, 5], [5, 6]), ([7, 5], [5, 7]), ([8, 5], [5, 8]), ([5, 9], [5, 9]), ([10, 5], [10]), ([11, 11], [11]), ([11, 12], [11, 12]), ([13, 12, 0, 1, 2, 3, 4, 5, 6, 7, 8, 9, 10, 11, 12, 13], [13])])
theorem tab3_5 : rtab .any (opsOf Try.f3 5) = T3_5 := by kernel_rfl
theorem bits3_5 : waitsOk T3_5.2 [0, 1, 0, 7, 15, 31, 63, 127, 255, 511, 1023, 2047, 4095, 8191, 16383] = true := by kernel_rfl
set_option maxHeartbeats 4000000 in
set_option maxRecDepth 100000 in
theorem loads_many (id m u b c z s me o a l : Int) (Aa : Option Addr) (ca : Nat) (xs : List S57) (w : World) (hr : Kd.C k57 w Aa xs.length xs) (hc : xs.length ≤ ca) (h80 : 80 < (xs.length : Int)) :
    Calls Try.prog 3 #[.agg #[.int .i64 id, .int .i64 m, .int .i64 u, .int .i64 b, .int .i64 c, .int .i64 z, .int .i64 s, .int .i64 me, .int .i64 o, .int .i64 a, .int .i64 l], .slice Aa xs.length ca] w fun e w' => e = .returned (.bool true) ∧ Below w.heap.size w w' := by
  obtain ⟨n, hn⟩ : ∃ n, n = xs.length := ⟨_, rfl⟩
  rw [← hn] at hr h80 ⊢
  have HX := Lib.hid hr; have Hn := Lib.hid hn
  have H := al1 w (cfO id m u b c z s me o a l)
  have C0 := Lib.hid H.1; have HB0 := Lib.hid H.2; clear H
  obtain ⟨t0, t1, t2, t3, t4, t5, t6, t7, t8, t9, t10⟩ := cz11 C0.out
  clear hr hn
  go_enter Try.func3, Try.ntmps3
  go_wp2_with first
    | (go_at_call 7; refine (live_any _).mono ?_; rintro e w9 ⟨rfl, hb⟩; have HB9 := Lib.hid (below_step HB0.out hb); clear hb)
  go_ret
  exact ⟨rfl, HB9.out⟩
set_option maxHeartbeats 4000000 in
set_option maxRecDepth 100000 in
theorem loads_no (id m u b c z s me o a l : Int) (Aa : Option Addr) (ca : Nat) (xs : List S57) (E : Int) (w : World) (hr : Kd.C k57 w Aa xs.length xs) (hc : xs.length ≤ ca) (h80 : ¬ 80 < (xs.length : Int)) (hk0 : ¬ E = 0)
    (hL : ∀ W, Kd.C k57 W Aa xs.length xs → Calls Try.prog 8 #[.agg #[.int .i64 id, .int .i64 m, .int .i64 u, .int .i64 b, .int .i64 c, .int .i64 z, .int .i64 s, .int .i64 me, .int .i64 o, .int .i64 a, .int .i64 l], .slice Aa xs.length ca] W fun e w' => ∃ v, e = .returned (.tuple #[tabV 0 0 0 0 0 0 0 0 0 0 0 v, .int .i64 E]) ∧ Kd.R k57 57 w' W.heap.size (fun _ => True) v [] ∧ Below W.heap.size W w')
    (hK : ∀ W, Calls Try.prog 9 #[.agg #[.int .i64 id, .int .i64 m, .int .i64 u, .int .i64 b, .int .i64 c, .int .i64 z, .int .i64 s, .int .i64 me, .int .i64 o, .int .i64 a, .int .i64 l]] W fun e w' => e = .returned (.int .i64 E) ∧ Below W.heap.size W w') :
    Calls Try.prog 3 #[.agg #[.int .i64 id, .int .i64 m, .int .i64 u, .int .i64 b, .int .i64 c, .int .i64 z, .int .i64 s, .int .i64 me, .int .i64 o, .int .i64 a, .int .i64 l], .slice Aa xs.length ca] w fun e w' => e = .returned (.bool true) ∧ Below w.heap.size w w' := by
  have kb : (E == 0) = false := beq_eq_false_iff_ne.mpr hk0
  clear hk0
  obtain ⟨n, hn⟩ : ∃ n, n = xs.length := ⟨_, rfl⟩
  rw [← hn] at hr hL h80 ⊢
  have HX := Lib.hid hr; have Hn := Lib.hid hn
  have HL := Lib.hid hL; have HK := Lib.hid hK
  have H := al1 w (cfO id m u b c z s me o a l)
  have C0 := Lib.hid H.1; have HB0 := Lib.hid H.2; clear H
  obtain ⟨t0, t1, t2, t3, t4, t5, t6, t7, t8, t9, t10⟩ := cz11 C0.out
  clear hr hn hL hK
  go_enter Try.func3, Try.ntmps3
  go_wp2_with first
    | (go_at_call 8; refine (HL.out _ (Kd.C_below HX.out HB0.out)).mono ?_; rintro e w1 ⟨v, rfl, hR, hb⟩; obtain ⟨A1, k1, rfl⟩ := Kd.R_slice hR; simp only [List.length_nil] at hR; have HR1 := Lib.hid (Kd.R_alloc (Kd.R_lower hR HB0.out.size) (tabO 0 0 0 0 0 0 0 0 0 0 0 (.slice A1 0 k1))); have X1 := Lib.hid (blk_new w1 (tabO 0 0 0 0 0 0 0 0 0 0 0 (.slice A1 0 k1))); have C1 := Lib.hid (blk_alloc (blk_below C0.out hb) (tabO 0 0 0 0 0 0 0 0 0 0 0 (.slice A1 0 k1))); have HB1 := Lib.hid (below_alloc (below_step HB0.out hb) (tabO 0 0 0 0 0 0 0 0 0 0 0 (.slice A1 0 k1))); have hlt1 := blk_lt (blk_below C0.out hb); clear hb hR; obtain ⟨c0, c1, c2, c3, c4, c5, c6, c7, c8, c9, c10⟩ := cz11 C1.out; have n1 : w1.heap.size ≠ w.heap.size := (by omega); have n1s : w.heap.size ≠ w1.heap.size := (by omega))
    | (go_at_call 9; refine (HK.out _).mono ?_; rintro e w2 ⟨rfl, hb⟩; have HR2 := Lib.hid (Kd.R_below HR1.out hb); have X2 := Lib.hid (blk_below X1.out hb); have C2 := Lib.hid (blk_below C1.out hb); have HB2 := Lib.hid (below_step HB1.out hb); clear hb; obtain ⟨d0, d1, d2, d3, d4, d5, d6, d7, d8, d9, d10⟩ := cz11 C2.out)
  refine start_ (n := 15) (S := (fun W => W.cell? ⟨w.heap.size, 0, none⟩ = some (.int .i64 id) ∧ W.cell? ⟨w.heap.size, 1, none⟩ = some (.int .i64 m) ∧ W.cell? ⟨w.heap.size, 2, none⟩ = some (.int .i64 u) ∧ W.cell? ⟨w.heap.size, 3, none⟩ = some (.int .i64 b) ∧ W.cell? ⟨w.heap.size, 4, none⟩ = some (.int .i64 c) ∧ W.cell? ⟨w.heap.size, 5, none⟩ = some (.int .i64 z) ∧ W.cell? ⟨w.heap.size, 6, none⟩ = some (.int .i64 s) ∧ W.cell? ⟨w.heap.size, 7, none⟩ = some (.int .i64 me) ∧ W.cell? ⟨w.heap.size, 8, none⟩ = some (.int .i64 o) ∧ W.cell? ⟨w.heap.size, 9, none⟩ = some (.int .i64 a) ∧ W.cell? ⟨w.heap.size, 10, none⟩ = some (.int .i64 l) ∧ W.cell? ⟨w1.heap.size, 11, none⟩ = some (.slice A1 0 k1))) (ds := []) (bq 15 0) (by kernel_rfl) rfl (by kernel_rfl) ⟨(blk_cell (blk_drew C2.out) 0).trans rfl, (blk_cell (blk_drew C2.out) 1).trans rfl, (blk_cell (blk_drew C2.out) 2).trans rfl, (blk_cell (blk_drew C2.out) 3).trans rfl, (blk_cell (blk_drew C2.out) 4).trans rfl, (blk_cell (blk_drew C2.out) 5).trans rfl, (blk_cell (blk_drew C2.out) 6).trans rfl, (blk_cell (blk_drew C2.out) 7).trans rfl, (blk_cell (blk_drew C2.out) 8).trans rfl, (blk_cell (blk_drew C2.out) 9).trans rfl, (blk_cell (blk_drew C2.out) 10).trans rfl, (blk_cell (blk_drew X2.out) 11).trans rfl⟩ (fun hHeld => ?_)
  refine with_tabW tab3_5 bits3_5 (fun HT_ HW_ => ?_)
  apply pu 0 24 (bq 15 1) HT_
  apply tu 2 26 (bq 15 5) HT_ HW_ hHeld
  refine one_ (i := 1) (N := some 25) (bq 15 7) rfl rfl (one_of HT_.out (by kernel_rfl)) (by decide) (fun K hK => ?_)
  refine gs Try.func10 #[.int .i64 E] ?_
  refine (code_any _ _).mono ?_
  rintro e w3 ⟨rfl, hb⟩
  refine ⟨_, rfl, ?_⟩
  have X3 := Lib.hid (blk_below (blk_drew X2.out) hb); have C3 := Lib.hid (blk_below (blk_drew C2.out) hb); have HB3 := Lib.hid (below_step (below_drew1 HB2.out) hb); clear hb
  refine hK.out _ _ ⟨(blk_cell C3.out 0).trans rfl, (blk_cell C3.out 1).trans rfl, (blk_cell C3.out 2).trans rfl, (blk_cell C3.out 3).trans rfl, (blk_cell C3.out 4).trans rfl, (blk_cell C3.out 5).trans rfl, (blk_cell C3.out 6).trans rfl, (blk_cell C3.out 7).trans rfl, (blk_cell C3.out 8).trans rfl, (blk_cell C3.out 9).trans rfl, (blk_cell C3.out 10).trans rfl, (blk_cell X3.out 11).trans rfl⟩ (fun hHeld => ?_)
  clear hK K
  apply nm 0
  refine one_ (i := 3) (N := some 27) (bq 15 15) rfl rfl (one_of HT_.out (by kernel_rfl)) (by decide) (fun K hK => ?_)
  refine gs Try.func9 #[.agg #[.int .i64 id, .int .i64 m, .int .i64 u, .int .i64 b, .int .i64 c, .int .i64 z, .int .i64 s, .int .i64 me, .int .i64 o, .int .i64 a, .int .i64 l]] ?_
  refine (HK.out _).mono ?_
  rintro e w4 ⟨rfl, hb⟩
  refine ⟨_, rfl, ?_⟩
  have X4 := Lib.hid (blk_below X3.out hb); have C4 := Lib.hid (blk_below C3.out hb); have HB4 := Lib.hid (below_step HB3.out hb); clear hb
  refine hK.out _ _ ⟨(blk_cell C4.out 0).trans rfl, (blk_cell C4.out 1).trans rfl, (blk_cell C4.out 2).trans rfl, (blk_cell C4.out 3).trans rfl, (blk_cell C4.out 4).trans rfl, (blk_cell C4.out 5).trans rfl, (blk_cell C4.out 6).trans rfl, (blk_cell C4.out 7).trans rfl, (blk_cell C4.out 8).trans rfl, (blk_cell C4.out 9).trans rfl, (blk_cell C4.out 10).trans rfl, (blk_cell X4.out 11).trans rfl⟩ (fun hHeld => ?_)
  clear hK K
  apply nm 0
  apply pu 4 28 (bq 15 31) HT_
  apply pu 5 29 (bq 15 63) HT_
  apply pu 6 30 (bq 15 127) HT_
  apply tu 7 31 (bq 15 255) HT_ HW_ hHeld
  apply pu 8 32 (bq 15 511) HT_
  apply pu 9 33 (bq 15 1023) HT_
  apply pu 10 34 (bq 15 2047) HT_
  apply pu 11 35 (bq 15 4095) HT_
  refine one_ (i := 12) (N := some 36) (bq 15 8191) rfl rfl (one_of HT_.out (by kernel_rfl)) (by decide) (fun K hK => ?_)
  refine gs Try.func7 #[] ?_
  refine (live_any _).mono ?_
  rintro e w5 ⟨rfl, hb⟩
  refine ⟨_, rfl, ?_⟩
  have X5 := Lib.hid (blk_below X4.out hb); have C5 := Lib.hid (blk_below C4.out hb); have HB5 := Lib.hid (below_step HB4.out hb); clear hb
  refine hK.out _ _ ⟨(blk_cell C5.out 0).trans rfl, (blk_cell C5.out 1).trans rfl, (blk_cell C5.out 2).trans rfl, (blk_cell C5.out 3).trans rfl, (blk_cell C5.out 4).trans rfl, (blk_cell C5.out 5).trans rfl, (blk_cell C5.out 6).trans rfl, (blk_cell C5.out 7).trans rfl, (blk_cell C5.out 8).trans rfl, (blk_cell C5.out 9).trans rfl, (blk_cell C5.out 10).trans rfl, (blk_cell X5.out 11).trans rfl⟩ (fun hHeld => ?_)
  clear hK K
  apply nm 0
  apply pu 13 37 (bq 15 16383) HT_
  apply pu 14 4 (bq 15 32767) HT_
  refine done_ (done_of HT_.out (by kernel_rfl)) ?_
  go_wp2
  go_ret
  exact ⟨rfl, HB5.out⟩
set_option maxHeartbeats 4000000 in
set_option maxRecDepth 100000 in
theorem loads_yes (id m u b c z s me o a l : Int) (Aa : Option Addr) (ca : Nat) (xs : List S57) (q0 q1 q2 q3 q4 q5 q6 q7 q8 q9 q10 E : Int) (M : List S57) (w : World) (hr : Kd.C k57 w Aa xs.length xs) (hc : xs.length ≤ ca) (h80 : ¬ 80 < (xs.length : Int)) (hM : M.length ≤ 1000000) (hcn : cntZ 1 1 M = 0)
    (hL : ∀ W, Kd.C k57 W Aa xs.length xs → Calls Try.prog 8 #[.agg #[.int .i64 id, .int .i64 m, .int .i64 u, .int .i64 b, .int .i64 c, .int .i64 z, .int .i64 s, .int .i64 me, .int .i64 o, .int .i64 a, .int .i64 l], .slice Aa xs.length ca] W fun e w' => ∃ v, e = .returned (.tuple #[tabV q0 q1 q2 q3 q4 q5 q6 q7 q8 q9 q10 v, .int .i64 E]) ∧ Kd.R k57 57 w' W.heap.size (fun _ => True) v M ∧ Below W.heap.size W w')
    (hRL : ∀ W, Kd.C k57 W Aa xs.length xs → Calls Try.prog 11 #[.agg #[.int .i64 id, .int .i64 m, .int .i64 u, .int .i64 b, .int .i64 c, .int .i64 z, .int .i64 s, .int .i64 me, .int .i64 o, .int .i64 a, .int .i64 l], .slice Aa xs.length ca] W fun e w' => ∃ v, e = .returned (.tuple #[tabV q0 q1 q2 q3 q4 q5 q6 q7 q8 q9 q10 v, .int .i64 E]) ∧ Kd.R k57 57 w' W.heap.size (fun _ => True) v M ∧ Below W.heap.size W w')
    (hK : ∀ W, Calls Try.prog 9 #[.agg #[.int .i64 id, .int .i64 m, .int .i64 u, .int .i64 b, .int .i64 c, .int .i64 z, .int .i64 s, .int .i64 me, .int .i64 o, .int .i64 a, .int .i64 l]] W fun e w' => e = .returned (.int .i64 0) ∧ Below W.heap.size W w') :
    Calls Try.prog 3 #[.agg #[.int .i64 id, .int .i64 m, .int .i64 u, .int .i64 b, .int .i64 c, .int .i64 z, .int .i64 s, .int .i64 me, .int .i64 o, .int .i64 a, .int .i64 l], .slice Aa xs.length ca] w fun e w' => e = .returned (.bool true) ∧ Below w.heap.size w w' := by
  obtain ⟨n, hn⟩ : ∃ n, n = xs.length := ⟨_, rfl⟩
  rw [← hn] at hr hL hRL h80 ⊢
  have HX := Lib.hid hr; have Hn := Lib.hid hn
  have HL := Lib.hid hL; have HRL := Lib.hid hRL; have HK := Lib.hid hK
  have H := al1 w (cfO id m u b c z s me o a l)
  have C0 := Lib.hid H.1; have HB0 := Lib.hid H.2; clear H
  obtain ⟨t0, t1, t2, t3, t4, t5, t6, t7, t8, t9, t10⟩ := cz11 C0.out
  clear hr hn hL hRL hK
  have HCN := Lib.hid hcn; have HML := Lib.hid hM; clear hcn hM
  go_enter Try.func3, Try.ntmps3
  go_wp2_with first
    | (go_at_call 8; refine (HL.out _ (Kd.C_below HX.out HB0.out)).mono ?_; rintro e w1 ⟨v, rfl, hR, hb⟩; obtain ⟨A1, k1, rfl⟩ := Kd.R_slice hR; have HR1 := Lib.hid (Kd.R_alloc (Kd.R_lower hR HB0.out.size) (tabO q0 q1 q2 q3 q4 q5 q6 q7 q8 q9 q10 (.slice A1 M.length k1))); have X1 := Lib.hid (blk_new w1 (tabO q0 q1 q2 q3 q4 q5 q6 q7 q8 q9 q10 (.slice A1 M.length k1))); have C1 := Lib.hid (blk_alloc (blk_below C0.out hb) (tabO q0 q1 q2 q3 q4 q5 q6 q7 q8 q9 q10 (.slice A1 M.length k1))); have HB1 := Lib.hid (below_alloc (below_step HB0.out hb) (tabO q0 q1 q2 q3 q4 q5 q6 q7 q8 q9 q10 (.slice A1 M.length k1))); have hlt1 := blk_lt (blk_below C0.out hb); clear hb hR; obtain ⟨c0, c1, c2, c3, c4, c5, c6, c7, c8, c9, c10⟩ := cz11 C1.out; have n1 : w1.heap.size ≠ w.heap.size := (by omega); have n1s : w.heap.size ≠ w1.heap.size := (by omega))
    | (go_at_call 9; refine (HK.out _).mono ?_; rintro e w2 ⟨rfl, hb⟩; have HR2 := Lib.hid (Kd.R_below HR1.out hb); have X2 := Lib.hid (blk_below X1.out hb); have C2 := Lib.hid (blk_below C1.out hb); have HB2 := Lib.hid (below_step HB1.out hb); clear hb; obtain ⟨d0, d1, d2, d3, d4, d5, d6, d7, d8, d9, d10⟩ := cz11 C2.out)
    | (go_at_call 11; refine (HRL.out _ (Kd.C_below HX.out HB2.out)).mono ?_; rintro e w3 ⟨v, rfl, hS, hb⟩; obtain ⟨A3, k3, rfl⟩ := Kd.R_slice hS; have HR3 := Lib.hid (Kd.R_alloc (Kd.R_below HR2.out hb) (rtabO q0 q1 q2 q3 q4 q5 q6 q7 q8 q9 q10 (.slice A3 M.length k3))); have HS3 := Lib.hid (Kd.R_alloc (Kd.R_lower hS HB2.out.size) (rtabO q0 q1 q2 q3 q4 q5 q6 q7 q8 q9 q10 (.slice A3 M.length k3))); have X3 := Lib.hid (blk_alloc (blk_below X2.out hb) (rtabO q0 q1 q2 q3 q4 q5 q6 q7 q8 q9 q10 (.slice A3 M.length k3))); have C3 := Lib.hid (blk_alloc (blk_below C2.out hb) (rtabO q0 q1 q2 q3 q4 q5 q6 q7 q8 q9 q10 (.slice A3 M.length k3))); have Y3 := Lib.hid (blk_new w3 (rtabO q0 q1 q2 q3 q4 q5 q6 q7 q8 q9 q10 (.slice A3 M.length k3))); have HB3 := Lib.hid (below_alloc (below_step HB2.out hb) (rtabO q0 q1 q2 q3 q4 q5 q6 q7 q8 q9 q10 (.slice A3 M.length k3))); clear hb hS; obtain ⟨x0, x1, x2, x3, x4, x5, x6, x7, x8, x9, x10, x11⟩ := cz12 X3.out)
    | (go_at_call 12; refine (counts_any q0 q1 q2 q3 q4 q5 q6 q7 q8 q9 q10 A1 k1 M _ (Kd.R_reads' HR3.out).2.2 (Kd.R_reads' HR3.out).2.1).mono ?_; rintro e w4 ⟨rfl, hb⟩; rw [HCN.out]; have HR4 := Lib.hid (Kd.R_below HR3.out hb); have X4 := Lib.hid (blk_below X3.out hb); have C4 := Lib.hid (blk_below C3.out hb); have HB4 := Lib.hid (below_step HB3.out hb); have HS4 := Lib.hid (Kd.R_below HS3.out hb); have Y4 := Lib.hid (blk_below Y3.out hb); clear hb)
    | (go_at_call 10; refine (code_any _ _).mono ?_; rintro e w5 ⟨rfl, hb⟩; have HR5 := Lib.hid (Kd.R_below HR4.out hb); have X5 := Lib.hid (blk_below X4.out hb); have C5 := Lib.hid (blk_below C4.out hb); have HB5 := Lib.hid (below_step HB4.out hb); have HS5 := Lib.hid (Kd.R_below HS4.out hb); have Y5 := Lib.hid (blk_below Y4.out hb); clear hb; obtain ⟨y0, y1, y2, y3, y4, y5, y6, y7, y8, y9, y10, y11⟩ := cz12 X5.out; obtain ⟨z0, z1, z2, z3, z4, z5, z6, z7, z8, z9, z10, z11⟩ := cz12 Y5.out)
    | (go_at_call 13; refine (same_any M A1 k1 A3 k3 _ (Kd.R_reads' HR5.out).2.2 (Kd.R_reads' HR5.out).2.1 (Kd.R_reads' HS5.out).2.2 (Kd.R_reads' HS5.out).2.1 HML.out).mono ?_; rintro e w6 ⟨rfl, hb⟩; have HB6 := Lib.hid (below_step HB5.out hb); clear hb)
    | (go_at_call 7; refine (live_any _).mono ?_; rintro e w9 ⟨rfl, hb⟩; have HB9 := Lib.hid (below_step HB6.out hb); clear hb)
  go_ret
  exact ⟨rfl, HB9.out⟩
end Go.Proofs.Ytlellnmpogimlaa
