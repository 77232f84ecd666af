/- SortStableFunc of 40 at most. -/
/- The sort at runs; slices.DeleteFunc of runs: those that are kept. -/
/- slices.Clone of runs: the same runs, a row of one's own. -/
/- extent.Merge: what it hands back, for 40 runs at most. -/
import Derived.Test.YtbjpjddhkpnofaaSrtB
import Derived.WalkKit
import Derived.WalkSpells
import Derived.WalkLawsBesides
import Derived.Lib.SliceRun
import Derived.Test.YtbjpjddhkpnofaaPAx10
import Derived.Lib.Hide
import Derived.Test.YtbjpjddhkpnofaaPAx0
import Derived.Deep.QuietTactic
import Derived.BigQuiet
namespace Go.Proofs.Ytbjpjddhkpnofaa
open Go.Shelf Go.RowKit Go.Lib Go.Sort Go.Proofs.Stab
set_option linter.unusedVariables false
set_option linter.unusedSimpArgs false
set_option linter.unusedSectionVars false
variable {P : Program} {α : Type} [Inhabited α] {enc : α → List Value} {k : Nat} {w0 W : World} {blk off : Nat} {d : Array α}
theorem size_ins (cf : α → α → Int) (d : Array α) (a b : Nat) (h : b ≤ d.size) : (insertionSort (ltOf cf) d a b).size = d.size := (ins_st a b d h).1
theorem ins_id (cf : α → α → Int) (d : Array α) (a : Nat) : insertionSort (ltOf cf) d a a = d := by unfold insertionSort insOuter; rw [if_neg (by omega)]
set_option maxHeartbeats 4000000 in
set_option maxRecDepth 1000000 in
theorem stable_any (L : Lays P k) (R : RK enc k) (cf : α → α → Int) (g : Nat) (cb : Array Value) (eg : ∀ args w, (callFunc g args).run P w = .ok (.enter g args) w) (hcmp : CmpOk P g cb enc cf) (cap : Nat) (S : SW enc k w0 blk off d W) (h40 : d.size ≤ 40) :
    Calls P 34 #[.slice (some ⟨blk, off, none⟩) d.size cap, .int .i64 d.size, .func (.func g) #[] cb] W fun e w' => e = .returned (.tuple #[]) ∧ SW enc k w0 blk off (stab (ltOf cf) d) w' := by
  have mixed := L.mixed; have aE := L.aE; have zE := L.zE; have t0 := L.t0; have a0 := L.a0; have z0 := L.z0; have v0 := L.v0; have t3 := L.t3; have a3 := L.a3; have z3 := L.z3; have v3 := L.v3; have t4 := L.t4; have a4 := L.a4; have z4 := L.z4; have v4 := L.v4; have t22 := L.t22; have a22 := L.a22; have z22 := L.z22; have v22 := L.v22; have t43 := L.t43; have a43 := L.a43; have z43 := L.z43; have v43 := L.v43; have t75 := L.t75; have a75 := L.a75; have z75 := L.z75; have v75 := L.v75
  have e47 : ∀ args w, (callFunc 47 args).run P w = .ok (.enter 47 args) w := enters_of L.f47 (by kernel_rfl) rfl
  have e48 : ∀ args w, (callFunc 48 args).run P w = .ok (.enter 48 args) w := enters_of L.f48 (by kernel_rfl) rfl
  have S0 : Aside (SW enc k w0 blk off d W) := S
  have HC : Aside _ := hcmp
  have INS : Aside (∀ (a b : Nat) (d' : Array α) (W' : World), d'.size = d.size → a ≤ b → b ≤ d.size → SW enc k w0 blk off d' W' →
      Calls P 47 #[.slice (some ⟨blk, off, none⟩) d.size cap, .int .i64 a, .int .i64 b, .func (.func g) #[] cb] W' fun e w' => e = .returned (.tuple #[]) ∧ SW enc k w0 blk off (insertionSort (ltOf cf) d' a b) w') := fun a b d' W' hz hab hb S => by
    have := insertion_any L R cf g cb eg hcmp cap a b S hab (by omega) (by omega); rwa [hz] at this
  have SYM : Aside (∀ (b : Nat) (d' : Array α) (W' : World), d'.size = d.size → 20 < b → b ≤ d.size → SW enc k w0 blk off d' W' →
      Calls P 48 #[.slice (some ⟨blk, off, none⟩) d.size cap, .int .i64 0, .int .i64 20, .int .i64 b, .func (.func g) #[] cb] W' fun e w' => e = .returned (.tuple #[]) ∧ SW enc k w0 blk off (symM (ltOf cf) b 0 20 b d') w') := fun b d' W' hz hab hb S => by
    have := sym_any (w0 := w0) (blk := blk) (off := off) L R cf g cb eg hcmp b cap 0 20 b d' W' (by omega) (by omega) hab (by omega) (by omega) S; rw [hz] at this; exact this
  have Z1 := Lib.hid (fun (h : 20 ≤ d.size) => size_ins cf d 0 20 h)
  have Z2 := Lib.hid (fun (h : 20 ≤ d.size) => size_ins cf (insertionSort (ltOf cf) d 0 20) 20 d.size (by rw [size_ins cf d 0 20 h]; exact Nat.le_refl _))
  clear S hcmp
  obtain ⟨n, hn⟩ : ∃ n, n = d.size := ⟨_, rfl⟩
  have h40 : n ≤ 40 := by omega
  have HN := Lib.hid hn
  rw [← hn] at INS SYM Z1 Z2 ⊢
  have hfin : stab (ltOf cf) d = if n < 20 then insertionSort (ltOf cf) d 0 n else if 20 < n then symM (ltOf cf) n 0 20 n (insertionSort (ltOf cf) (insertionSort (ltOf cf) d 0 20) 20 n) else insertionSort (ltOf cf) d 0 20 := by rw [hn]; rfl
  have HFIN := Lib.hid hfin
  clear hn hfin
  go_enter L.f34, Try.ntmps34
  by_cases c1 : n < 20
  · have c1z : ¬ ((20 : Int) ≤ (n : Int)) := by omega
    have c2z : ¬ ((20 : Int) < (n : Int)) := by omega
    have hc := INS.out 0 n d W HN.out.symm (by omega) (by omega) S0.out
    go_wp2
    refine wp_loop_rounds 1 ?_
    rw [rounds_succ]
    go_wp2_with (go_at_fn 47; refine hc.mono ?_; rintro _ w2 ⟨rfl, S2⟩)
    refine wp_loop_rounds 1 ?_
    rw [rounds_succ]
    go_wp2
    (try simp only [Exit.inBlock, Exit.then]); refine bodyPost_end (results_none rfl _ _ _) rfl ?_
    exact ⟨rfl, by rw [HFIN.out, if_pos c1]; exact S2⟩
  by_cases c2 : n = 20
  · have c1z : (20 : Int) ≤ (n : Int) := by omega
    have c2z : ¬ ((20 : Int) < (n : Int)) := by omega
    have c3z : ¬ ((20 : Int) + 20 ≤ (n : Int)) := by omega
    have c4z : ¬ ((40 : Int) ≤ (n : Int)) := by omega
    have hz1 := Z1.out (by omega)
    have hc := INS.out 0 20 d W HN.out.symm (by omega) (by omega) S0.out
    have HC2 := Lib.hid (fun (W' : World) (S : SW enc k w0 blk off (insertionSort (ltOf cf) d 0 20) W') => INS.out 20 n _ W' hz1 (by omega) (by omega) S)
    clear hz1
    have HNN := Lib.hid c2
    clear c2
    go_wp2
    refine wp_loop_rounds 2 ?_
    rw [rounds_succ]
    go_wp2_with (go_at_fn 47; refine hc.mono ?_; rintro _ w2 ⟨rfl, S2⟩)
    rw [rounds_succ]
    have hc2 := HC2.out w2 S2
    go_wp2_with (go_at_fn 47; refine hc2.mono ?_; rintro _ w3 ⟨rfl, S3⟩)
    refine wp_loop_rounds 1 ?_
    rw [rounds_succ]
    go_wp2
    (try simp only [Exit.inBlock, Exit.then]); refine bodyPost_end (results_none rfl _ _ _) rfl ?_
    refine ⟨rfl, ?_⟩
    rw [HNN.out, ins_id] at S3
    rw [HFIN.out, HNN.out, if_neg (by omega), if_neg (by omega)]; exact S3
  by_cases c3 : n = 40
  · have c1z : (20 : Int) ≤ (n : Int) := by omega
    have c2z : (20 : Int) < (n : Int) := by omega
    have c4z : (40 : Int) ≤ (n : Int) := by omega
    have c5z : ¬ ((40 : Int) < (n : Int)) := by omega
    have c6z : ¬ ((60 : Int) ≤ (n : Int)) := by omega
    have c7z : ¬ ((80 : Int) ≤ (n : Int)) := by omega
    have c8z : ¬ ((60 : Int) < (n : Int)) := by omega
    have hz1 := Z1.out (by omega)
    have hz2 := Z2.out (by omega)
    have hz3 := hz2.trans hz1
    have hc := INS.out 0 20 d W HN.out.symm (by omega) (by omega) S0.out
    have HC2 := Lib.hid (fun (W' : World) (S : SW enc k w0 blk off (insertionSort (ltOf cf) d 0 20) W') => INS.out 20 40 _ W' hz1 (by omega) (by omega) S)
    have HC3 := Lib.hid (fun (W' : World) (S : SW enc k w0 blk off (insertionSort (ltOf cf) (insertionSort (ltOf cf) d 0 20) 20 40) W') => INS.out 40 n _ W' (by rw [c3] at hz3; exact hz3.trans (by omega)) (by omega) (by omega) S)
    have HC4 := Lib.hid (fun (W' : World) (S : SW enc k w0 blk off (insertionSort (ltOf cf) (insertionSort (ltOf cf) d 0 20) 20 40) W') => SYM.out 40 _ W' (by rw [c3] at hz3; exact hz3.trans (by omega)) (by omega) (by omega) S)
    clear hz1 hz2 hz3
    have HNN := Lib.hid c3
    clear c3 c2
    go_wp2
    refine wp_loop_rounds 3 ?_
    rw [rounds_succ]
    go_wp2_with (go_at_fn 47; refine hc.mono ?_; rintro _ w2 ⟨rfl, S2⟩)
    rw [rounds_succ]
    have hc2 := HC2.out w2 S2
    go_wp2_with (go_at_fn 47; refine hc2.mono ?_; rintro _ w3 ⟨rfl, S3⟩)
    rw [rounds_succ]
    have hc3 := HC3.out w3 S3
    go_wp2_with (go_at_fn 47; refine hc3.mono ?_; rintro _ w4 ⟨rfl, S4⟩)
    refine wp_loop_rounds 2 ?_
    rw [rounds_succ]
    go_wp2
    refine wp_loop_rounds 2 ?_
    rw [rounds_succ]
    rw [HNN.out, ins_id] at S4
    have hc4 := HC4.out w4 S4
    go_wp2_with (go_at_fn 48; refine hc4.mono ?_; rintro _ w5 ⟨rfl, S5⟩)
    rw [rounds_succ]
    go_wp2
    rw [rounds_succ]
    go_wp2
    (try simp only [Exit.inBlock, Exit.then]); refine bodyPost_end (results_none rfl _ _ _) rfl ?_
    refine ⟨rfl, ?_⟩
    rw [HFIN.out, HNN.out, if_neg (by omega), if_pos (by omega)]; exact S5
  · have c1z : (20 : Int) ≤ (n : Int) := by omega
    have c2z : (20 : Int) < (n : Int) := by omega
    have c4z : ¬ ((40 : Int) ≤ (n : Int)) := by omega
    have c5z : ¬ ((40 : Int) < (n : Int)) := by omega
    have hz1 := Z1.out (by omega)
    have hz2 := Z2.out (by omega)
    have hz3 := hz2.trans hz1
    have hc := INS.out 0 20 d W HN.out.symm (by omega) (by omega) S0.out
    have HC2 := Lib.hid (fun (W' : World) (S : SW enc k w0 blk off (insertionSort (ltOf cf) d 0 20) W') => INS.out 20 n _ W' hz1 (by omega) (by omega) S)
    have HC4 := Lib.hid (fun (W' : World) (S : SW enc k w0 blk off (insertionSort (ltOf cf) (insertionSort (ltOf cf) d 0 20) 20 n) W') => SYM.out n _ W' hz3 (by omega) (by omega) S)
    clear hz1 hz2 hz3
    have HNN := Lib.hid c1
    have HNM := Lib.hid (show 20 < n by omega)
    clear c3 c2 c1
    go_wp2
    refine wp_loop_rounds 2 ?_
    rw [rounds_succ]
    go_wp2_with (go_at_fn 47; refine hc.mono ?_; rintro _ w2 ⟨rfl, S2⟩)
    rw [rounds_succ]
    have hc2 := HC2.out w2 S2
    go_wp2_with (go_at_fn 47; refine hc2.mono ?_; rintro _ w3 ⟨rfl, S3⟩)
    refine wp_loop_rounds 2 ?_
    rw [rounds_succ]
    go_wp2
    refine wp_loop_rounds 1 ?_
    rw [rounds_succ]
    have hc4 := HC4.out w3 S3
    go_wp2_with (go_at_fn 48; refine hc4.mono ?_; rintro _ w5 ⟨rfl, S5⟩)
    rw [rounds_succ]
    go_wp2
    (try simp only [Exit.inBlock, Exit.then]); refine bodyPost_end (results_none rfl _ _ _) rfl ?_
    refine ⟨rfl, ?_⟩
    rw [HFIN.out, if_neg HNN.out, if_pos HNM.out]; exact S5
set_option maxHeartbeats 4000000 in
set_option maxRecDepth 1000000 in
theorem sortStable_any (L : Lays P k) (R : RK enc k) (cf : α → α → Int) (g : Nat) (cb : Array Value) (eg : ∀ args w, (callFunc g args).run P w = .ok (.enter g args) w) (hcmp : CmpOk P g cb enc cf) (cap : Nat) (S : SW enc k w0 blk off d W) (h40 : d.size ≤ 40) :
    Calls P 22 #[.slice (some ⟨blk, off, none⟩) d.size cap, .func (.func g) #[] cb] W fun e w' => e = .returned (.tuple #[]) ∧ SW enc k w0 blk off (stab (ltOf cf) d) w' := by
  have mixed := L.mixed; have aE := L.aE; have zE := L.zE; have t0 := L.t0; have a0 := L.a0; have z0 := L.z0; have v0 := L.v0; have t3 := L.t3; have a3 := L.a3; have z3 := L.z3; have v3 := L.v3; have t4 := L.t4; have a4 := L.a4; have z4 := L.z4; have v4 := L.v4; have t22 := L.t22; have a22 := L.a22; have z22 := L.z22; have v22 := L.v22; have t43 := L.t43; have a43 := L.a43; have z43 := L.z43; have v43 := L.v43; have t75 := L.t75; have a75 := L.a75; have z75 := L.z75; have v75 := L.v75
  have e34 : ∀ args w, (callFunc 34 args).run P w = .ok (.enter 34 args) w := enters_of L.f34 (by kernel_rfl) rfl
  have hc := stable_any L R cf g cb eg hcmp cap S h40
  go_enter L.f22, Try.ntmps22
  go_wp2_with (go_at_fn 34; refine hc.mono ?_; rintro _ w2 ⟨rfl, S2⟩)
  (try simp only [Exit.inBlock, Exit.then]); refine bodyPost_end (results_none rfl _ _ _) rfl ?_
  exact ⟨rfl, S2⟩

end Go.Proofs.Ytbjpjddhkpnofaa
namespace Go.Proofs.Ytbjpjddhkpnofaa
open Go.RowKit Go.Shelf Go.Sort Go.Proofs.Stab Go.Proofs.Ytbjpjddhkpnofaa.PA Go.Proofs.YtbjpjddhkpnofaaW.PrintWords Go.Proofs.YtbjpjddhkpnofaaW.PrintLast
set_option linter.unusedVariables false
set_option linter.unusedSimpArgs false
instance : Inhabited S27 := ⟨z27⟩
def encQ (r : S27) : List Value := [.int .i64 r.f0, .int .i64 r.f1, .int .i64 r.f2, .int .i64 r.f3]
theorem rkR : RK encQ 4 := ⟨fun _ => rfl, fun x v hv => by simp [encQ] at hv; rcases hv with rfl | rfl | rfl | rfl <;> rfl⟩
theorem lays : Lays Try.prog 4 where
  mixed := by kernel_rfl
  aE := fun w => by simp [go_sem]
  zE := fun w => by simp [go_sem]
  f47 := Try.func47
  f48 := Try.func48
  f54 := Try.func54
  f56 := Try.func56
  f34 := Try.func34
  f22 := Try.func22
  t0 := Try.underlying0
  a0 := fun w => by simp [go_sem]
  z0 := fun w => by simp [go_sem]
  v0 := fun w => by simp [go_sem]
  t3 := Try.underlying3
  a3 := fun w => by simp [go_sem]
  z3 := fun w => by simp [go_sem]
  v3 := fun w => by simp [go_sem]
  t4 := Try.underlying4
  a4 := fun w => by simp [go_sem]
  z4 := fun w => by simp [go_sem]
  v4 := fun w => by simp [go_sem]
  t22 := Try.underlying22
  a22 := fun w => by simp [go_sem]
  z22 := fun w => by simp [go_sem]
  v22 := fun w => by simp [go_sem]
  t43 := Try.underlying43
  a43 := fun w => by simp [go_sem]
  z43 := fun w => by simp [go_sem]
  v43 := fun w => by simp [go_sem]
  t75 := Try.underlying75
  a75 := fun w => by simp [go_sem]
  z75 := fun w => by simp [go_sem]
  v75 := fun w => by simp [go_sem]
/-- extent.order -/
def ordR (x y : S27) : Int := if x.f0 < y.f0 then -1 else if x.f0 > y.f0 then 1 else if x.f1 < y.f1 then -1 else if x.f1 > y.f1 then 1 else 0
theorem order_eq (x y : S27) : extent_order.f 5 x.f0 x.f1 x.f2 x.f3 y.f0 y.f1 y.f2 y.f3 = some (ordR x y) := by
  have hc : ∀ a b : Int, cmp_Compare_int.f a b = some (if a < b then -1 else if a > b then 1 else 0) := fun a b => by
    simp only [cmp_Compare_int.f, cmp_isNaN_int.f]
    split
    · simp
    · split <;> simp_all
  have ho : ∀ a b : Int, cmp_Or_int.f 5 [a, b] = some (if a ≠ 0 then a else b) := fun a b => by
    by_cases h : a = 0
    · by_cases h2 : b = 0 <;> simp [cmp_Or_int.f, cmp_Or_int.l0, h, h2, wrap64, rd]
    · simp [cmp_Or_int.f, cmp_Or_int.l0, h, rd]
  simp only [extent_order.f, hc, ho, Option.bind_some, ordR]
  congr 1
  repeat' split
  all_goals first | omega | rfl
theorem cmpR : CmpOk Try.prog 23 #[] encQ ordR := fun W x y =>
  extent_order.calls 5 x.f0 x.f1 x.f2 x.f3 y.f0 y.f1 y.f2 y.f3 (ordR x y) W (order_eq x y)
theorem egR : ∀ args w, (callFunc 23 args).run Try.prog w = .ok (.enter 23 args) w := enters_of Try.func23 (by kernel_rfl) rfl
theorem swoR : SWO (ltOf ordR) := by
  have e : ∀ x y, ltOf ordR x y = decide (x.f0 < y.f0 ∨ x.f0 = y.f0 ∧ x.f1 < y.f1) := fun x y => by
    unfold ltOf ordR
    rw [decide_eq_decide]
    repeat' split
    all_goals omega
  refine ⟨fun x => ?_, fun x y z h1 h2 => ?_, fun x y z h1 h2 => ?_⟩
  · rw [e]; simp
  · rw [e, decide_eq_true_eq] at h1 h2 ⊢; omega
  · rw [e, decide_eq_false_iff_not] at h1 h2 ⊢; omega
def keepR (r : S27) : Bool := decide (1 ≤ r.f2)
set_option maxHeartbeats 2000000 in
theorem small_any (x : S27) (W : World) : Calls Try.prog 21 #[.agg #[.int .i64 x.f0, .int .i64 x.f1, .int .i64 x.f2, .int .i64 x.f3]] W fun e w' => e = .returned (.bool (decide (x.f2 < 1))) ∧ Below W.heap.size W w' := by
  go_enter Try.func21, Try.ntmps21
  go_wp2
  go_ret
  exact ⟨rfl, below_alloc (Below.refl _ W) _⟩
theorem cells4 {w0 W : World} {g : Nat} {d : Array S27} (S : SW encQ 4 w0 g 0 d W) (i : Nat) (hi : i < d.size) :
    (W.cell? ⟨g, i * 4, none⟩ = some (.int .i64 d[i]!.f0) ∧ W.cell? ⟨g, i * 4 + 1, none⟩ = some (.int .i64 d[i]!.f1) ∧ W.cell? ⟨g, i * 4 + 2, none⟩ = some (.int .i64 d[i]!.f2) ∧ W.cell? ⟨g, i * 4 + 3, none⟩ = some (.int .i64 d[i]!.f3)) ∧
    W.frozen? ⟨g, i * 4, none⟩ = false ∧ W.frozen? ⟨g, i * 4 + 1, none⟩ = false ∧ W.frozen? ⟨g, i * 4 + 2, none⟩ = false ∧ W.frozen? ⟨g, i * 4 + 3, none⟩ = false := by
  have h := fun c (hc : c < 4) => S.holds.cell (c := c) hi hc
  have h0 := h 0 (by omega); have h1 := h 1 (by omega); have h2 := h 2 (by omega); have h3 := h 3 (by omega)
  simp only [Nat.zero_add, Nat.add_zero] at h0 h1 h2 h3
  exact ⟨⟨h0.1, h1.1, h2.1, h3.1⟩, h0.2, h1.2, h2.2, h3.2⟩
set_option maxHeartbeats 2000000 in
set_option maxRecDepth 100000 in
theorem index_any {w0 W : World} {g : Nat} {d : Array S27} (S : SW encQ 4 w0 g 0 d W) (cap : Nat) (hsz : d.size < 1000000) :
    Calls Try.prog 33 #[.slice (some ⟨g, 0, none⟩) d.size cap, .func (.func 21) #[] #[]] W fun e w' => (∃ r : Int, e = .returned (.int .i64 r) ∧ ((r = -1 ∧ ∀ t, t < d.size → keepR d[t]! = true) ∨ ∃ i : Nat, r = i ∧ i < d.size ∧ keepR d[i]! = false ∧ ∀ t, t < i → keepR d[t]! = true)) ∧ SW encQ 4 w0 g 0 d w' := by
  have S0 : Aside (SW encQ 4 w0 g 0 d W) := S
  clear S
  go_enter Try.func33, Try.ntmps33
  go_wp2
  go_loopg [8] d.size (fun kx v8 wr => ∃ i : Nat, v8 = .int .i64 i ∧ i ≤ d.size ∧ d.size - i ≤ kx ∧ Aside (SW encQ 4 w0 g 0 d wr) ∧ Hid (∀ t, t < i → keepR d[t]! = true))
  case atStart => exact ⟨0, rfl, by omega, by omega, S0, fun t ht => absurd ht (by omega)⟩
  case round =>
    clear S0
    obtain ⟨i, rfl, hi, hkx, S1, HK⟩ := hrel
    by_cases hlt : i < d.size
    · have hltz : (i : Int) < (d.size : Int) := by omega
      obtain ⟨⟨q0, q1, q2, q3⟩, -⟩ := cells4 S1.out i hlt
      have hc := fun W' => small_any d[i]! W'
      by_cases hs : d[i]!.f2 < 1
      · have hd : decide (d[i]!.f2 < 1) = true := decide_eq_true hs
        rw [hd] at hc
        have HKF := Lib.hid (show keepR d[i]! = false from decide_eq_false (by omega))
        clear hs hd
        generalize d[i]! = x at q0 q1 q2 q3 hc
        go_wp2_with (go_at_call 21; refine (hc _).mono ?_; rintro _ w2 ⟨rfl, hb⟩)
        go_ret
        exact ⟨⟨_, rfl, .inr ⟨i, rfl, hlt, HKF.out, HK.out⟩⟩, S1.out.below hb⟩
      · have hd : decide (d[i]!.f2 < 1) = false := decide_eq_false hs
        rw [hd] at hc
        have HKF := Lib.hid (show keepR d[i]! = true from decide_eq_true (by omega))
        clear hs hd
        have HI := Lib.hid (show ∀ t, t < i + 1 → keepR d[t]! = true from fun t ht => by
          by_cases h : t < i
          · exact HK.out t h
          · rw [show t = i by omega]; exact HKF.out)
        generalize d[i]! = x at q0 q1 q2 q3 hc
        go_wp2_with (go_at_call 21; refine (hc _).mono ?_; rintro _ w2 ⟨rfl, hb⟩)
        go_roundg (d.size - (i + 1))
        case measure => omega
        case rel => exact ⟨i + 1, by go_num, by omega, Nat.le_refl _, S1.out.below hb, HI.out⟩
    · have hltz : ¬ (i : Int) < (d.size : Int) := by omega
      go_wp2
      go_ret
      exact ⟨⟨_, rfl, .inl ⟨rfl, fun t ht => HK.out t (by omega)⟩⟩, S1.out⟩

theorem SW.cut {w0 W : World} {g : Nat} {d : Array S27} (S : SW encQ 4 w0 g 0 d W) (i : Nat) (hi : i ≤ d.size) (vs : List Value) : SW encQ 4 w0 g 0 (d.extract 0 i) (W.setCells g (i * 4) vs) := by
  refine S.put _ _ fun t ht => ?_
  have hz : (d.extract 0 i).size = i := by simp; omega
  rw [size_flatK, hz] at ht
  have h := S.holds t (by rw [size_flatK]; omega)
  rw [get_flatK _ _ _ _ (by rw [hz]; exact ht)]
  rw [get_flatK _ _ _ _ (by omega)] at h
  have hq : t / 4 < i := by omega
  rw [show (d.extract 0 i)[t / 4]! = d[t / 4]! by rw [getElem!_pos _ _ (by rw [hz]; exact hq), getElem!_pos d _ (by omega)]; simp]
  rw [World.cell?_setCells_out _ _ _ _ _ (fun _ _ => .inl (by simp; omega)), World.frozen?_setCells]
  exact h
theorem run_clear4 {w0 W : World} {g : Nat} {d : Array S27} (S : SW encQ 4 w0 g 0 d W) (i c : Nat) (hi : i < d.size) (ty : TypeId) : ∃ vs : List Value,
    (Builtin.clear_ #[22] ty #[.slice (some ⟨g, i * 4, none⟩) (d.size - i) c]).run Try.prog W = .ok (.tuple #[]) (W.setCells g (i * 4) vs) := by
  have hz : (Builtin.zeroCells #[Value.int .i64 0, Value.int .i64 0, Value.int .i64 0, Value.int .i64 0] (d.size - i)).toList.length = (d.size - i) * 4 := by simp [Builtin.zeroCells]
  have h1 : ∀ v ∈ (Builtin.zeroCells #[Value.int .i64 0, Value.int .i64 0, Value.int .i64 0, Value.int .i64 0] (d.size - i)).toList, v.oneCell' = true := fun v hv => by
    simp only [Builtin.zeroCells, Array.toList_map, List.mem_map] at hv
    obtain ⟨q, _, rfl⟩ := hv
    have hq : q % 4 < 4 := Nat.mod_lt _ (by omega)
    show (#[Value.int .i64 0, .int .i64 0, .int .i64 0, .int .i64 0][q % 4]!).oneCell' = true
    generalize q % 4 = r at hq
    rcases r with _ | _ | _ | _ | r
    all_goals first | rfl | omega
  have hst := run_storeCells_cells (P := Try.prog) g (i * 4) (Builtin.zeroCells #[Value.int .i64 0, Value.int .i64 0, Value.int .i64 0, Value.int .i64 0] (d.size - i)).toList 0 W
    (fun t ht => by have := S.holds (i * 4 + t) (by rw [size_flatK]; omega); simp only [Nat.zero_add] at this; rw [Nat.add_zero, this.1]; rfl)
    (fun t ht => by have := S.holds (i * 4 + t) (by rw [size_flatK]; omega); simp only [Nat.zero_add] at this; rw [Nat.add_zero]; exact this.2) h1
  simp only [Nat.add_zero] at hst
  obtain ⟨m, hm⟩ : ∃ m, d.size - i = m + 1 := ⟨d.size - i - 1, by omega⟩
  refine ⟨(Builtin.zeroCells #[Value.int .i64 0, Value.int .i64 0, Value.int .i64 0, Value.int .i64 0] (d.size - i)).toList, ?_⟩
  rw [hm] at hst ⊢
  simp [Builtin.clear_, run_underlying Try.underlying22, hst, go_sem]
structure Kept (d : Array S27) (j i : Nat) (dk : Array S27) : Prop where
  size : dk.size = d.size
  lt : i < j
  low : dk.toList.take i = (d.toList.take j).filter keepR
  high : ∀ t, j ≤ t → dk[t]! = d[t]!
theorem take_succ! (d : Array S27) (j : Nat) (h : j < d.size) : d.toList.take (j + 1) = d.toList.take j ++ [d[j]!] := by
  rw [List.take_add_one, getElem!_pos d j h]; simp [h]
theorem Kept.start {d : Array S27} {i : Nat} (hi : i < d.size) (h : keepR d[i]! = false) (ha : ∀ t, t < i → keepR d[t]! = true) : Kept d (i + 1) i d := by
  refine ⟨rfl, by omega, ?_, fun _ _ => rfl⟩
  rw [take_succ! d i hi, List.filter_append, List.filter_cons_of_neg (by simp [h]), List.filter_nil, List.append_nil]
  symm
  rw [List.filter_eq_self]
  intro x hx
  obtain ⟨t, ht, rfl⟩ := List.getElem_of_mem hx
  simp at ht ⊢
  have := ha t (by omega)
  rwa [getElem!_pos d t (by omega)] at this
theorem Kept.skip {d dk : Array S27} {j i : Nat} (K : Kept d j i dk) (hj : j < d.size) (h : keepR d[j]! = false) : Kept d (j + 1) i dk :=
  ⟨K.size, by have := K.lt; omega, by rw [take_succ! d j hj, List.filter_append, List.filter_cons_of_neg (by simp [h]), List.filter_nil, List.append_nil]; exact K.low, fun t ht => K.high t (by omega)⟩
theorem Kept.keep {d dk : Array S27} {j i : Nat} (K : Kept d j i dk) (hj : j < d.size) (h : keepR d[j]! = true) : Kept d (j + 1) (i + 1) (dk.setIfInBounds i d[j]!) := by
  have hl := K.lt; have hs := K.size
  refine ⟨by simp [K.size], by omega, ?_, fun t ht => ?_⟩
  · rw [take_succ! d j hj, List.filter_append, List.filter_cons_of_pos h, List.filter_nil, ← K.low, take_succ! _ i (by simp; omega), getElem!_set_same dk i _ (by omega)]
    congr 1
    rw [Array.toList_setIfInBounds, List.take_set_of_le (Nat.le_refl _)]
  · rw [getElem!_set_other _ _ _ _ (by omega)]; exact K.high t (by omega)
theorem first_or (d : Array S27) : ∀ n : Nat, (∀ t : Nat, t < n → keepR d[t]! = true) ∨ ∃ i : Nat, i < n ∧ keepR d[i]! = false ∧ ∀ t : Nat, t < i → keepR d[t]! = true := by
  intro n
  induction n with
  | zero => exact .inl (fun (t : Nat) (ht : t < 0) => absurd ht (by omega))
  | succ n ih =>
    rcases ih with h | ⟨i, hi, h⟩
    · cases hk : keepR d[n]! with
      | true =>
        refine .inl fun t ht => ?_
        by_cases e : t < n
        · exact h t e
        · rw [show t = n by omega]; exact hk
      | false => exact .inr ⟨n, by omega, hk, h⟩
    · exact .inr ⟨i, by omega, h⟩
set_option maxHeartbeats 4000000 in
set_option maxRecDepth 100000 in
theorem delete_any {w0 W : World} {g : Nat} {d : Array S27} (S : SW encQ 4 w0 g 0 d W) (cap : Nat) (hsz : d.size < 1000000) (hcap : d.size ≤ cap) (hc1 : cap ≤ maxLen) :
    Calls Try.prog 19 #[.slice (some ⟨g, 0, none⟩) d.size cap, .func (.func 21) #[] #[]] W fun e w' => ∃ d' : Array S27, e = .returned (.slice (some ⟨g, 0, none⟩) d'.size cap) ∧ d'.toList = d.toList.filter keepR ∧ SW encQ 4 w0 g 0 d' w' := by
  have hfo := first_or d d.size
  rcases hfo with ha | ⟨i0, hi0, hk0, ha⟩
  · have hI : Calls Try.prog 33 #[.slice (some ⟨g, 0, none⟩) d.size cap, .func (.func 21) #[] #[]] W fun e w' => e = .returned (.int .i64 (-1)) ∧ SW encQ 4 w0 g 0 d w' :=
      (index_any S cap hsz).mono fun e w' h => by
        obtain ⟨⟨r, he, hr⟩, S1⟩ := h
        refine ⟨?_, S1⟩
        rcases hr with ⟨rfl, _⟩ | ⟨i, _, hi, hk, _⟩
        · exact he
        · rw [ha i hi] at hk; cases hk
    have HI := Lib.hid hI
    clear S hI
    go_enter Try.func19, Try.ntmps19
    go_wp2_with (go_at_call 33; refine HI.out.mono ?_; rintro _ w2 ⟨rfl, S1⟩)
    go_ret
    refine ⟨d, rfl, ?_, S1⟩
    symm
    rw [List.filter_eq_self]
    intro x hx
    obtain ⟨t, ht, rfl⟩ := List.getElem_of_mem hx
    simp at ht ⊢
    have := ha t (by omega)
    rwa [getElem!_pos d t (by omega)] at this
  · have hI : Calls Try.prog 33 #[.slice (some ⟨g, 0, none⟩) d.size cap, .func (.func 21) #[] #[]] W fun e w' => e = .returned (.int .i64 i0) ∧ SW encQ 4 w0 g 0 d w' :=
      (index_any S cap hsz).mono fun e w' h => by
        obtain ⟨⟨r, he, hr⟩, S1⟩ := h
        refine ⟨?_, S1⟩
        rcases hr with ⟨_, h2⟩ | ⟨i, rfl, hi, hk, h2⟩
        · rw [h2 i0 hi0] at hk0; cases hk0
        · rcases Nat.lt_trichotomy i i0 with h | rfl | h
          · rw [ha i h] at hk; cases hk
          · exact he
          · rw [h2 i0 h] at hk0; cases hk0
    have HI := Lib.hid hI
    have hne1 : ((i0 : Int) == -1) = false := beq_eq_false_iff_ne.2 (by omega)
    have HK0 := Lib.hid (Kept.start hi0 hk0 ha)
    clear S hI hk0 ha
    go_enter Try.func19, Try.ntmps19
    go_wp2_with (go_at_call 33; refine HI.out.mono ?_; rintro _ w2 ⟨rfl, S1⟩)
    go_loopg [5, 6] d.size (fun kx v5 v6 wr => ∃ (i j : Nat) (dk : Array S27), v5 = .int .i64 i ∧ v6 = .int .i64 j ∧ j ≤ d.size ∧ d.size - j ≤ kx ∧ Aside (SW encQ 4 w0 g 0 dk wr) ∧ Hid (Kept d j i dk))
    case atStart => exact ⟨i0, i0 + 1, d, rfl, by go_num, by omega, by omega, S1, HK0⟩
    case round =>
      clear S1 HK0
      obtain ⟨i, j, dk, rfl, rfl, hj, hkx, S1, HK⟩ := hrel
      have hij := HK.out.lt
      have hds := HK.out.size
      by_cases hlt : j < d.size
      · have hltz : (j : Int) < (d.size : Int) := by omega
        obtain ⟨⟨q0, q1, q2, q3⟩, -⟩ := cells4 S1.out j (by omega)
        rw [HK.out.high j (Nat.le_refl _)] at q0 q1 q2 q3
        have hc := fun W' => small_any d[j]! W'
        by_cases hs : d[j]!.f2 < 1
        · have hd : decide (d[j]!.f2 < 1) = true := decide_eq_true hs
          rw [hd] at hc
          have HI2 := Lib.hid (HK.out.skip hlt (decide_eq_false (by omega)))
          clear hs hd
          generalize d[j]! = x at q0 q1 q2 q3 hc
          go_wp2_with (go_at_call 21; refine (hc _).mono ?_; rintro _ w3 ⟨rfl, hb⟩)
          have S2 := S1.out.below (below_step (below_alloc (Below.refl _ wr) _) hb)
          go_roundg (d.size - (j + 1))
          case measure => omega
          case rel => exact ⟨i, j + 1, dk, rfl, by go_num, by omega, Nat.le_refl _, S2, HI2⟩
        · have hd : decide (d[j]!.f2 < 1) = false := decide_eq_false hs
          rw [hd] at hc
          have HI2 := Lib.hid (HK.out.keep hlt (decide_eq_true (by omega)))
          clear hs hd
          generalize d[j]! = x at q0 q1 q2 q3 hc HI2
          go_wp2_with (go_at_call 21; refine (hc _).mono ?_; rintro _ w3 ⟨rfl, hb⟩; obtain ⟨b0, b1, b2, b3⟩ := cz4 (blk_below (blk_new wr (.cells #[.int .i64 x.f0, .int .i64 x.f1, .int .i64 x.f2, .int .i64 x.f3] 27)) hb); have S2 := Lib.hid (S1.out.below (below_step (below_alloc (Below.refl _ wr) _) hb)); obtain ⟨⟨c0, c1, c2, c3⟩, g0, g1, g2, g3⟩ := cells4 S2.out i (by omega); clear hb)
          have S3 := S2.out.set rkR i (by omega) x
          rw [Nat.zero_add] at S3
          go_roundg (d.size - (j + 1))
          case measure => omega
          case rel => exact ⟨i + 1, j + 1, _, by go_num, by go_num, by omega, Nat.le_refl _, S3, HI2⟩
      · have hltz : ¬ (j : Int) < (d.size : Int) := by omega
        obtain ⟨vs, hcl⟩ := run_clear4 S1.out i (cap - i) (by omega) 0
        rw [hds] at hcl
        go_wp2
        go_ret
        have S2 := S1.out.cut i (by omega) vs
        have hz : (dk.extract 0 i).size = i := by simp; omega
        refine ⟨dk.extract 0 i, by rw [hz]; rfl, ?_, S2⟩
        have hl := HK.out.low
        rw [show j = d.size by omega] at hl
        have hl2 : d.toList.take d.size = d.toList := List.take_of_length_le (by simp)
        rw [hl2] at hl
        rw [← hl]; simp
end Go.Proofs.Ytbjpjddhkpnofaa
namespace Go.Proofs.Ytbjpjddhkpnofaa
open Go.RowKit Go.Proofs.Ytbjpjddhkpnofaa.PA Go.Proofs.YtbjpjddhkpnofaaW.PrintWords Go.Proofs.YtbjpjddhkpnofaaW.PrintLast
set_option linter.unusedVariables false
set_option linter.unusedSimpArgs false
theorem eqS_in (d : Nat) (w : World) (A : Option Addr) (n c : Nat) : (Op.equalIn (d + 1) 22 (Value.slice A n c) (Value.slice none 0 0)).run Try.prog w = .ok A.isNone w := by
  cases A <;> simp [Op.equalIn, run_underlying Try.underlying22]
theorem eqS_op (w : World) (A : Option Addr) (n c : Nat) : (Op.equal 22 (Value.slice A n c) (Value.slice none 0 0)).run Try.prog w = .ok A.isNone w := eqS_in 9999 w A n c
theorem eqS_any (w : World) (A : Option Addr) (n c : Nat) : (Go.binOp .eql 22 (Value.slice A n c) (Value.slice none 0 0)).run Try.prog w = .ok (.bool A.isNone) w := by
  simp [go_sem, Go.binOp, eqS_op, Result.andThen]
attribute [local go_sem] eqS_any
set_option maxHeartbeats 2000000 in
set_option maxRecDepth 100000 in
theorem cloneR_any (A0 : Option Addr) (c0 : Nat) (l0 : List S27) (w : World) (hr0 : Kd.C k27 w A0 l0.length l0) (hc0 : l0.length ≤ c0) (hl : l0.length < 1000000000) :
    Calls Try.prog 20 #[.slice A0 l0.length c0] w fun e w' => ∃ v0_ : Value, e = .returned v0_ ∧ Kd.R k27 27 w' w.heap.size (fun _ => True) v0_ l0 ∧ Below w.heap.size w w' := by
  cases A0 with
  | none =>
    have h0 : l0 = [] := by
      rcases Nat.eq_zero_or_pos l0.length with h | h
      · exact List.eq_nil_of_length_eq_zero h
      · obtain ⟨ad, e, _⟩ := hr0.2.2 h; cases e
    subst h0
    clear hr0 hl
    go_enter Try.func20, Try.ntmps20
    go_wp2
    go_ret
    exact ⟨_, rfl, Kd.R_nil _ _ _ _ _, Below.refl _ _⟩
  | some ad =>
    obtain ⟨n, hn⟩ : ∃ n, n = l0.length := ⟨_, rfl⟩
    rw [← hn] at hr0 hc0 hl ⊢
    have HR := Lib.hid hr0
    have Hn := Lib.hid hn; clear hn hr0
    go_enter Try.func20, Try.ntmps20
    have hO : Kd.R k27 27 (w.alloc (.cells #[] 27)) w.heap.size (fun _ => True) (.slice (some ⟨w.heap.size, 0, none⟩) 0 0) ([] : List S27) :=
      ⟨fun _ _ => trivial, [], ⟨rfl, .inr ⟨w.heap.size, 0, #[], rfl, Nat.le_refl _, blk_new w _, Nat.le_refl _, by simp [maxLen], rfl, rfl⟩⟩, ⟨rfl, fun j p hj => by simp at hj⟩⟩
    have HO := Lib.hid hO; clear hO
    have HB := Lib.hid (below_alloc (Below.refl _ w) (.cells #[] 27))
    go_wp2_with ((with_reducible refine gate_builtin (b := .append) (xs := #[.tmp 5, .tmp 6]) rfl ?_); at_builtin; refine Kd.R_append_rows k27 (w0 := w) w.heap.size rfl (.tmp 5) (.tmp 6) 22 27 (.agg #[(.int .i64 0), (.int .i64 0), (.int .i64 0), (.int .i64 0)]) 32 rfl Try.underlying22 info27 rfl (by decide) (by omega) (.slice (some ⟨w.heap.size, 0, none⟩) 0 0) [] l0 (some ad) n c0 (fun _ => True) (fun _ => False) rfl rfl ?aO ?aR (fun _ _ h => h) (fun _ h => h.elim) ?aF ?aB ?aS ?aL ?_; (case aR => exact Kd.C_alloc HR.out _); (case aB => exact HB.out); (case aF => exact (fun _ _ => trivial)); (case aO => exact HO.out); (case aS => exact HB.out.size); (case aL => simp; omega); intro v1 w4 ho hb hgr hat; have HO4 := Lib.hid ho; have HB4 := Lib.hid hb; clear ho hb hgr hat)
    go_ret
    exact ⟨_, rfl, HO4.out, HB4.out⟩
end Go.Proofs.Ytbjpjddhkpnofaa
namespace Go.Proofs.Ytbjpjddhkpnofaa
open Go.RowKit Go.Shelf Go.Sort Go.Proofs.Stab Go.Proofs.Ytbjpjddhkpnofaa.PA Go.Proofs.YtbjpjddhkpnofaaW.PrintWords Go.Proofs.YtbjpjddhkpnofaaW.PrintLast
set_option linter.unusedVariables false
set_option linter.unusedSimpArgs false
/-- A run more, joined to the last if it goes on from it. -/
def joinR (out : List S27) (r : S27) : List S27 := match out.getLast? with
  | none => [r]
  | some x => if x.f0 = r.f0 ∧ wrap64 (x.f1 + x.f2) = r.f1 then out.dropLast ++ [⟨x.f0, x.f1, wrap64 (x.f2 + r.f2), x.f3⟩] else out ++ [r]
theorem joinR_nil (r : S27) : joinR [] r = [r] := rfl
theorem joinR_snoc (oo : List S27) (x r : S27) : joinR (oo ++ [x]) r = if x.f0 = r.f0 ∧ wrap64 (x.f1 + x.f2) = r.f1 then oo ++ [⟨x.f0, x.f1, wrap64 (x.f2 + r.f2), x.f3⟩] else oo ++ [x] ++ [r] := by
  unfold joinR; simp
def Geo.mergeF (l : List S27) : List S27 := (puts (ltOf ordR) (l.filter keepR)).foldl joinR []
theorem sw_of_R {w : World} {base : Nat} {ok : Nat → Prop} {v : Value} {l : List S27} (h : Kd.R k27 27 w base ok v l) (hl : l ≠ []) :
    ∃ g cap, v = .slice (some ⟨g, 0, none⟩) l.length cap ∧ base ≤ g ∧ g < w.heap.size ∧ l.length ≤ cap ∧ cap ≤ maxLen ∧ SW encQ 4 w g 0 l.toArray w := by
  have h' := h
  obtain ⟨_, inner, ⟨hlen, ho⟩, hreps⟩ := h'
  have hp : 0 < l.length := List.length_pos_iff.2 hl
  rcases ho with ⟨rfl, h0⟩ | ⟨g, cap, cur, rfl, hb, hheap, hn, hcap, hsz, htake⟩
  · omega
  · refine ⟨g, cap, rfl, hb, (Array.getElem?_eq_some_iff.1 hheap).1, hn, hcap, ⟨rfl, rfl, rfl, Nat.le_refl _, fun _ _ _ => rfl, ⟨cur, cur, 27, (0, 0), hheap, hheap, rfl⟩, fun t ht => ?_⟩⟩
    rw [size_flatK] at ht
    rw [get_flatK _ _ _ _ ht]
    simp only [List.size_toArray] at ht
    have hi : t / 4 < l.length := by omega
    obtain ⟨ce, hcl, hM, hcc, hfr⟩ := Kd.R_elem h z27 ((t / 4 : Nat) : Int) (by omega) (by omega)
    obtain rfl := k27_openM hM
    simp only [Int.toNat_natCast] at hcc hfr
    have e : l.toArray[t / 4]! = l.getD (t / 4) z27 := by
      rw [getElem!_pos _ _ (by simpa using hi)]; simp [hi]
    have hc := hcc (t % 4)
    have hf := hfr (t % 4)
    simp only [show (k27).sz = 4 from rfl] at hc hf
    rw [show t / 4 * 4 + t % 4 = t by omega] at hc hf
    rw [e, Nat.zero_add]
    refine ⟨?_, hf⟩
    apply hc
    have h4 : t % 4 < 4 := Nat.mod_lt _ (by omega)
    rw [show (encQ (l.getD (t / 4) z27))[t % 4]! = (encQ (l.getD (t / 4) z27))[t % 4]'(by exact h4) from getElem!_pos _ _ _]
    exact List.getElem?_eq_getElem _

/-! A row of none. -/
set_option maxHeartbeats 2000000 in
theorem index0 (A : Option Addr) (cap : Nat) (W : World) : Calls Try.prog 33 #[.slice A 0 cap, .func (.func 21) #[] #[]] W fun e w' => e = .returned (.int .i64 (-1)) ∧ w' = W := by
  go_enter Try.func33, Try.ntmps33
  go_wp2
  refine wp_loop_rounds 1 ?_
  rw [rounds_succ]
  go_wp2
  go_ret
  exact ⟨rfl, rfl⟩
set_option maxHeartbeats 2000000 in
theorem delete0 (A : Option Addr) (cap : Nat) (W : World) : Calls Try.prog 19 #[.slice A 0 cap, .func (.func 21) #[] #[]] W fun e w' => e = .returned (.slice A 0 cap) ∧ w' = W := by
  have hi := index0 A cap W
  go_enter Try.func19, Try.ntmps19
  go_wp2_with (go_at_call 33; refine hi.mono ?_; rintro _ w2 ⟨rfl, rfl⟩)
  go_ret
  exact ⟨rfl, rfl⟩
set_option maxHeartbeats 2000000 in
theorem insertion0 (A : Option Addr) (cap : Nat) (W : World) : Calls Try.prog 47 #[.slice A 0 cap, .int .i64 0, .int .i64 0, .func (.func 23) #[] #[]] W fun e w' => e = .returned (.tuple #[]) ∧ w' = W := by
  go_enter Try.func47, Try.ntmps47
  go_wp2
  refine wp_loop_rounds 1 ?_
  rw [rounds_succ]
  go_wp2
  (try simp only [Exit.inBlock, Exit.then]); refine bodyPost_end (results_none rfl _ _ _) rfl ?_
  exact ⟨rfl, rfl⟩
set_option maxHeartbeats 2000000 in
theorem stable0 (A : Option Addr) (cap : Nat) (W : World) : Calls Try.prog 34 #[.slice A 0 cap, .int .i64 0, .func (.func 23) #[] #[]] W fun e w' => e = .returned (.tuple #[]) ∧ w' = W := by
  have hi := insertion0 A cap W
  go_enter Try.func34, Try.ntmps34
  go_wp2
  refine wp_loop_rounds 1 ?_
  rw [rounds_succ]
  go_wp2_with (go_at_call 47; refine hi.mono ?_; rintro _ w2 ⟨rfl, rfl⟩)
  refine wp_loop_rounds 1 ?_
  rw [rounds_succ]
  go_wp2
  (try simp only [Exit.inBlock, Exit.then]); refine bodyPost_end (results_none rfl _ _ _) rfl ?_
  exact ⟨rfl, rfl⟩
set_option maxHeartbeats 2000000 in
theorem sort0 (A : Option Addr) (cap : Nat) (W : World) : Calls Try.prog 22 #[.slice A 0 cap, .func (.func 23) #[] #[]] W fun e w' => e = .returned (.tuple #[]) ∧ w' = W := by
  have hi := stable0 A cap W
  go_enter Try.func22, Try.ntmps22
  go_wp2_with (go_at_call 34; refine hi.mono ?_; rintro _ w2 ⟨rfl, rfl⟩)
  (try simp only [Exit.inBlock, Exit.then]); refine bodyPost_end (results_none rfl _ _ _) rfl ?_
  exact ⟨rfl, rfl⟩
set_option maxHeartbeats 2000000 in
set_option maxRecDepth 100000 in
theorem merge0 (A0 : Option Addr) (c0 : Nat) (w : World) (hr0 : Kd.C k27 w A0 0 ([] : List S27)) :
    Calls Try.prog 8 #[.slice A0 0 c0] w fun e w' => ∃ v0_ : Value, e = .returned v0_ ∧ Kd.R k27 27 w' w.heap.size (fun _ => True) v0_ (Geo.mergeF []) ∧ Below w.heap.size w w' := by
  have hcl := (cloneR_any A0 c0 [] w hr0 (Nat.zero_le _) (by simp)).mono (fun e w' h => by
    obtain ⟨v, he, hR, hb⟩ := h
    obtain ⟨A, cp, hv⟩ : ∃ A cp, v = .slice A 0 cp := by
      obtain ⟨_, inner, ⟨hlen, ho⟩, hreps⟩ := hR
      rcases ho with ⟨rfl, h0⟩ | ⟨g, cap, cur, rfl, _⟩
      · exact ⟨_, _, rfl⟩
      · exact ⟨_, _, rfl⟩
    exact (show ∃ A cp, e = .returned (.slice A 0 cp) ∧ Below w.heap.size w w' from ⟨A, cp, hv ▸ he, hb⟩))
  go_enter Try.func8, Try.ntmps8
  go_wp2_with (first | (go_at_call 20; refine hcl.mono ?_; rintro _ w1 ⟨A, cp, rfl, hb1⟩) | (go_at_call 19; refine (delete0 _ _ _).mono ?_; rintro _ w2 ⟨rfl, rfl⟩) | (go_at_call 22; refine (sort0 _ _ _).mono ?_; rintro _ w3 ⟨rfl, rfl⟩))
  refine wp_loop_rounds 1 ?_
  rw [rounds_succ]
  go_wp2
  go_ret
  exact ⟨_, rfl, Kd.R_nil _ _ _ _ _, hb1⟩
theorem take_succ_foldl (L : List S27) (j : Nat) (h : j < L.length) : (L.take (j + 1)).foldl joinR [] = joinR ((L.take j).foldl joinR []) (L.getD j z27) := by
  rw [List.take_add_one, List.foldl_append]; simp [h]
theorem join_len (L : List S27) : ∀ o : List S27, (L.foldl joinR o).length ≤ o.length + L.length := by
  induction L with
  | nil => intro o; simp
  | cons x L ih =>
    intro o
    have h := ih (joinR o x)
    have hj : (joinR o x).length ≤ o.length + 1 := by
      unfold joinR
      split
      · simp
      · rename_i y hy
        have hne : o ≠ [] := by rintro rfl; simp at hy
        have := List.length_pos_iff.2 hne
        split <;> simp
    simp only [List.foldl_cons, List.length_cons]; omega
set_option maxHeartbeats 8000000 in
set_option maxRecDepth 100000 in
theorem merge_any (A0 : Option Addr) (c0 : Nat) (l0 : List S27) (w : World) (hr0 : Kd.C k27 w A0 l0.length l0) (hc0 : l0.length ≤ c0) (hl : l0.length < 41) :
    Calls Try.prog 8 #[.slice A0 l0.length c0] w fun e w' => ∃ v0_ : Value, e = .returned v0_ ∧ Kd.R k27 27 w' w.heap.size (fun _ => True) v0_ (Geo.mergeF l0) ∧ Below w.heap.size w w' := by
  by_cases hne : l0 = []
  · subst hne; exact merge0 A0 c0 w hr0
  have mixed : Try.prog.follows .mixedOrders = true := by kernel_rfl
  have hcl := (cloneR_any A0 c0 l0 w hr0 hc0 (by omega)).mono (fun e w' h => by
    obtain ⟨v, he, hR, hb⟩ := h
    obtain ⟨g, cap, hv, hg, hg2, hn, hcap, S⟩ := sw_of_R hR hne
    exact (show ∃ g cap, e = .returned (.slice (some ⟨g, 0, none⟩) l0.length cap) ∧ (w.heap.size ≤ g ∧ g < w'.heap.size ∧ l0.length ≤ cap ∧ cap ≤ maxLen ∧ SW encQ 4 w' g 0 l0.toArray w' ∧ Below w.heap.size w w') from ⟨g, cap, hv ▸ he, hg, hg2, hn, hcap, S, hb⟩))
  have HCL := Lib.hid hcl
  have hM : Geo.mergeF l0 = (puts (ltOf ordR) (l0.filter keepR)).foldl joinR [] := rfl
  rw [hM]
  obtain ⟨n, hn⟩ : ∃ n, n = l0.length := ⟨_, rfl⟩
  rw [← hn] at HCL ⊢
  have HN := Lib.hid hn
  have HL := Lib.hid hl
  clear hcl hr0 hc0 hne hM hn hl
  have HDEL := Lib.hid (fun (w0 W : World) (g cap : Nat) (S : SW encQ 4 w0 g 0 l0.toArray W) (hcap : l0.length ≤ cap) (hm : cap ≤ maxLen) => delete_any S cap (by have := HL.out; simp; omega) (by simpa using hcap) hm)
  go_enter Try.func8, Try.ntmps8
  go_wp2_with (first | (go_at_call 20; refine HCL.out.mono ?_; rintro _ w1 ⟨g, cap, rfl, hx⟩; have HX := Lib.hid hx; clear hx) | (go_at_call 19; have hd := HDEL.out w1 w1 g cap HX.out.2.2.2.2.1 (by have := HX.out.2.2.1; have := HN.out; omega) HX.out.2.2.2.1; rw [List.size_toArray, ← HN.out] at hd; refine hd.mono ?_; rintro _ w2 ⟨d2, rfl, hf, S2⟩; clear hd) | (go_at_call 22; refine (sortStable_any lays rkR ordR 23 #[] egR cmpR cap S2 (by have h1 := HL.out; have h2 : d2.size ≤ l0.length := (by rw [← Array.length_toList, hf]; exact List.length_filter_le _ _); omega)).mono ?_; rintro _ w3 ⟨rfl, S3⟩))
  have hz : (stab (ltOf ordR) d2).size = d2.size := (stab_ok swoR d2).1.1
  have hL : puts (ltOf ordR) (l0.filter keepR) = (stab (ltOf ordR) d2).toList := by rw [stab_puts swoR d2, hf]
  obtain ⟨d3, hd3⟩ : ∃ d3, d3 = stab (ltOf ordR) d2 := ⟨_, rfl⟩
  rw [← hd3] at S3 hz hL
  obtain ⟨L, hLL⟩ : ∃ L, L = d3.toList := ⟨_, rfl⟩
  rw [← hLL] at hL
  have HFIN := Lib.hid hL
  obtain ⟨N, hN2⟩ : ∃ N, N = d2.size := ⟨_, rfl⟩
  rw [← hN2] at hz ⊢
  have hNN : N = d3.size := hz.symm
  have hLN : L.length = N := by rw [hLL, hNN]; simp
  have h40 : N ≤ 40 := by
    have h1 := HL.out
    have h2 : N ≤ l0.length := by rw [hN2, ← Array.length_toList, hf]; exact List.length_filter_le _ _
    omega
  have HBW := Lib.hid (show Below w.heap.size w w3 from by
    obtain ⟨x1, x2, x3, x4, x5, x6⟩ := HX.out
    exact ⟨S3.os.trans x6.os, S3.tape.trans x6.tape, S3.output.trans x6.output, Nat.le_trans x6.size S3.size, fun b hb => (S3.block b (Nat.lt_of_lt_of_le hb x6.size) (by omega)).trans (x6.block b hb)⟩)
  have HG := Lib.hid (show g < w3.heap.size from S3.lt)
  have HLL := Lib.hid hLL
  have HNN := Lib.hid hNN
  have HLN0 := Lib.hid hLN
  have HS3 := Lib.hid S3
  clear hL hz hd3 hf S2 S3 hLL hNN hLN hN2 HX HDEL HCL
  go_loopg [4, 15] N (fun kx v4 v15 wr => ∃ j : Nat, v15 = .int .i64 j ∧ j ≤ N ∧ N - j ≤ kx ∧ Hid (Kd.R k27 27 wr w3.heap.size (fun _ => True) v4 ((L.take j).foldl joinR [])) ∧ Hid (Below w3.heap.size w3 wr))
  case atStart => exact ⟨0, rfl, by omega, by omega, Lib.hid (Kd.R_nil _ _ _ _ _), Lib.hid (Below.refl _ _)⟩
  case round =>
    obtain ⟨j, rfl, hj, hkx, HO, HB⟩ := hrel
    obtain ⟨A, cp, rfl, hle, hC⟩ := Kd.R_reads HO.out
    clear hle hC
    by_cases hlt : j < N
    · have hltz : (j : Int) < (N : Int) := by omega
      have hjd : j < d3.size := by have := HNN.out; omega
      have Sw := HS3.out.below HB.out
      obtain ⟨⟨q0, q1, q2, q3⟩, -⟩ := cells4 Sw j hjd
      have hx : d3[j]! = L.getD j z27 := by rw [getElem!_pos d3 j hjd, HLL.out]; simp [hjd]
      rw [hx] at q0 q1 q2 q3
      have eN := take_succ_foldl L j (by have := HLN0.out; omega)
      have hln := join_len (L.take j) []
      have hlt2 : (L.take j).length ≤ 40 := by rw [List.length_take]; omega
      clear Sw hx hjd
      generalize L.getD j z27 = x at q0 q1 q2 q3 eN
      have EN := Lib.hid eN
      have HLN := Lib.hid (show ((L.take j).foldl joinR []).length ≤ 40 by simp only [List.length_nil, Nat.zero_add] at hln; omega)
      clear eN hln hlt2
      rcases List.eq_nil_or_concat ((L.take j).foldl joinR []) with ho | ⟨oo, y, ho⟩
      · rw [ho] at HO EN HLN ⊢
        clear ho
        go_wp2_with fail
        have HO3 := Lib.hid (Kd.R_alloc HO.out (.cells #[.int .i64 x.f0, .int .i64 x.f1, .int .i64 x.f2, .int .i64 x.f3] 27))
        have HP3 := Lib.hid (blk_new wr (.cells #[.int .i64 x.f0, .int .i64 x.f1, .int .i64 x.f2, .int .i64 x.f3] 27))
        have HB3 := Lib.hid (below_alloc HB.out (.cells #[.int .i64 x.f0, .int .i64 x.f1, .int .i64 x.f2, .int .i64 x.f3] 27))
        obtain ⟨W3, hW3⟩ : ∃ W3, wr.alloc (.cells #[.int .i64 x.f0, .int .i64 x.f1, .int .i64 x.f2, .int .i64 x.f3] 27) = W3 := ⟨_, rfl⟩
        obtain ⟨gp, hgp⟩ : ∃ gp, wr.heap.size = gp := ⟨_, rfl⟩
        rw [hW3] at HO3 HB3 ⊢
        rw [hW3, hgp] at HP3
        rw [hgp]
        clear hW3 hgp HO HB q0 q1 q2 q3
        obtain ⟨x0, x1, x2, x3⟩ := cz4 HP3.out
        go_quiet (fail)
        go_wp2_with ((with_reducible refine gate_builtin (b := .append) (xs := #[.tmp 60, .tmp 62]) rfl ?_); at_builtin; refine Kd.R_append k27 (w0 := w3) w3.heap.size rfl (.tmp 60) (.tmp 62) 22 27 (.agg #[(.int .i64 0), (.int .i64 0), (.int .i64 0), (.int .i64 0)]) 32 rfl Try.underlying22 info27 rfl (by decide) (by omega) (.slice A 0 cp) [] (x : S27) [.int .i64 x.f0, .int .i64 x.f1, .int .i64 x.f2, .int .i64 x.f3] (fun _ => True) (fun _ => False) rfl (by first | (go_simp; done) | (go_simp; rfl)) ?aP (fun _ hk => hk.elim) ?aF ?aO ?aB ?aS ?aL ?_; (case aP => exact k27_mkM _ _ _ x); (case aB => exact (pw_below_drewN HB3.out nq)); (case aF => exact (fun _ _ => trivial)); (case aO => exact (Kd.R_drewN HO3.out nq)); (case aS => exact HB3.out.size); (case aL => have h1 := HLN.out; omega); intro v1 w4 ho hb hgr hat; have HO4 := Lib.hid ho; have HB4 := Lib.hid hb; clear ho hb hgr hat)
        go_roundg (N - (j + 1))
        case measure => omega
        case rel => exact ⟨j + 1, by go_num, by omega, Nat.le_refl _, Lib.hid (by rw [EN.out, joinR_nil]; exact HO4.out), HB4⟩
      · rw [List.concat_eq_append] at ho
        rw [ho] at HO EN HLN ⊢
        clear ho
        have hl2 : ((oo ++ [y]).length : Int) - 1 = oo.length := by simp
        obtain ⟨ln, hln⟩ : ∃ ln, ln = (oo ++ [y]).length := ⟨_, rfl⟩
        obtain ⟨ji, hji⟩ : ∃ ji : Int, ji = oo.length := ⟨_, rfl⟩
        have hji2 : wrap64 ((ln : Int) - 1) = ji := by rw [hln, hl2, hji]; have := HLN.out; rw [List.length_append, List.length_singleton] at this; simp only [wrap64]; omega
        have hjw : (IntKind.i64.wrap ((ln : Int) - 1)) = ji := (i64_w _).trans hji2
        have hjs : (ln : Int) - 1 = ji := by rw [hln, hl2, hji]
        have p0 : 0 ≤ ji := by omega
        have p1 : ji < (ln : Int) := by rw [hln]; simp; omega
        rw [← hln] at HO HLN ⊢
        have Hln := Lib.hid hln; have Hji := Lib.hid hji; have HJS := Lib.hid hjs; clear hln hji hl2 hji2
        clear hjs
        go_wp2_with fail
        have HO3 := Lib.hid (Kd.R_alloc HO.out (.cells #[.int .i64 x.f0, .int .i64 x.f1, .int .i64 x.f2, .int .i64 x.f3] 27))
        have HP3 := Lib.hid (blk_new wr (.cells #[.int .i64 x.f0, .int .i64 x.f1, .int .i64 x.f2, .int .i64 x.f3] 27))
        have HB3 := Lib.hid (below_alloc HB.out (.cells #[.int .i64 x.f0, .int .i64 x.f1, .int .i64 x.f2, .int .i64 x.f3] 27))
        obtain ⟨W3, hW3⟩ : ∃ W3, wr.alloc (.cells #[.int .i64 x.f0, .int .i64 x.f1, .int .i64 x.f2, .int .i64 x.f3] 27) = W3 := ⟨_, rfl⟩
        obtain ⟨gp, hgp⟩ : ∃ gp, wr.heap.size = gp := ⟨_, rfl⟩
        rw [hW3] at HO3 HB3 ⊢
        rw [hW3, hgp] at HP3
        rw [hgp]
        clear hW3 hgp HO HB q0 q1 q2 q3
        obtain ⟨x0, x1, x2, x3⟩ := cz4 HP3.out
        have hpos : 0 < (oo ++ [y]).length := by simp
        rw [Hln.out] at HO3
        obtain ⟨g0, cp', hv, hgb, hgl, _⟩ := Kd.R_form HO3.out hpos
        injection hv with hA hl hcp
        subst hA hcp
        rw [← Hln.out] at HO3
        obtain ⟨ce, hcl, hM, hcc, hfr⟩ := Kd.R_elem HO3.out z27 ji p0 p1
        have hrd : (oo ++ [y]).getD ji.toNat z27 = y := by
          rw [Hji.out, Int.toNat_natCast, List.getD_eq_getElem?_getD]; simp
        rw [hrd] at hM
        obtain rfl := k27_openM hM
        have y0 := hcc 0 _ rfl; have y1 := hcc 1 _ rfl; have y2 := hcc 2 _ rfl; have y3 := hcc 3 _ rfl; have z2 := hfr 2
        simp only [show (k27).sz = 4 from rfl, Nat.add_zero] at y0 y1 y2 y3 z2
        have HSEG := Lib.hid (fun (v : Int) (nq : Nat) => Kd.R_seg (Kd.R_drewN HO3.out nq) ji p0 p1 (seg := [.int .i64 v]) (j := 2) hcl hcc (show 3 ≤ 4 by decide) (x' := (⟨y.f0, y.f1, v, y.f3⟩ : S27)) (k27_mkM _ _ _ (⟨y.f0, y.f1, v, y.f3⟩ : S27)) (fun _ hk => hk))
        have HY := Lib.hid hgb
        clear hcl hM hcc hfr hrd hgb hl hgl
        obtain ⟨s12, hs12⟩ : ∃ s12, s12 = wrap64 (y.f1 + y.f2) := ⟨_, rfl⟩
        obtain ⟨s22, hs22⟩ : ∃ s22, s22 = wrap64 (y.f2 + x.f2) := ⟨_, rfl⟩
        have w1 : IntKind.i64.wrap (y.f1 + y.f2) = s12 := (i64_w _).trans hs12.symm
        have w2 : IntKind.i64.wrap (y.f2 + x.f2) = s22 := (i64_w _).trans hs22.symm
        have S12 := Lib.hid hs12; have S22 := Lib.hid hs22; clear hs12 hs22
        have gb0 : decide (0 ≤ ji) = true := decide_eq_true p0
        by_cases d1 : y.f0 = x.f0
        · have d1b : (y.f0 == x.f0) = true := beq_iff_eq.mpr d1
          have D1 := Lib.hid d1; clear d1
          by_cases d2 : s12 = x.f1
          · have d2b : (s12 == x.f1) = true := beq_iff_eq.mpr d2
            have D2 := Lib.hid d2; clear d2
            go_quiet (fail)
            go_wp2_with fail
            go_big_region_o
            all_goals go_wp2
            have hseg := HSEG.out s22 (nq + 1)
            go_roundg (N - (j + 1))
            case measure => omega
            case rel =>
              refine ⟨j + 1, by go_num, by omega, Nat.le_refl _, Lib.hid ?_, Lib.hid (below_set (pw_below_drewN HB3.out (nq + 1)) HY.out)⟩
              rw [EN.out, joinR_snoc, if_pos ⟨D1.out, S12.out.symm.trans D2.out⟩, ← S22.out]
              have hset : (oo ++ [y]).set ji.toNat (⟨y.f0, y.f1, s22, y.f3⟩ : S27) = oo ++ [⟨y.f0, y.f1, s22, y.f3⟩] := by
                rw [Hji.out, Int.toNat_natCast, List.set_append_right _ _ (Nat.le_refl _)]; simp
              rw [← hset]; exact hseg.1
          · have d2b : (s12 == x.f1) = false := beq_eq_false_iff_ne.mpr d2
            have D2 := Lib.hid d2; clear d2
            go_quiet (fail)
            go_wp2_with ((with_reducible refine gate_builtin (b := .append) (xs := #[.tmp 60, .tmp 62]) rfl ?_); at_builtin; refine Kd.R_append k27 (w0 := w3) w3.heap.size rfl (.tmp 60) (.tmp 62) 22 27 (.agg #[(.int .i64 0), (.int .i64 0), (.int .i64 0), (.int .i64 0)]) 32 rfl Try.underlying22 info27 rfl (by decide) (by omega) (.slice (some ⟨g0, 0, none⟩) ln cp) (oo ++ [y]) (x : S27) [.int .i64 x.f0, .int .i64 x.f1, .int .i64 x.f2, .int .i64 x.f3] (fun _ => True) (fun _ => False) rfl (by first | (go_simp; done) | (go_simp; rfl)) ?aP (fun _ hk => hk.elim) ?aF ?aO ?aB ?aS ?aL ?_; (case aP => exact k27_mkM _ _ _ x); (case aB => exact (pw_below_drewN HB3.out nq)); (case aF => exact (fun _ _ => trivial)); (case aO => exact (Kd.R_drewN HO3.out nq)); (case aS => exact HB3.out.size); (case aL => have h1 := HLN.out; have h2 := Hln.out; omega); intro v1 w4 ho hb hgr hat; have HO4 := Lib.hid ho; have HB4 := Lib.hid hb; clear ho hb hgr hat)
            go_roundg (N - (j + 1))
            case measure => omega
            case rel => exact ⟨j + 1, by go_num, by omega, Nat.le_refl _, Lib.hid (by rw [EN.out, joinR_snoc, if_neg (fun q => D2.out (S12.out.trans q.2))]; exact HO4.out), HB4⟩
        · have d1b : (y.f0 == x.f0) = false := beq_eq_false_iff_ne.mpr d1
          have D1 := Lib.hid d1; clear d1
          go_quiet (fail)
          go_wp2_with ((with_reducible refine gate_builtin (b := .append) (xs := #[.tmp 60, .tmp 62]) rfl ?_); at_builtin; refine Kd.R_append k27 (w0 := w3) w3.heap.size rfl (.tmp 60) (.tmp 62) 22 27 (.agg #[(.int .i64 0), (.int .i64 0), (.int .i64 0), (.int .i64 0)]) 32 rfl Try.underlying22 info27 rfl (by decide) (by omega) (.slice (some ⟨g0, 0, none⟩) ln cp) (oo ++ [y]) (x : S27) [.int .i64 x.f0, .int .i64 x.f1, .int .i64 x.f2, .int .i64 x.f3] (fun _ => True) (fun _ => False) rfl (by first | (go_simp; done) | (go_simp; rfl)) ?aP (fun _ hk => hk.elim) ?aF ?aO ?aB ?aS ?aL ?_; (case aP => exact k27_mkM _ _ _ x); (case aB => exact (pw_below_drewN HB3.out nq)); (case aF => exact (fun _ _ => trivial)); (case aO => exact (Kd.R_drewN HO3.out nq)); (case aS => exact HB3.out.size); (case aL => have h1 := HLN.out; have h2 := Hln.out; omega); intro v1 w4 ho hb hgr hat; have HO4 := Lib.hid ho; have HB4 := Lib.hid hb; clear ho hb hgr hat)
          go_roundg (N - (j + 1))
          case measure => omega
          case rel => exact ⟨j + 1, by go_num, by omega, Nat.le_refl _, Lib.hid (by rw [EN.out, joinR_snoc, if_neg (fun q => D1.out q.1)]; exact HO4.out), HB4⟩
    · have hltz : ¬ (j : Int) < (N : Int) := by omega
      go_wp2
      go_ret
      refine ⟨_, rfl, ?_, below_step HBW.out HB.out⟩
      have ht : L.foldl joinR [] = (L.take j).foldl joinR [] := by rw [List.take_of_length_le (by have := HLN0.out; omega)]
      rw [HFIN.out, ht]
      exact Kd.R_lower HO.out HBW.out.size
end Go.Proofs.Ytbjpjddhkpnofaa
