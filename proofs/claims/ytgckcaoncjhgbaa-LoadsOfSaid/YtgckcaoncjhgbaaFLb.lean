/- lzone.rightZone: may a zone be? The closure over the size, slices.IndexFunc, ContainsFunc. -/
/- lzone.Counts: how many zones are open, and in use. -/
/- slices.Clone of zones: the same zones, a row of one's own. -/
import Derived.Test.YtgckcaoncjhgbaaLzWords
set_option maxHeartbeats 2000000
set_option maxRecDepth 100000
open Go.Lib (hid)
namespace Go.Proofs.Ytgckcaoncjhgbaa
open Go.RowKit Go.Proofs.Ytgckcaoncjhgbaa.PL Go.Proofs.YtgckcaoncjhgbaaW.PrintWords Go.Proofs.YtgckcaoncjhgbaaW.PrintLast
set_option linter.unusedVariables false
set_option linter.unusedSimpArgs false
def rzB (low high : Int) (z : S59) : Bool := decide (low <= z.f1) && (decide (z.f1 <= high) && (decide (0 <= z.f2) && decide (z.f2 <= 1099511627776)))
def rzP (size : Int) (z : S59) : Bool := if z.f0 = 0 then rzB 0 0 z else if z.f0 = 2 then rzB 1 (size - 1) z else if z.f0 = 1 then rzB 0 (size - 1) z else if z.f0 = 3 then rzB 0 size z else false
theorem rightZone_any (z : S59) (size : Int) (h0 : 0 <= size) (h1 : size <= 1000000000) (w : World) :
  Calls Try.prog 71 #[.agg #[.int .i64 z.f0, .int .i64 z.f1, .int .i64 z.f2], .int .i64 size] w fun e w' => e = .returned (.bool (rzP size z)) /\ Below w.heap.size w w' := by
 obtain ⟨st, wp, gen⟩ := z
 have hw : wrap64 (size - 1) = size - 1 := by unfold wrap64; omega
 have hb := ju_ w (.cells #[.int .i64 st, .int .i64 wp, .int .i64 gen] 59)
 have x0 := (je_ hb 0).trans rfl
 have x1 := (je_ hb 1).trans rfl
 have x2 := (je_ hb 2).trans rfl
 have key : ∀ low high : Int, rzB low high ⟨st, wp, gen⟩ = (decide (low <= wp) && (decide (wp <= high) && (decide (0 <= gen) && decide (gen <= 1099511627776)))) := fun _ _ => rfl
 clear hb
 have hr : rzP size ⟨st, wp, gen⟩ = (if st = 0 then rzB 0 0 ⟨st, wp, gen⟩ else if st = 2 then rzB 1 (size - 1) ⟨st, wp, gen⟩ else if st = 1 then rzB 0 (size - 1) ⟨st, wp, gen⟩ else if st = 3 then rzB 0 size ⟨st, wp, gen⟩ else false) := rfl
 by_cases c0 : st = 0
 ·
  rw [hr, if_pos c0, key]; clear hr key
  subst c0
  go_enter Try.func71, Try.ntmps71
  go_wp2
  all_goals (go_ret; refine ⟨?_, jg_ (Below.refl _ w) _⟩; first | rfl | (simp [*]; done) | (simp [*]; omega) | (congr 2; symm; simp; omega))
 ·
  rw [hr, if_neg c0]; clear hr
  have c0b : (st == 0) = false := beq_eq_false_iff_ne.mpr c0
  by_cases c2 : st = 2
  ·
   rw [if_pos c2, key]; clear key
   subst c2
   go_enter Try.func71, Try.ntmps71
   go_wp2
   all_goals (go_ret; refine ⟨?_, jg_ (Below.refl _ w) _⟩; first | rfl | (simp [*]; done) | (simp [*]; omega) | (congr 2; symm; simp; omega))
  ·
   have c2b : (st == 2) = false := beq_eq_false_iff_ne.mpr c2
   rw [if_neg c2]
   by_cases c1 : st = 1
   ·
    rw [if_pos c1, key]; clear key
    subst c1
    go_enter Try.func71, Try.ntmps71
    go_wp2
    all_goals (go_ret; refine ⟨?_, jg_ (Below.refl _ w) _⟩; first | rfl | (simp [*]; done) | (simp [*]; omega) | (congr 2; symm; simp; omega))
   ·
    have c1b : (st == 1) = false := beq_eq_false_iff_ne.mpr c1
    rw [if_neg c1]
    by_cases c3 : st = 3
    ·
     rw [if_pos c3, key]; clear key
     subst c3
     go_enter Try.func71, Try.ntmps71
     go_wp2
     all_goals (go_ret; refine ⟨?_, jg_ (Below.refl _ w) _⟩; first | rfl | (simp [*]; done) | (simp [*]; omega) | (congr 2; symm; simp; omega))
    ·
     have c3b : (st == 3) = false := beq_eq_false_iff_ne.mpr c3
     rw [if_neg c3]; clear key
     go_enter Try.func71, Try.ntmps71
     go_wp2
     all_goals (go_ret; refine ⟨?_, jg_ (Below.refl _ w) _⟩; first | rfl | (simp [*]; done) | (simp [*]; omega) | (congr 2; symm; simp; omega))
theorem zd_ (z : S59) (size : Int) (h0 : 0 <= size) (h1 : size <= 1000000000) (B : Nat) (w : World) (hB : w.heap[B]? = some (.cells #[.int .i64 size] 3 (0, 0))) :
  Calls Try.prog 70 #[.agg #[.int .i64 z.f0, .int .i64 z.f1, .int .i64 z.f2], .pointer (some ⟨B, 0, none⟩)] w fun e w' => e = .returned (.bool (!rzP size z)) /\ Below w.heap.size w w' := by
 have hb := ju_ w (.cells #[.int .i64 z.f0, .int .i64 z.f1, .int .i64 z.f2] 59)
 have x0 := (je_ hb 0).trans rfl
 have x1 := (je_ hb 1).trans rfl
 have x2 := (je_ hb 2).trans rfl
 have y0 := (je_ (ja_ hB (.cells #[.int .i64 z.f0, .int .i64 z.f1, .int .i64 z.f2] 59)) 0).trans rfl
 clear hb hB
 go_enter Try.func70, Try.ntmps70
 go_wp2_with (go_at_call 71; refine (rightZone_any z size h0 h1 _).mono ?_; rintro e w1 ⟨rfl, hb1⟩; have HB1 := hid (jc_ (jg_ (Below.refl _ w) (.cells #[.int .i64 z.f0, .int .i64 z.f1, .int .i64 z.f2] 59)) hb1); clear hb1)
 go_ret
 exact ⟨rfl, HB1.out⟩
theorem index_any (A0 : Option Addr) (c0 : Nat) (L : List S59) (size : Int) (h0 : 0 <= size) (h1 : size <= 1000000000) (B : Nat) (w : World) (hB : w.heap[B]? = some (.cells #[.int .i64 size] 3 (0, 0))) (hr0 : Kd.C k59 w A0 L.length L) (hc0 : L.length <= c0) :
  Calls Try.prog 108 #[.slice A0 L.length c0, .func (.func 70) #[] #[.pointer (some ⟨B, 0, none⟩)]] w fun e w' => ∃ i : Int, e = .returned (.int .i64 i) /\ decide (0 <= i) = L.any (fun z => !rzP size z) /\ Below w.heap.size w w' := by
 have HR := hid hr0; have HBX := hid hB
 obtain ⟨n, hn⟩ : ∃ n, n = L.length := ⟨_, rfl⟩
 rw [<- hn]
 have Hn := hid hn
 clear hr0 hB hn
 go_enter Try.func108, Try.ntmps108
 go_wp2
 have HM := hid (Kd.C_max HR.out)
 go_loopw [8] (fun v8 wr => ∃ j : Nat, v8 = .int .i64 j /\ j <= n /\ Hid (∀ i : Nat, i < j -> rzP size (L.getD i z59) = true) /\ Hid (Below w.heap.size w wr)) (fun v8 _ => ((n : Int) - intOf v8).toNat)
 case atStart => exact ⟨0, rfl, by omega, hid (fun i hi => by omega), hid (Below.refl _ _)⟩
 case round =>
  obtain ⟨j, rfl, hj, HA, HB⟩ := hrel
  by_cases hlt : j < n
  ·
   have c1 : (j : Int) < (n : Int) := by omega
   have hC := Kd.C_below HR.out HB.out
   obtain ⟨ad, e, y0, y1, y2⟩ := kn_ hC (j : Int) (by omega) (by have := Hn.out; omega)
   subst e
   obtain ⟨x, hx⟩ : ∃ x, x = jl_ L (j : Int) := ⟨_, rfl⟩
   rw [<- hx] at y0 y1 y2
   simp only [Int.toNat_natCast] at y0 y1 y2
   have HX := hid hx; clear hx hC
   have hmem : x ∈ L := by
    rw [HX.out]; unfold jl_; rw [Int.toNat_natCast, List.getD_eq_getElem?_getD, List.getElem?_eq_getElem (by have := Hn.out; omega)]; exact List.getElem_mem _
   have hgx : L.getD j z59 = x := by rw [HX.out]; unfold jl_; rw [Int.toNat_natCast]
   have HMX := hid hmem; have HGX := hid hgx; clear hmem hgx
   by_cases hz : rzP size x = true
   ·
    go_wp2_with (go_at_call 70; refine (zd_ x size h0 h1 B _ (jb_ HBX.out HB.out)).mono ?_; rintro e w1 ⟨rfl, hb1⟩; have HB1 := hid (jc_ HB.out hb1); clear hb1)
    have hM := HM.out; have hN := Hn.out
    have e2 : wrap64 ((j : Int) + 1) = ((j + 1 : Nat) : Int) := by unfold wrap64; push_cast; omega
    rw [e2]
    refine ⟨⟨j + 1, rfl, by omega, hid (fun i hi => ?_), HB1⟩, ?_⟩
    ·
     by_cases e : i = j
     · subst e; rw [HGX.out]; exact hz
     · exact HA.out i (by omega)
    · simp only [intOf]; push_cast; omega
   ·
    have hz : rzP size x = false := by simpa using hz
    go_wp2_with (go_at_call 70; refine (zd_ x size h0 h1 B _ (jb_ HBX.out HB.out)).mono ?_; rintro e w1 ⟨rfl, hb1⟩; have HB1 := hid (jc_ HB.out hb1); clear hb1)
    go_ret
    refine ⟨_, rfl, ?_, HB1.out⟩
    rw [decide_eq_true (by omega)]; symm
    rw [List.any_eq_true]; exact ⟨x, HMX.out, by rw [hz]; rfl⟩
  ·
   go_wp2
   go_ret
   refine ⟨_, rfl, ?_, HB.out⟩
   rw [decide_eq_false (by decide)]; symm
   rw [List.any_eq_false]
   intro x hx
   obtain ⟨i, hi, rfl⟩ := List.getElem_of_mem hx
   have := HA.out i (by have := Hn.out; omega)
   rw [List.getD_eq_getElem?_getD, List.getElem?_eq_getElem hi] at this
   simpa using this
theorem contains_any (A0 : Option Addr) (c0 : Nat) (L : List S59) (size : Int) (h0 : 0 <= size) (h1 : size <= 1000000000) (B : Nat) (w : World) (hB : w.heap[B]? = some (.cells #[.int .i64 size] 3 (0, 0))) (hr0 : Kd.C k59 w A0 L.length L) (hc0 : L.length <= c0) :
  Calls Try.prog 69 #[.slice A0 L.length c0, .func (.func 70) #[] #[.pointer (some ⟨B, 0, none⟩)]] w fun e w' => e = .returned (.bool (L.any (fun z => !rzP size z))) /\ Below w.heap.size w w' := by
 go_enter Try.func69, Try.ntmps69
 go_wp2_with (go_at_call 108; refine (index_any A0 c0 L size h0 h1 B _ hB hr0 hc0).mono ?_; rintro e w1 ⟨i, rfl, hi, hb1⟩)
 go_ret
 refine ⟨?_, hb1⟩
 rw [<- hi]; rfl
def cntZ (lo hi : Int) (L : List S59) : Int := (L.countP (fun x => decide (lo <= x.f0) && decide (x.f0 <= hi)) : Nat)
theorem cntZ_le (lo hi : Int) (L : List S59) : 0 <= cntZ lo hi L /\ cntZ lo hi L <= L.length := by
 unfold cntZ; have := List.countP_le_length (p := fun x : S59 => decide (lo <= x.f0) && decide (x.f0 <= hi)) (l := L); omega
theorem zR_ (lo hi : Int) (L : List S59) (j : Nat) (h : j < L.length) : cntZ lo hi (L.take (j + 1)) = cntZ lo hi (L.take j) + (if lo <= (jl_ L (j : Int)).f0 /\ (jl_ L (j : Int)).f0 <= hi then 1 else 0) := by
 have e : jl_ L (j : Int) = L[j] := by unfold jl_; rw [Int.toNat_natCast, List.getD_eq_getElem?_getD, List.getElem?_eq_getElem h]; rfl
 unfold cntZ
 rw [e, List.take_add_one, List.countP_append, List.getElem?_eq_getElem h]
 simp only [Option.toList_some, List.countP_singleton]
 split <;> split <;> simp_all <;> omega
theorem counts_any (id m u b c z s me o a l : Int) (A0 : Option Addr) (c0 : Nat) (L : List S59) (w : World) (hr0 : Kd.C k59 w A0 L.length L) (hc0 : L.length <= c0) :
  Calls Try.prog 18 #[tabV id m u b c z s me o a l (.slice A0 L.length c0)] w fun e w' => e = .returned (.tuple #[.int .i64 (cntZ 1 1 L), .int .i64 (cntZ 1 2 L)]) /\ Below w.heap.size w w' := by
 have HR := hid hr0
 obtain ⟨n, hn⟩ : ∃ n, n = L.length := ⟨_, rfl⟩
 rw [<- hn]
 have Hn := hid hn
 clear hr0 hn
 have H := al1 w (tabO id m u b c z s me o a l (.slice A0 n c0))
 have HB0 := hid H.2
 obtain ⟨x0, x1, x2, x3, x4, x5, x6, x7, x8, x9, x10, x11⟩ := cz12 H.1
 clear H
 have HM := hid (Kd.C_max HR.out)
 go_enter Try.func18, Try.ntmps18
 go_wp2
 clear x0 x1 x2 x3 x4 x5 x6 x7 x8 x9 x10 x11
 go_loopw [2, 3, 9] (fun v2 v3 v9 wr => ∃ j : Nat, v2 = .int .i64 (cntZ 1 1 (L.take j)) /\ v3 = .int .i64 (cntZ 1 2 (L.take j)) /\ v9 = .int .i64 j /\ j <= n /\ Hid (Below w.heap.size w wr)) (fun v2 v3 v9 _ => ((n : Int) - intOf v9).toNat)
 case atStart => exact ⟨0, by simp [cntZ], by simp [cntZ], rfl, by omega, HB0⟩
 case round =>
  obtain ⟨j, rfl, rfl, rfl, hj, HB⟩ := hrel
  by_cases hlt : j < n
  ·
   have c1 : (j : Int) < (n : Int) := by omega
   have hC := Kd.C_below HR.out HB.out
   obtain ⟨ad, e, y0, y1, y2⟩ := kn_ hC (j : Int) (by omega) (by have := Hn.out; omega)
   subst e
   have hM := HM.out; have hN := Hn.out
   have n1 := zR_ 1 1 L j (by omega)
   have n2 := zR_ 1 2 L j (by omega)
   have l1 := cntZ_le 1 1 (L.take j); have l2 := cntZ_le 1 2 (L.take j)
   rw [List.length_take] at l1 l2
   obtain ⟨x, hx⟩ : ∃ x, x = jl_ L (j : Int) := ⟨_, rfl⟩
   rw [<- hx] at y0 y1 y2 n1 n2
   simp only [Int.toNat_natCast] at y0 y1 y2
   clear hx hC
   have z0 : ∀ W : World, (W.alloc (zoO x.f0 x.f1 x.f2)).cell? ⟨W.heap.size, 0, none⟩ = some (.int .i64 x.f0) := fun W => (je_ (ju_ W _) 0).trans rfl
   have N1 := hid n1; have N2 := hid n2; have L1 := hid l1; have L2 := hid l2; have HN := hid hN; clear n1 n2 l1 l2 hN
   have fin : ∀ W : World, Below w.heap.size w W -> ∃ j' : Nat, Value.int .i64 (cntZ 1 1 (L.take (j + 1))) = .int .i64 (cntZ 1 1 (L.take j')) /\ Value.int .i64 (cntZ 1 2 (L.take (j + 1))) = .int .i64 (cntZ 1 2 (L.take j')) /\ Value.int .i64 ((j + 1 : Nat) : Int) = .int .i64 (j' : Int) /\ j' <= n /\ Hid (Below w.heap.size w W) := fun W h => ⟨j + 1, rfl, rfl, rfl, by omega, hid h⟩
   have e2 : wrap64 ((j : Int) + 1) = ((j + 1 : Nat) : Int) := by have := HN.out; unfold wrap64; push_cast; omega
   by_cases s1 : x.f0 = 1
   ·
    have s1b : (x.f0 == 1) = true := beq_iff_eq.mpr s1
    have e3 : wrap64 (cntZ 1 1 (L.take j) + 1) = cntZ 1 1 (L.take (j + 1)) := by have t := N1.out; have := L1.out; have := HN.out; rw [if_pos (show 1 <= x.f0 /\ x.f0 <= 1 by omega)] at t; unfold wrap64; omega
    have e4 : wrap64 (cntZ 1 2 (L.take j) + 1) = cntZ 1 2 (L.take (j + 1)) := by have t := N2.out; have := L2.out; have := HN.out; rw [if_pos (show 1 <= x.f0 /\ x.f0 <= 2 by omega)] at t; unfold wrap64; omega
    have E2 := hid e2; have E3 := hid e3; have E4 := hid e4; clear e2 e3 e4 s1
    go_wp2
    rw [E2.out, E3.out, E4.out]
    exact ⟨fin _ (jg_ HB.out _), by simp only [intOf]; push_cast; omega⟩
   ·
    have s1b : (x.f0 == 1) = false := beq_eq_false_iff_ne.mpr s1
    have e3 : cntZ 1 1 (L.take (j + 1)) = cntZ 1 1 (L.take j) := by have := N1.out; rw [if_neg (by omega)] at this; omega
    by_cases s2 : x.f0 = 2
    ·
     have s2b : (x.f0 == 2) = true := beq_iff_eq.mpr s2
     have e4 : wrap64 (cntZ 1 2 (L.take j) + 1) = cntZ 1 2 (L.take (j + 1)) := by have t := N2.out; have := L2.out; have := HN.out; rw [if_pos (show 1 <= x.f0 /\ x.f0 <= 2 by omega)] at t; unfold wrap64; omega
     have E2 := hid e2; have E3 := hid e3; have E4 := hid e4; clear e2 e3 e4 s1 s2
     go_wp2
     rw [E2.out, <- E3.out, E4.out]
     exact ⟨fin _ (jg_ HB.out _), by simp only [intOf]; push_cast; omega⟩
    ·
     have s2b : (x.f0 == 2) = false := beq_eq_false_iff_ne.mpr s2
     have e4 : cntZ 1 2 (L.take (j + 1)) = cntZ 1 2 (L.take j) := by have := N2.out; rw [if_neg (by omega)] at this; omega
     have E2 := hid e2; have E3 := hid e3; have E4 := hid e4; clear e2 e3 e4 s1 s2
     go_wp2
     rw [E2.out, <- E3.out, <- E4.out]
     exact ⟨fin _ (jg_ HB.out _), by simp only [intOf]; push_cast; omega⟩
  ·
   have e : j = n := by omega
   go_wp2
   refine bodyPost_ret (results_tmp2 rfl _ _ _) rfl ?_
   exact ⟨by rw [e, Hn.out, List.take_length]; rfl, HB.out⟩
theorem eqS_in (d : Nat) (w : World) (A : Option Addr) (n c : Nat) : (Op.equalIn (d + 1) 25 (Value.slice A n c) (Value.slice none 0 0)).run Try.prog w = .ok A.isNone w := by
 cases A <;> simp [Op.equalIn, run_underlying Try.underlying25]
theorem eqS_op (w : World) (A : Option Addr) (n c : Nat) : (Op.equal 25 (Value.slice A n c) (Value.slice none 0 0)).run Try.prog w = .ok A.isNone w := eqS_in 9999 w A n c
theorem eqS_any (w : World) (A : Option Addr) (n c : Nat) : (Go.binOp .eql 25 (Value.slice A n c) (Value.slice none 0 0)).run Try.prog w = .ok (.bool A.isNone) w := by
 simp [go_sem, Go.binOp, eqS_op, Result.andThen]
attribute [local go_sem] eqS_any
theorem cloneZ_any (A0 : Option Addr) (c0 : Nat) (l0 : List S59) (w : World) (hr0 : Kd.C k59 w A0 l0.length l0) (hc0 : l0.length <= c0) (hl : l0.length < 1000000000) :
  Calls Try.prog 84 #[.slice A0 l0.length c0] w fun e w' => ∃ v0_ : Value, e = .returned v0_ /\ Kd.R k59 59 w' w.heap.size (fun _ => True) v0_ l0 /\ Below w.heap.size w w' := by
 cases A0 with
 | none =>
  have h0 : l0 = [] := by
   rcases Nat.eq_zero_or_pos l0.length with h | h
   · exact List.eq_nil_of_length_eq_zero h
   · obtain ⟨ad, e, _⟩ := hr0.2.2 h; cases e
  subst h0
  clear hr0 hl
  go_enter Try.func84, Try.ntmps84
  go_wp2
  go_ret
  exact ⟨_, rfl, Kd.R_nil _ _ _ _ _, Below.refl _ _⟩
 | some ad =>
  obtain ⟨n, hn⟩ : ∃ n, n = l0.length := ⟨_, rfl⟩
  rw [<- hn] at hr0 hc0 hl ⊢
  have HR := hid hr0
  have Hn := hid hn; clear hn hr0
  go_enter Try.func84, Try.ntmps84
  have hO : Kd.R k59 59 (w.alloc (.cells #[] 59)) w.heap.size (fun _ => True) (.slice (some ⟨w.heap.size, 0, none⟩) 0 0) ([] : List S59) :=
   ⟨fun _ _ => trivial, [], ⟨rfl, .inr ⟨w.heap.size, 0, #[], rfl, Nat.le_refl _, ju_ w _, Nat.le_refl _, by simp [maxLen], rfl, rfl⟩⟩, ⟨rfl, fun j p hj => by simp at hj⟩⟩
  have HO := hid hO; clear hO
  have HB := hid (jg_ (Below.refl _ w) (.cells #[] 59))
  go_wp2_with ((with_reducible refine ki_ (b := .append) (xs := #[.tmp 5, .tmp 6]) rfl ?_); at_builtin; refine Kd.R_append_rows k59 (w0 := w) w.heap.size rfl (.tmp 5) (.tmp 6) 25 59 (.agg #[(.int .i64 0), (.int .i64 0), (.int .i64 0)]) 24 rfl Try.underlying25 info59 rfl (by decide) (by omega) (.slice (some ⟨w.heap.size, 0, none⟩) 0 0) [] l0 (some ad) n c0 (fun _ => True) (fun _ => False) rfl rfl ?aO ?aR (fun _ _ h => h) (fun _ h => h.elim) ?aF ?aB ?aS ?aL ?_; (case aR => exact Kd.C_alloc HR.out _); (case aB => exact HB.out); (case aF => exact (fun _ _ => trivial)); (case aO => exact HO.out); (case aS => exact HB.out.size); (case aL => simp; omega); intro v1 w4 ho hb hgr hat; have HO4 := hid ho; have HB4 := hid hb; clear ho hb hgr hat)
  go_ret
  exact ⟨_, rfl, HO4.out, HB4.out⟩
end Go.Proofs.Ytgckcaoncjhgbaa
