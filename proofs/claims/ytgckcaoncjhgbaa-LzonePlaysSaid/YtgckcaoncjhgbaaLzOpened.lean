/- lzone.opened, rested: a zone that is not full, open; the state of a zone that is not open any more. -/
import Derived.WalkKit
import Derived.WalkSpells
import Derived.WalkLawsBesides
import Derived.Lib.Hide
import Derived.Test.YtgckcaoncjhgbaaLzCounts
namespace Go.Proofs.Ytgckcaoncjhgbaa
open Go.RowKit Go.Proofs.Ytgckcaoncjhgbaa.PL Go.Proofs.YtgckcaoncjhgbaaW.PrintWords Go.Proofs.YtgckcaoncjhgbaaW.PrintLast
set_option linter.unusedVariables false
set_option linter.unusedSimpArgs false
/-- A zone, open, and why it can't be. -/
def openedZ (a o : Int) (L : List S59) (x : S59) : S59 × Int :=
  if x.f0 = 1 then (x, 0) else if x.f0 = 0 ∧ a ≤ cntZ 1 2 L then (x, 8) else if o ≤ cntZ 1 1 L then (x, 7) else (⟨1, x.f1, x.f2⟩, 0)
set_option maxHeartbeats 2000000 in
set_option maxRecDepth 100000 in
theorem opened_any (id m u b c z s me o a l : Int) (A0 : Option Addr) (c0 : Nat) (L : List S59) (x : S59) (w : World) (hr0 : Kd.C k59 w A0 L.length L) (hc0 : L.length ≤ c0) :
    Calls Try.prog 102 #[tabV id m u b c z s me o a l (.slice A0 L.length c0), zoV x] w fun e w' => e = .returned (.tuple #[zoV (openedZ a o L x).1, .int .i64 (openedZ a o L x).2]) ∧ Below w.heap.size w w' := by
  obtain ⟨n, hn⟩ : ∃ n, n = L.length := ⟨_, rfl⟩
  obtain ⟨V, hV⟩ : ∃ V, V = openedZ a o L x := ⟨_, rfl⟩
  rw [← hV]; unfold openedZ at hV
  have HK := Lib.hid (fun W h => counts_any id m u b c z s me o a l A0 c0 L W h hc0)
  rw [← hn] at HK hr0 hc0 ⊢
  generalize cntZ 1 1 L = p1 at HK hV; generalize cntZ 1 2 L = p2 at HK hV
  have HR := Lib.hid hr0; have HV := Lib.hid hV; have Hn := Lib.hid hn; clear hr0 hV hn
  obtain ⟨st, wp, gen⟩ := x
  have H := al3 w (tabO id m u b c z s me o a l (.slice A0 n c0)) (zoO st wp gen) (zoO 0 0 0)
  have H0 := Lib.hid H.1; have H1 := Lib.hid H.2.1; have H2 := Lib.hid H.2.2.1; have HB0 := Lib.hid H.2.2.2; clear H
  obtain ⟨x0, x1, x2, x3, x4, x5, x6, x7, x8, x9, x10, x11⟩ := cz12 H0.out
  have hge : w.heap.size ≤ w.heap.size + 1 + 1 := by omega
  have hgf : w.heap.size ≤ w.heap.size + 1 := by omega
  by_cases s1 : st = 1
  · have hv : V = (⟨st, wp, gen⟩, 0) := by have t := HV.out; rw [if_pos s1] at t; exact t
    subst hv; subst s1
    go_enter Try.func102, Try.ntmps102
    go_wp2_with (go_at_call 18; refine (HK.out _ (Kd.C_below HR.out HB0.out)).mono ?_; rintro e w1 ⟨rfl, hb1⟩; have HB1 := Lib.hid (below_step HB0.out hb1); have G1 := Lib.hid (blk_below H1.out hb1); have G2 := Lib.hid (blk_below H2.out hb1); have K1 := Lib.hid (blk_below H0.out hb1); obtain ⟨y0, y1, y2, y3, y4, y5, y6, y7, y8, y9, y10, y11⟩ := cz12 K1.out; obtain ⟨z0, z1, z2⟩ := cz3 G1.out; obtain ⟨f0, f1, f2⟩ := fz3 G1.out; obtain ⟨v0, v1, v2⟩ := cz3 G2.out; obtain ⟨g0, g1, g2⟩ := fz3 G2.out; clear hb1)
    refine bodyPost_ret (results_ct rfl _ _ (w.heap.size + 1 + 1) 59 #[.int .i64 1, .int .i64 wp, .int .i64 gen] (0, 0) _ rfl (put3 G2.out) Try.underlying59 rfl (by kernel_rfl)) rfl ?_
    exact ⟨rfl, bl3 HB1.out hge⟩
  · have s1b : (st == 1) = false := beq_eq_false_iff_ne.mpr s1
    by_cases s0 : st = 0
    · by_cases s2 : a ≤ p2
      · have hv : V = (⟨st, wp, gen⟩, 8) := by have t := HV.out; rw [if_neg s1, if_pos ⟨s0, s2⟩] at t; exact t
        subst hv; subst s0
        go_enter Try.func102, Try.ntmps102
        go_wp2_with (go_at_call 18; refine (HK.out _ (Kd.C_below HR.out HB0.out)).mono ?_; rintro e w1 ⟨rfl, hb1⟩; have HB1 := Lib.hid (below_step HB0.out hb1); have G1 := Lib.hid (blk_below H1.out hb1); have G2 := Lib.hid (blk_below H2.out hb1); have K1 := Lib.hid (blk_below H0.out hb1); obtain ⟨y0, y1, y2, y3, y4, y5, y6, y7, y8, y9, y10, y11⟩ := cz12 K1.out; obtain ⟨z0, z1, z2⟩ := cz3 G1.out; obtain ⟨f0, f1, f2⟩ := fz3 G1.out; obtain ⟨v0, v1, v2⟩ := cz3 G2.out; obtain ⟨g0, g1, g2⟩ := fz3 G2.out; clear hb1)
        refine bodyPost_ret (results_ct rfl _ _ (w.heap.size + 1 + 1) 59 #[.int .i64 0, .int .i64 wp, .int .i64 gen] (0, 0) _ rfl (put3 G2.out) Try.underlying59 rfl (by kernel_rfl)) rfl ?_
        exact ⟨rfl, bl3 HB1.out hge⟩
      · have hV2 : V = (if o ≤ p1 then (⟨st, wp, gen⟩, 7) else (⟨1, wp, gen⟩, 0)) := by have t := HV.out; rw [if_neg s1, if_neg (fun h => s2 h.2)] at t; exact t
        have HV := Lib.hid hV2; clear hV2
        subst s0
        by_cases s3 : o ≤ p1
        · have hv : V = (⟨0, wp, gen⟩, 7) := by have t := HV.out; rw [if_pos s3] at t; exact t
          subst hv
          go_enter Try.func102, Try.ntmps102
          go_wp2_with (go_at_call 18; refine (HK.out _ (Kd.C_below HR.out HB0.out)).mono ?_; rintro e w1 ⟨rfl, hb1⟩; have HB1 := Lib.hid (below_step HB0.out hb1); have G1 := Lib.hid (blk_below H1.out hb1); have G2 := Lib.hid (blk_below H2.out hb1); have K1 := Lib.hid (blk_below H0.out hb1); obtain ⟨y0, y1, y2, y3, y4, y5, y6, y7, y8, y9, y10, y11⟩ := cz12 K1.out; obtain ⟨z0, z1, z2⟩ := cz3 G1.out; obtain ⟨f0, f1, f2⟩ := fz3 G1.out; obtain ⟨v0, v1, v2⟩ := cz3 G2.out; obtain ⟨g0, g1, g2⟩ := fz3 G2.out; clear hb1)
          refine bodyPost_ret (results_ct rfl _ _ (w.heap.size + 1 + 1) 59 #[.int .i64 0, .int .i64 wp, .int .i64 gen] (0, 0) _ rfl (put3 G2.out) Try.underlying59 rfl (by kernel_rfl)) rfl ?_
          exact ⟨rfl, bl3 HB1.out hge⟩
        · have hv : V = (⟨1, wp, gen⟩, 0) := by have t := HV.out; rw [if_neg s3] at t; exact t
          subst hv
          go_enter Try.func102, Try.ntmps102
          go_wp2_with (go_at_call 18; refine (HK.out _ (Kd.C_below HR.out HB0.out)).mono ?_; rintro e w1 ⟨rfl, hb1⟩; have HB1 := Lib.hid (below_step HB0.out hb1); have G1 := Lib.hid (blk_below H1.out hb1); have G2 := Lib.hid (blk_below H2.out hb1); have K1 := Lib.hid (blk_below H0.out hb1); obtain ⟨y0, y1, y2, y3, y4, y5, y6, y7, y8, y9, y10, y11⟩ := cz12 K1.out; obtain ⟨z0, z1, z2⟩ := cz3 G1.out; obtain ⟨f0, f1, f2⟩ := fz3 G1.out; obtain ⟨v0, v1, v2⟩ := cz3 G2.out; obtain ⟨g0, g1, g2⟩ := fz3 G2.out; clear hb1)
          refine bodyPost_ret (results_ct rfl _ _ (w.heap.size + 1 + 1) 59 #[.int .i64 1, .int .i64 wp, .int .i64 gen] (0, 0) _ rfl (put3 (blk_far G2.out (by omega : w.heap.size + 1 + 1 ≠ w.heap.size + 1) _)) Try.underlying59 rfl (by kernel_rfl)) rfl ?_
          exact ⟨rfl, bl3 (below_set HB1.out hgf) hge⟩
    · have s0b : (st == 0) = false := beq_eq_false_iff_ne.mpr s0
      have hV2 : V = (if o ≤ p1 then (⟨st, wp, gen⟩, 7) else (⟨1, wp, gen⟩, 0)) := by have t := HV.out; rw [if_neg s1, if_neg (fun h => s0 h.1)] at t; exact t
      have HV := Lib.hid hV2; clear hV2
      by_cases s3 : o ≤ p1
      · have hv : V = (⟨st, wp, gen⟩, 7) := by have t := HV.out; rw [if_pos s3] at t; exact t
        subst hv
        go_enter Try.func102, Try.ntmps102
        go_wp2_with (go_at_call 18; refine (HK.out _ (Kd.C_below HR.out HB0.out)).mono ?_; rintro e w1 ⟨rfl, hb1⟩; have HB1 := Lib.hid (below_step HB0.out hb1); have G1 := Lib.hid (blk_below H1.out hb1); have G2 := Lib.hid (blk_below H2.out hb1); have K1 := Lib.hid (blk_below H0.out hb1); obtain ⟨y0, y1, y2, y3, y4, y5, y6, y7, y8, y9, y10, y11⟩ := cz12 K1.out; obtain ⟨z0, z1, z2⟩ := cz3 G1.out; obtain ⟨f0, f1, f2⟩ := fz3 G1.out; obtain ⟨v0, v1, v2⟩ := cz3 G2.out; obtain ⟨g0, g1, g2⟩ := fz3 G2.out; clear hb1)
        refine bodyPost_ret (results_ct rfl _ _ (w.heap.size + 1 + 1) 59 #[.int .i64 st, .int .i64 wp, .int .i64 gen] (0, 0) _ rfl (put3 G2.out) Try.underlying59 rfl (by kernel_rfl)) rfl ?_
        exact ⟨rfl, bl3 HB1.out hge⟩
      · have hv : V = (⟨1, wp, gen⟩, 0) := by have t := HV.out; rw [if_neg s3] at t; exact t
        subst hv
        go_enter Try.func102, Try.ntmps102
        go_wp2_with (go_at_call 18; refine (HK.out _ (Kd.C_below HR.out HB0.out)).mono ?_; rintro e w1 ⟨rfl, hb1⟩; have HB1 := Lib.hid (below_step HB0.out hb1); have G1 := Lib.hid (blk_below H1.out hb1); have G2 := Lib.hid (blk_below H2.out hb1); have K1 := Lib.hid (blk_below H0.out hb1); obtain ⟨y0, y1, y2, y3, y4, y5, y6, y7, y8, y9, y10, y11⟩ := cz12 K1.out; obtain ⟨z0, z1, z2⟩ := cz3 G1.out; obtain ⟨f0, f1, f2⟩ := fz3 G1.out; obtain ⟨v0, v1, v2⟩ := cz3 G2.out; obtain ⟨g0, g1, g2⟩ := fz3 G2.out; clear hb1)
        refine bodyPost_ret (results_ct rfl _ _ (w.heap.size + 1 + 1) 59 #[.int .i64 1, .int .i64 wp, .int .i64 gen] (0, 0) _ rfl (put3 (blk_far G2.out (by omega : w.heap.size + 1 + 1 ≠ w.heap.size + 1) _)) Try.underlying59 rfl (by kernel_rfl)) rfl ?_
        exact ⟨rfl, bl3 (below_set HB1.out hgf) hge⟩
set_option maxHeartbeats 2000000 in
set_option maxRecDepth 100000 in
theorem rested_any (x : S59) (w : World) :
    Calls Try.prog 104 #[zoV x] w fun e w' => e = .returned (.int .i64 (if x.f1 = 0 then 0 else 2)) ∧ Below w.heap.size w w' := by
  obtain ⟨st, wp, gen⟩ := x
  have H := al1 w (zoO st wp gen)
  obtain ⟨x0, x1, x2⟩ := cz3 H.1
  by_cases h : wp = 0
  · rw [if_pos h]; subst h
    go_enter Try.func104, Try.ntmps104
    go_wp2
    go_ret
    exact ⟨rfl, H.2⟩
  · have hb : (wp == 0) = false := beq_eq_false_iff_ne.mpr h
    rw [if_neg h]
    go_enter Try.func104, Try.ntmps104
    go_wp2
    go_ret
    exact ⟨rfl, H.2⟩
end Go.Proofs.Ytgckcaoncjhgbaa
