/- lzone.at: a zone of a table that may be. -/
import Derived.WalkKit
import Derived.WalkSpells
import Derived.WalkLawsBesides
import Derived.Lib.Hide
import Derived.Test.YtgckcaoncjhgbaaLzRight
import Derived.Test.YtgckcaoncjhgbaaLzWords
namespace Go.Proofs.Ytgckcaoncjhgbaa
open Go.RowKit Go.Proofs.Ytgckcaoncjhgbaa.PL Go.Proofs.YtgckcaoncjhgbaaW.PrintWords Go.Proofs.YtgckcaoncjhgbaaW.PrintLast
set_option linter.unusedVariables false
set_option linter.unusedSimpArgs false
def atZ (id m u b c z s me o a l : Int) (L : List S59) (i : Int) : S59 × Int := if rightZ id m u b c z s me o a l L then (if i < 0 then (⟨0, 0, 0⟩, 2) else if (L.length : Int) ≤ i then (⟨0, 0, 0⟩, 2) else (rd_T59 L i, 0)) else (⟨0, 0, 0⟩, 1)
set_option maxHeartbeats 2000000 in
set_option maxRecDepth 100000 in
theorem atZ_gen (id m u b c z s me o a l : Int) (A0 : Option Addr) (c0 : Nat) (L : List S59) (i : Int) (w : World) (hr0 : Kd.C k59 w A0 L.length L) (hc0 : L.length ≤ c0)
    (hk : ∀ w, Kd.C k59 w A0 L.length L → Calls Try.prog 21 #[tabV id m u b c z s me o a l (.slice A0 L.length c0)] w fun e w' => e = .returned (.bool (rightZ id m u b c z s me o a l L)) ∧ Below w.heap.size w w') :
    Calls Try.prog 101 #[tabV id m u b c z s me o a l (.slice A0 L.length c0), .int .i64 i] w fun e w' => e = .returned (.tuple #[zoV (atZ id m u b c z s me o a l L i).1, .int .i64 (atZ id m u b c z s me o a l L i).2]) ∧ Below w.heap.size w w' := by
  obtain ⟨n, hn⟩ : ∃ n, n = L.length := ⟨_, rfl⟩
  obtain ⟨V, hV⟩ : ∃ V, V = atZ id m u b c z s me o a l L i := ⟨_, rfl⟩
  rw [← hV]; unfold atZ at hV
  generalize rightZ id m u b c z s me o a l L = R at hk hV
  have HR := Lib.hid hr0
  rw [← hn] at hk hc0 hV ⊢
  have HK := Lib.hid (fun W (h : Kd.C k59 W A0 L.length L) => hk W (hn ▸ h)); have HV := Lib.hid hV; have Hn := Lib.hid hn
  clear hr0 hk hV hn
  have H := al2 w (tabO id m u b c z s me o a l (.slice A0 n c0)) (zoO 0 0 0)
  have H0 := Lib.hid H.1; have H1 := Lib.hid H.2.1; have HB0 := Lib.hid H.2.2; clear H
  obtain ⟨x0, x1, x2, x3, x4, x5, x6, x7, x8, x9, x10, x11⟩ := cz12 H0.out
  have hge : w.heap.size ≤ w.heap.size + 1 := Nat.le_succ _
  cases R
  · have hv : V = (⟨0, 0, 0⟩, 1) := HV.out
    subst hv
    go_enter Try.func101, Try.ntmps101
    go_wp2_with (go_at_call 21; refine (HK.out _ (Kd.C_below HR.out HB0.out)).mono ?_; rintro e w1 ⟨rfl, hb1⟩; have HB1 := Lib.hid (below_step HB0.out hb1); have G1 := Lib.hid (blk_below H1.out hb1); have K1 := Lib.hid (blk_below H0.out hb1); obtain ⟨y0, y1, y2, y3, y4, y5, y6, y7, y8, y9, y10, y11⟩ := cz12 K1.out; obtain ⟨z0, z1, z2⟩ := cz3 G1.out; obtain ⟨f0, f1, f2⟩ := fz3 G1.out; clear hb1)
    refine bodyPost_ret (results_ct rfl _ _ (w.heap.size + 1) 59 #[.int .i64 0, .int .i64 0, .int .i64 0] (0, 0) _ rfl (put3 G1.out) Try.underlying59 rfl (by kernel_rfl)) rfl ?_
    exact ⟨rfl, bl3 HB1.out hge⟩
  · by_cases i0 : i < 0
    · have hv : V = (⟨0, 0, 0⟩, 2) := by have := HV.out; rw [if_pos rfl, if_pos i0] at this; exact this
      subst hv
      go_enter Try.func101, Try.ntmps101
      go_wp2_with (go_at_call 21; refine (HK.out _ (Kd.C_below HR.out HB0.out)).mono ?_; rintro e w1 ⟨rfl, hb1⟩; have HB1 := Lib.hid (below_step HB0.out hb1); have G1 := Lib.hid (blk_below H1.out hb1); have K1 := Lib.hid (blk_below H0.out hb1); obtain ⟨y0, y1, y2, y3, y4, y5, y6, y7, y8, y9, y10, y11⟩ := cz12 K1.out; obtain ⟨z0, z1, z2⟩ := cz3 G1.out; obtain ⟨f0, f1, f2⟩ := fz3 G1.out; clear hb1)
      refine bodyPost_ret (results_ct rfl _ _ (w.heap.size + 1) 59 #[.int .i64 0, .int .i64 0, .int .i64 0] (0, 0) _ rfl (put3 G1.out) Try.underlying59 rfl (by kernel_rfl)) rfl ?_
      exact ⟨rfl, bl3 HB1.out hge⟩
    · by_cases i1 : (n : Int) ≤ i
      · have hv : V = (⟨0, 0, 0⟩, 2) := by have := HV.out; rw [if_pos rfl, if_neg i0, if_pos i1] at this; exact this
        subst hv
        go_enter Try.func101, Try.ntmps101
        go_wp2_with (go_at_call 21; refine (HK.out _ (Kd.C_below HR.out HB0.out)).mono ?_; rintro e w1 ⟨rfl, hb1⟩; have HB1 := Lib.hid (below_step HB0.out hb1); have G1 := Lib.hid (blk_below H1.out hb1); have K1 := Lib.hid (blk_below H0.out hb1); obtain ⟨y0, y1, y2, y3, y4, y5, y6, y7, y8, y9, y10, y11⟩ := cz12 K1.out; obtain ⟨z0, z1, z2⟩ := cz3 G1.out; obtain ⟨f0, f1, f2⟩ := fz3 G1.out; clear hb1)
        refine bodyPost_ret (results_ct rfl _ _ (w.heap.size + 1) 59 #[.int .i64 0, .int .i64 0, .int .i64 0] (0, 0) _ rfl (put3 G1.out) Try.underlying59 rfl (by kernel_rfl)) rfl ?_
        exact ⟨rfl, bl3 HB1.out hge⟩
      · have hv : V = (rd_T59 L i, 0) := by have := HV.out; rw [if_pos rfl, if_neg i0, if_neg i1] at this; exact this
        subst hv
        have j0 : 0 ≤ i := by omega
        have j1 : i < (n : Int) := by omega
        obtain ⟨x, hx⟩ : ∃ x, x = rd_T59 L i := ⟨_, rfl⟩
        rw [← hx]; have HX := Lib.hid hx; clear hx
        go_enter Try.func101, Try.ntmps101
        go_wp2_with (go_at_call 21; refine (HK.out _ (Kd.C_below HR.out HB0.out)).mono ?_; rintro e w1 ⟨rfl, hb1⟩; have HB1 := Lib.hid (below_step HB0.out hb1); have G1 := Lib.hid (blk_below H1.out hb1); have K1 := Lib.hid (blk_below H0.out hb1); obtain ⟨y0, y1, y2, y3, y4, y5, y6, y7, y8, y9, y10, y11⟩ := cz12 K1.out; obtain ⟨z0, z1, z2⟩ := cz3 G1.out; obtain ⟨f0, f1, f2⟩ := fz3 G1.out; clear hb1; obtain ⟨ad, e, u0, u1, u2⟩ := at_T59 (Kd.C_below HR.out HB1.out) i j0 (by rw [← Hn.out]; exact j1); rw [← HX.out] at u0 u1 u2; subst e)
        refine bodyPost_ret (results_ct rfl _ _ (w.heap.size + 1) 59 #[.int .i64 x.f0, .int .i64 x.f1, .int .i64 x.f2] (0, 0) _ rfl (put3 G1.out) Try.underlying59 rfl (by kernel_rfl)) rfl ?_
        exact ⟨rfl, bl3 HB1.out hge⟩
end Go.Proofs.Ytgckcaoncjhgbaa
