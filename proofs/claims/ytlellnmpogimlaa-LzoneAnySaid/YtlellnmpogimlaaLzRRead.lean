/- revetmentref17.Read. -/
import Derived.WalkKit
import Derived.WalkSpells
import Derived.WalkLawsBesides
import Derived.Lib.Hide
import Derived.Test.YtlellnmpogimlaaLzROps
namespace Go.Proofs.Ytlellnmpogimlaa
-- revetmentref17_Right.calls
open Go.RowKit Go.Proofs.Ytlellnmpogimlaa.PL Go.Proofs.YtlellnmpogimlaaW.PrintWords Go.Proofs.YtlellnmpogimlaaW.PrintLast
set_option linter.unusedVariables false
set_option linter.unusedSimpArgs false
section
variable {id m u b c z s me o a l : Int} {r : Option (List S57)} {L L1 : List S57} {sl v : Value} {base g : Nat} {W : World}
theorem TabD_far {j : Nat} {y : Value} (h : TabD id m u b c z s me o a l r L sl base W v) (hg : g < base) : TabD id m u b c z s me o a l r L sl base (W.setCell ⟨g, j, none⟩ y) v := by
  rcases h with (h | ⟨L', q, h1, h2, hR⟩) | h
  · exact .inl (.inl h)
  · exact .inl (.inr ⟨L', q, h1, h2, Kd.R_mono (Kd.R_far (p := ⟨g, j, none⟩) (Kd.R_bound hR) (fun k hk => by have := hk.2.1; show k ≠ g; omega) y) (fun _ _ => trivial)⟩)
  · exact .inr h
theorem TabD_drew (h : TabD id m u b c z s me o a l r L sl base W v) : TabD id m u b c z s me o a l r L sl base W.drew v := TabD_below h (below_drew1 (Below.refl _ _))
theorem TabD_shape {A : Option Addr} {k : Nat} (h : TabD id m u b c z s me o a l (some L1) L (.slice A L.length k) base W v) : ∃ (A' : Option Addr) (k' : Nat), v = tabV id m u b c z s me o a l (.slice A' L1.length k') := by
  rcases h with (⟨h, _⟩ | ⟨L', y, h1, rfl, h2⟩) | ⟨h1, rfl⟩
  · cases h
  · cases h1
    obtain ⟨A', k', rfl⟩ := Kd.R_slice h2
    exact ⟨A', k', rfl⟩
  · cases h1
    exact ⟨A, k, rfl⟩
theorem TabD_C {A A' : Option Addr} {k n' k' : Nat} (h : TabD id m u b c z s me o a l (some L1) L (.slice A L.length k) base W (tabV id m u b c z s me o a l (.slice A' n' k'))) (hC : Kd.C k57 W A L.length L) (hk : L.length ≤ k) : L1.length ≤ k' ∧ Kd.C k57 W A' L1.length L1 := by
  rcases h with (⟨h, _⟩ | ⟨L', y, h1, h3, h2⟩) | ⟨h1, h3⟩
  · cases h
  · cases h1
    obtain ⟨A2, k2, rfl, hle, hC2⟩ := Kd.R_reads h2
    simp only [Value.agg.injEq, Array.mk.injEq, List.cons.injEq, Value.slice.injEq, and_true, true_and] at h3
    obtain ⟨rfl, rfl, rfl⟩ := h3
    exact ⟨hle, hC2⟩
  · cases h1
    simp only [Value.agg.injEq, Array.mk.injEq, List.cons.injEq, Value.slice.injEq, and_true, true_and] at h3
    obtain ⟨rfl, rfl, rfl⟩ := h3
    exact ⟨hk, hC⟩
end
set_option maxHeartbeats 4000000 in
set_option maxRecDepth 100000 in
theorem rread_any (id m u b c z s me o a l : Int) (A0 : Option Addr) (c0 : Nat) (L : List S57) (i p k : Int) (w : World) (hr0 : Kd.C k57 w A0 L.length L) (hc0 : L.length ≤ c0) (hl : L.length ≤ 1000000) :
    Calls Try.prog 34 #[tabV id m u b c z s me o a l (.slice A0 L.length c0), .int .i64 i, .int .i64 p, .int .i64 k] w fun e w' => e = .returned (.int .i64 (readZ id m u b c z s me o a l L i p k)) ∧ Below w.heap.size w w' := by
  obtain ⟨n, hn⟩ : ∃ n, n = L.length := ⟨_, rfl⟩
  obtain ⟨V, hV⟩ : ∃ V, V = readZ id m u b c z s me o a l L i p k := ⟨_, rfl⟩
  rw [← hV]; unfold readZ at hV
  have hM := fun W h => may_any id m u b c z s me o a l A0 c0 L i W h hc0 hl
  have hok := @atZ_ok id m u b c z s me o a l L i
  generalize atZ id m u b c z s me o a l L i = q at hM hok hV
  obtain ⟨⟨st, wp, gen⟩, e0⟩ := q
  dsimp only at hM hok hV
  by_cases he : e0 = 0
  · subst he
    obtain ⟨i0, i1, hl64, hx, hrt⟩ := hok rfl
    rw [← hn] at i1
    have HXX := Lib.hid hx; clear hok hl64 hx hrt
    by_cases g16 : k < 1
    · have hv : V = 3 := by rw [hV, if_neg (by simp), if_pos g16]
      subst hv
      rw [← hn] at hM hr0 hc0 ⊢
      have HR := Lib.hid hr0; have HM := Lib.hid hM; have Hn := Lib.hid hn; clear hr0 hM hn; (try clear hV)
      have H := al1 w (rtabO id m u b c z s me o a l (.slice A0 n c0))
      have H0 := Lib.hid H.1; have HB0 := Lib.hid H.2; clear H
      obtain ⟨t0, t1, t2, t3, t4, t5, t6, t7, t8, t9, t10, t11⟩ := cz12 H0.out
      go_enter Try.func34, Try.ntmps34
      go_wp2_with first
        | (go_at_call 51; with_reducible refine (HM.out _ (Kd.C_below HR.out HB0.out)).mono ?_; rintro e w1 ⟨rfl, hb1⟩; have HB1 := Lib.hid (below_step HB0.out hb1); have K1 := Lib.hid (blk_below H0.out hb1); clear hb1; obtain ⟨k0, k1, k2, k3, k4, k5, k6, k7, k8, k9, k10, k11⟩ := cz12 K1.out; obtain ⟨ad, ea, u0, u1, u2⟩ := at_T57 (Kd.C_below HR.out HB1.out) i i0 i1; rw [← HXX.out] at u0 u1 u2; subst ea)
      go_ret
      exact ⟨rfl, HB1.out⟩
    by_cases g28 : p < 0
    · have hv : V = 4 := by rw [hV, if_neg (by simp), if_neg g16, if_pos g28]
      subst hv
      rw [← hn] at hM hr0 hc0 ⊢
      have HR := Lib.hid hr0; have HM := Lib.hid hM; have Hn := Lib.hid hn; clear hr0 hM hn; (try clear hV)
      have H := al1 w (rtabO id m u b c z s me o a l (.slice A0 n c0))
      have H0 := Lib.hid H.1; have HB0 := Lib.hid H.2; clear H
      obtain ⟨t0, t1, t2, t3, t4, t5, t6, t7, t8, t9, t10, t11⟩ := cz12 H0.out
      go_enter Try.func34, Try.ntmps34
      go_wp2_with first
        | (go_at_call 51; with_reducible refine (HM.out _ (Kd.C_below HR.out HB0.out)).mono ?_; rintro e w1 ⟨rfl, hb1⟩; have HB1 := Lib.hid (below_step HB0.out hb1); have K1 := Lib.hid (blk_below H0.out hb1); clear hb1; obtain ⟨k0, k1, k2, k3, k4, k5, k6, k7, k8, k9, k10, k11⟩ := cz12 K1.out; obtain ⟨ad, ea, u0, u1, u2⟩ := at_T57 (Kd.C_below HR.out HB1.out) i i0 i1; rw [← HXX.out] at u0 u1 u2; subst ea)
      go_ret
      exact ⟨rfl, HB1.out⟩
    by_cases g40 : wp < p
    · have hv : V = 4 := by rw [hV, if_neg (by simp), if_neg g16, if_neg g28, if_pos g40]
      subst hv
      rw [← hn] at hM hr0 hc0 ⊢
      have HR := Lib.hid hr0; have HM := Lib.hid hM; have Hn := Lib.hid hn; clear hr0 hM hn; (try clear hV)
      have H := al1 w (rtabO id m u b c z s me o a l (.slice A0 n c0))
      have H0 := Lib.hid H.1; have HB0 := Lib.hid H.2; clear H
      obtain ⟨t0, t1, t2, t3, t4, t5, t6, t7, t8, t9, t10, t11⟩ := cz12 H0.out
      go_enter Try.func34, Try.ntmps34
      go_wp2_with first
        | (go_at_call 51; with_reducible refine (HM.out _ (Kd.C_below HR.out HB0.out)).mono ?_; rintro e w1 ⟨rfl, hb1⟩; have HB1 := Lib.hid (below_step HB0.out hb1); have K1 := Lib.hid (blk_below H0.out hb1); clear hb1; obtain ⟨k0, k1, k2, k3, k4, k5, k6, k7, k8, k9, k10, k11⟩ := cz12 K1.out; obtain ⟨ad, ea, u0, u1, u2⟩ := at_T57 (Kd.C_below HR.out HB1.out) i i0 i1; rw [← HXX.out] at u0 u1 u2; subst ea)
      go_ret
      exact ⟨rfl, HB1.out⟩
    by_cases g52 : wrap64 (wp - p) < k
    · have hv : V = 4 := by rw [hV, if_neg (by simp), if_neg g16, if_neg g28, if_neg g40, if_pos g52]
      subst hv
      rw [← hn] at hM hr0 hc0 ⊢
      have HR := Lib.hid hr0; have HM := Lib.hid hM; have Hn := Lib.hid hn; clear hr0 hM hn; (try clear hV)
      have H := al1 w (rtabO id m u b c z s me o a l (.slice A0 n c0))
      have H0 := Lib.hid H.1; have HB0 := Lib.hid H.2; clear H
      obtain ⟨t0, t1, t2, t3, t4, t5, t6, t7, t8, t9, t10, t11⟩ := cz12 H0.out
      go_enter Try.func34, Try.ntmps34
      go_wp2_with first
        | (go_at_call 51; with_reducible refine (HM.out _ (Kd.C_below HR.out HB0.out)).mono ?_; rintro e w1 ⟨rfl, hb1⟩; have HB1 := Lib.hid (below_step HB0.out hb1); have K1 := Lib.hid (blk_below H0.out hb1); clear hb1; obtain ⟨k0, k1, k2, k3, k4, k5, k6, k7, k8, k9, k10, k11⟩ := cz12 K1.out; obtain ⟨ad, ea, u0, u1, u2⟩ := at_T57 (Kd.C_below HR.out HB1.out) i i0 i1; rw [← HXX.out] at u0 u1 u2; subst ea)
      go_ret
      exact ⟨rfl, HB1.out⟩
    have hv : V = 0 := by rw [hV, if_neg (by simp), if_neg g16, if_neg g28, if_neg g40, if_neg g52]
    subst hv
    rw [← hn] at hM hr0 hc0 ⊢
    have HR := Lib.hid hr0; have HM := Lib.hid hM; have Hn := Lib.hid hn; clear hr0 hM hn; (try clear hV)
    have H := al1 w (rtabO id m u b c z s me o a l (.slice A0 n c0))
    have H0 := Lib.hid H.1; have HB0 := Lib.hid H.2; clear H
    obtain ⟨t0, t1, t2, t3, t4, t5, t6, t7, t8, t9, t10, t11⟩ := cz12 H0.out
    go_enter Try.func34, Try.ntmps34
    go_wp2_with first
      | (go_at_call 51; with_reducible refine (HM.out _ (Kd.C_below HR.out HB0.out)).mono ?_; rintro e w1 ⟨rfl, hb1⟩; have HB1 := Lib.hid (below_step HB0.out hb1); have K1 := Lib.hid (blk_below H0.out hb1); clear hb1; obtain ⟨k0, k1, k2, k3, k4, k5, k6, k7, k8, k9, k10, k11⟩ := cz12 K1.out; obtain ⟨ad, ea, u0, u1, u2⟩ := at_T57 (Kd.C_below HR.out HB1.out) i i0 i1; rw [← HXX.out] at u0 u1 u2; subst ea)
    go_ret
    exact ⟨rfl, HB1.out⟩
  · have hv : V = e0 := by rw [hV, if_pos he]
    subst hv
    have eb : (V == 0) = false := beq_eq_false_iff_ne.mpr he
    clear hok
    rw [← hn] at hM hr0 hc0 ⊢
    have HR := Lib.hid hr0; have HM := Lib.hid hM; have Hn := Lib.hid hn; clear hr0 hM hn; (try clear hV)
    have H := al1 w (rtabO id m u b c z s me o a l (.slice A0 n c0))
    have H0 := Lib.hid H.1; have HB0 := Lib.hid H.2; clear H
    obtain ⟨t0, t1, t2, t3, t4, t5, t6, t7, t8, t9, t10, t11⟩ := cz12 H0.out
    go_enter Try.func34, Try.ntmps34
    go_wp2_with first
      | (go_at_call 51; with_reducible refine (HM.out _ (Kd.C_below HR.out HB0.out)).mono ?_; rintro e w1 ⟨rfl, hb1⟩; have HB1 := Lib.hid (below_step HB0.out hb1); have K1 := Lib.hid (blk_below H0.out hb1); clear hb1; obtain ⟨k0, k1, k2, k3, k4, k5, k6, k7, k8, k9, k10, k11⟩ := cz12 K1.out)
      | (go_at_call 51; with_reducible refine (HM.out _ (Kd.C_below HR.out HB1.out)).mono ?_; rintro e w2 ⟨rfl, hb2⟩; have HB2 := Lib.hid (below_step HB1.out hb2); clear hb2)
    go_ret
    exact ⟨rfl, HB2.out⟩
end Go.Proofs.Ytlellnmpogimlaa
