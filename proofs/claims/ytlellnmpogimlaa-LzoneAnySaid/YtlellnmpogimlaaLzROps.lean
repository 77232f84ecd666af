/- revetmentref17: Finish, Close, Reset. -/
import Derived.WalkKit
import Derived.WalkSpells
import Derived.WalkLawsBesides
import Derived.Lib.Hide
import Derived.Test.YtlellnmpogimlaaLzRWith
namespace Go.Proofs.Ytlellnmpogimlaa
-- revetmentref17_Right.calls
open Go.RowKit Go.Proofs.Ytlellnmpogimlaa.PL Go.Proofs.YtlellnmpogimlaaW.PrintWords Go.Proofs.YtlellnmpogimlaaW.PrintLast
set_option linter.unusedVariables false
set_option linter.unusedSimpArgs false
theorem zone_right {id m u b c z s me o a l : Int} {L : List S57} {i : Int} (h : rightZ id m u b c z s me o a l L = true) (i0 : 0 ≤ i) (i1 : i < (L.length : Int)) : rzP (sizeC m u b c z s me o a l) (rd_T57 L i) = true := by
  simp only [rightZ, Bool.and_eq_true, decide_eq_true_eq] at h
  have e := Geo.rd_get L i.toNat (by omega)
  rw [Int.toNat_of_nonneg i0] at e
  rw [e]
  exact List.all_eq_true.mp h.2.2 _ (List.getElem_mem _)
theorem set_self (L : List S57) (i : Int) (i0 : 0 ≤ i) (i1 : i < (L.length : Int)) : L.set i.toNat (rd_T57 L i) = L := by
  have e := Geo.rd_get L i.toNat (by omega)
  rw [Int.toNat_of_nonneg i0] at e
  rw [e, List.set_getElem_self]
set_option maxHeartbeats 4000000 in
set_option maxRecDepth 100000 in
theorem rfinish_any (id m u b c z s me o a l : Int) (A0 : Option Addr) (c0 : Nat) (L : List S57) (i : Int) (w : World) (hr0 : Kd.C k57 w A0 L.length L) (hc0 : L.length ≤ c0) (hl : L.length ≤ 1000000) :
    Calls Try.prog 36 #[tabV id m u b c z s me o a l (.slice A0 L.length c0), .int .i64 i] w fun e w' => ∃ v, e = .returned (.tuple #[v, .int .i64 (finishZ id m u b c z s me o a l L i).2]) ∧ TabD id m u b c z s me o a l (finishZ id m u b c z s me o a l L i).1 L (.slice A0 L.length c0) w.heap.size w' v ∧ Below w.heap.size w w' := by
  obtain ⟨n, hn⟩ : ∃ n, n = L.length := ⟨_, rfl⟩
  obtain ⟨V, hV⟩ : ∃ V, V = finishZ id m u b c z s me o a l L i := ⟨_, rfl⟩
  rw [← hV]; unfold finishZ at hV
  have hM := fun W h => may_any id m u b c z s me o a l A0 c0 L i W h hc0 hl
  have hok := @atZ_ok id m u b c z s me o a l L i
  generalize atZ id m u b c z s me o a l L i = q at hM hok hV
  obtain ⟨⟨st, wp, gen⟩, e0⟩ := q
  dsimp only at hM hok hV
  by_cases he : e0 = 0
  · subst he
    obtain ⟨i0, i1, hl64, hx, hrt⟩ := hok rfl
    have hz := (Geo.rz_iff _ _).mp (zone_right hrt i0 i1)
    rw [← hx] at hz
    dsimp only at hz
    have hself := set_self L i i0 i1
    rw [← hx] at hself
    have hW := fun x W h => rwith_any id m u b c z s me o a l A0 c0 L i x W h hc0 (by omega) i0 i1
    rw [← hn] at hW i1
    have HW := Lib.hid hW; have HXX := Lib.hid hx; have HSF := Lib.hid hself; clear hW hok hl64 hx hself
    have hv : V = (some (L.set i.toNat ⟨3, wp, gen⟩), 0) := by rw [hV, if_neg (by simp)]
    subst hv
    rw [← hn] at hM hr0 hc0 ⊢
    have HR := Lib.hid hr0; have HM := Lib.hid hM; have Hn := Lib.hid hn; clear hr0 hM hn; (try clear hV)
    have H := al2 w (rtabO id m u b c z s me o a l (.slice A0 n c0)) (rtabO 0 0 0 0 0 0 0 0 0 0 0 (.slice none 0 0))
    have H0 := Lib.hid H.1; have H1 := Lib.hid H.2.1; have HB0 := Lib.hid H.2.2; clear H
    obtain ⟨t0, t1, t2, t3, t4, t5, t6, t7, t8, t9, t10, t11⟩ := cz12 H0.out
    have hge : w.heap.size ≤ w.heap.size + 1 := by omega
    go_enter Try.func36, Try.ntmps36
    go_wp2_with first
      | (go_at_call 51; with_reducible refine (HM.out _ (Kd.C_below HR.out HB0.out)).mono ?_; rintro e w1 ⟨rfl, hb1⟩; have hs := hb1.size; rw [sz2] at hs; have HB1 := Lib.hid (below_step HB0.out hb1); have K1 := Lib.hid (blk_below H0.out hb1); have G1 := Lib.hid (blk_below H1.out hb1); clear hb1; have q0 : w1.heap.size ≠ w.heap.size := (by omega); have q0p : w.heap.size ≠ w1.heap.size := (by omega); have q1 : w1.heap.size ≠ w.heap.size + 1 := (by omega); have q1p : w.heap.size + 1 ≠ w1.heap.size := (by omega); obtain ⟨k0, k1, k2, k3, k4, k5, k6, k7, k8, k9, k10, k11⟩ := cz12 K1.out; obtain ⟨kf0, kf1, kf2, kf3, kf4, kf5, kf6, kf7, kf8, kf9, kf10, kf11⟩ := fz12 K1.out; obtain ⟨ad, ea, u0, u1, u2⟩ := at_T57 (Kd.C_below HR.out HB1.out) i i0 i1; rw [← HXX.out] at u0 u1 u2; subst ea; have Xa := Lib.hid (blk_new w1 (zoO st wp gen)); have Ka := Lib.hid (blk_alloc K1.out (zoO st wp gen)); have Ga := Lib.hid (blk_alloc G1.out (zoO st wp gen)); have HBa := Lib.hid (below_alloc HB1.out (zoO st wp gen)); obtain ⟨xa0, xa1, xa2, xa3, xa4, xa5, xa6, xa7, xa8, xa9, xa10, xa11⟩ := cz12 Ka.out; obtain ⟨ya0, ya1, ya2, ya3, ya4, ya5, ya6, ya7, ya8, ya9, ya10, ya11⟩ := cz12 Ga.out; obtain ⟨yfa0, yfa1, yfa2, yfa3, yfa4, yfa5, yfa6, yfa7, yfa8, yfa9, yfa10, yfa11⟩ := fz12 Ga.out; obtain ⟨ra0, ra1, ra2⟩ := cz3 Xa.out; obtain ⟨rfa0, rfa1, rfa2⟩ := fz3 Xa.out; have Xb := Lib.hid (blk_new w1 (zoO 3 wp gen)); have Kb := Lib.hid (blk_alloc K1.out (zoO 3 wp gen)); have Gb := Lib.hid (blk_alloc G1.out (zoO 3 wp gen)); have HBb := Lib.hid (below_alloc HB1.out (zoO 3 wp gen)); obtain ⟨xb0, xb1, xb2, xb3, xb4, xb5, xb6, xb7, xb8, xb9, xb10, xb11⟩ := cz12 Kb.out; obtain ⟨yb0, yb1, yb2, yb3, yb4, yb5, yb6, yb7, yb8, yb9, yb10, yb11⟩ := cz12 Gb.out; obtain ⟨yfb0, yfb1, yfb2, yfb3, yfb4, yfb5, yfb6, yfb7, yfb8, yfb9, yfb10, yfb11⟩ := fz12 Gb.out; obtain ⟨rb0, rb1, rb2⟩ := cz3 Xb.out; obtain ⟨rfb0, rfb1, rfb2⟩ := fz3 Xb.out)
      | (go_at_call 52; refine (HW.out ⟨3, wp, gen⟩ _ (Kd.C_below HR.out HBb.out)).mono ?_; rintro e w2 ⟨v, rfl, hR2, hb2⟩; obtain ⟨A2, c2, rfl⟩ := Kd.R_slice hR2; simp only [List.length_set] at hR2; have G3 := Lib.hid (blk_below Gb.out hb2); have HB3 := Lib.hid (below_step HBb.out hb2); have HR2 := Lib.hid (Kd.R_lower hR2 HBb.out.size); clear hR2 hb2; obtain ⟨z0, z1, z2, z3, z4, z5, z6, z7, z8, z9, z10, z11⟩ := cz12 G3.out; obtain ⟨zf0, zf1, zf2, zf3, zf4, zf5, zf6, zf7, zf8, zf9, zf10, zf11⟩ := fz12 G3.out)
    refine bodyPost_ret (results_ct rfl _ _ (w.heap.size + 1) 34 #[.int .i64 id, .int .i64 m, .int .i64 u, .int .i64 b, .int .i64 c, .int .i64 z, .int .i64 s, .int .i64 me, .int .i64 o, .int .i64 a, .int .i64 l, .slice A2 _ c2] (0, 0) _ rfl (put12 G3.out) Try.underlying34 rfl (by kernel_rfl)) rfl ?_
    exact ⟨_, rfl, .inl (.inr ⟨_, _, rfl, rfl, R12 HR2.out G3.out (by decide)⟩), bl12 HB3.out hge⟩
  · have hv : V = (none, e0) := by rw [hV, if_pos he]
    subst hv
    have eb : (e0 == 0) = false := beq_eq_false_iff_ne.mpr he
    clear hok
    rw [← hn] at hM hr0 hc0 ⊢
    have HR := Lib.hid hr0; have HM := Lib.hid hM; have Hn := Lib.hid hn; clear hr0 hM hn; (try clear hV)
    have H := al2 w (rtabO id m u b c z s me o a l (.slice A0 n c0)) (rtabO 0 0 0 0 0 0 0 0 0 0 0 (.slice none 0 0))
    have H0 := Lib.hid H.1; have H1 := Lib.hid H.2.1; have HB0 := Lib.hid H.2.2; clear H
    obtain ⟨t0, t1, t2, t3, t4, t5, t6, t7, t8, t9, t10, t11⟩ := cz12 H0.out
    have hge : w.heap.size ≤ w.heap.size + 1 := by omega
    go_enter Try.func36, Try.ntmps36
    go_wp2_with first
      | (go_at_call 51; with_reducible refine (HM.out _ (Kd.C_below HR.out HB0.out)).mono ?_; rintro e w1 ⟨rfl, hb1⟩; have HB1 := Lib.hid (below_step HB0.out hb1); have K1 := Lib.hid (blk_below H0.out hb1); have G1 := Lib.hid (blk_below H1.out hb1); clear hb1; obtain ⟨k0, k1, k2, k3, k4, k5, k6, k7, k8, k9, k10, k11⟩ := cz12 K1.out)
      | (go_at_call 51; with_reducible refine (HM.out _ (Kd.C_below HR.out HB1.out)).mono ?_; rintro e w2 ⟨rfl, hb2⟩; have HB2 := Lib.hid (below_step HB1.out hb2); have G2 := Lib.hid (blk_below G1.out hb2); clear hb2; obtain ⟨g0, g1, g2, g3, g4, g5, g6, g7, g8, g9, g10, g11⟩ := cz12 G2.out; obtain ⟨gf0, gf1, gf2, gf3, gf4, gf5, gf6, gf7, gf8, gf9, gf10, gf11⟩ := fz12 G2.out)
    refine bodyPost_ret (results_ct rfl _ _ (w.heap.size + 1) 34 #[.int .i64 0, .int .i64 0, .int .i64 0, .int .i64 0, .int .i64 0, .int .i64 0, .int .i64 0, .int .i64 0, .int .i64 0, .int .i64 0, .int .i64 0, .slice none 0 0] (0, 0) _ rfl (put12 G2.out) Try.underlying34 rfl (by kernel_rfl)) rfl ?_
    exact ⟨_, rfl, .inl (.inl ⟨rfl, rfl⟩), bl12 HB2.out hge⟩
set_option maxHeartbeats 4000000 in
set_option maxRecDepth 100000 in
theorem rclose_any (id m u b c z s me o a l : Int) (A0 : Option Addr) (c0 : Nat) (L : List S57) (i : Int) (w : World) (hr0 : Kd.C k57 w A0 L.length L) (hc0 : L.length ≤ c0) (hl : L.length ≤ 1000000) :
    Calls Try.prog 38 #[tabV id m u b c z s me o a l (.slice A0 L.length c0), .int .i64 i] w fun e w' => ∃ v, e = .returned (.tuple #[v, .int .i64 (closeZ id m u b c z s me o a l L i).2]) ∧ TabD id m u b c z s me o a l (closeZ id m u b c z s me o a l L i).1 L (.slice A0 L.length c0) w.heap.size w' v ∧ Below w.heap.size w w' := by
  obtain ⟨n, hn⟩ : ∃ n, n = L.length := ⟨_, rfl⟩
  obtain ⟨V, hV⟩ : ∃ V, V = closeZ id m u b c z s me o a l L i := ⟨_, rfl⟩
  rw [← hV]; unfold closeZ at hV
  have hM := fun W h => may_any id m u b c z s me o a l A0 c0 L i W h hc0 hl
  have hok := @atZ_ok id m u b c z s me o a l L i
  generalize atZ id m u b c z s me o a l L i = q at hM hok hV
  obtain ⟨⟨st, wp, gen⟩, e0⟩ := q
  dsimp only at hM hok hV
  by_cases he : e0 = 0
  · subst he
    obtain ⟨i0, i1, hl64, hx, hrt⟩ := hok rfl
    have hz := (Geo.rz_iff _ _).mp (zone_right hrt i0 i1)
    rw [← hx] at hz
    dsimp only at hz
    have hself := set_self L i i0 i1
    rw [← hx] at hself
    have hW := fun x W h => rwith_any id m u b c z s me o a l A0 c0 L i x W h hc0 (by omega) i0 i1
    rw [← hn] at hW i1
    have HW := Lib.hid hW; have HXX := Lib.hid hx; have HSF := Lib.hid hself; clear hW hok hl64 hx hself
    by_cases s1 : st = 1
    · subst s1
      by_cases hw : wp = 0
      · have hv : V = (some (L.set i.toNat ⟨0, wp, gen⟩), 0) := by rw [hV, if_neg (by simp), if_pos rfl, if_pos hw]
        subst hv
        have hg : ¬ 0 < wp := by omega
        clear hw hz
        rw [← hn] at hM hr0 hc0 ⊢
        have HR := Lib.hid hr0; have HM := Lib.hid hM; have Hn := Lib.hid hn; clear hr0 hM hn; (try clear hV)
        have H := al2 w (rtabO id m u b c z s me o a l (.slice A0 n c0)) (rtabO 0 0 0 0 0 0 0 0 0 0 0 (.slice none 0 0))
        have H0 := Lib.hid H.1; have H1 := Lib.hid H.2.1; have HB0 := Lib.hid H.2.2; clear H
        obtain ⟨t0, t1, t2, t3, t4, t5, t6, t7, t8, t9, t10, t11⟩ := cz12 H0.out
        have hge : w.heap.size ≤ w.heap.size + 1 := by omega
        go_enter Try.func38, Try.ntmps38
        go_wp2_with first
          | (go_at_call 51; with_reducible refine (HM.out _ (Kd.C_below HR.out HB0.out)).mono ?_; rintro e w1 ⟨rfl, hb1⟩; have hs := hb1.size; rw [sz2] at hs; have HB1 := Lib.hid (below_step HB0.out hb1); have K1 := Lib.hid (blk_below H0.out hb1); have G1 := Lib.hid (blk_below H1.out hb1); clear hb1; have q0 : w1.heap.size ≠ w.heap.size := (by omega); have q0p : w.heap.size ≠ w1.heap.size := (by omega); have q1 : w1.heap.size ≠ w.heap.size + 1 := (by omega); have q1p : w.heap.size + 1 ≠ w1.heap.size := (by omega); obtain ⟨k0, k1, k2, k3, k4, k5, k6, k7, k8, k9, k10, k11⟩ := cz12 K1.out; obtain ⟨kf0, kf1, kf2, kf3, kf4, kf5, kf6, kf7, kf8, kf9, kf10, kf11⟩ := fz12 K1.out; obtain ⟨ad, ea, u0, u1, u2⟩ := at_T57 (Kd.C_below HR.out HB1.out) i i0 i1; rw [← HXX.out] at u0 u1 u2; subst ea; have Xa := Lib.hid (blk_new w1 (zoO 1 wp gen)); have Ka := Lib.hid (blk_alloc K1.out (zoO 1 wp gen)); have Ga := Lib.hid (blk_alloc G1.out (zoO 1 wp gen)); have HBa := Lib.hid (below_alloc HB1.out (zoO 1 wp gen)); obtain ⟨xa0, xa1, xa2, xa3, xa4, xa5, xa6, xa7, xa8, xa9, xa10, xa11⟩ := cz12 Ka.out; obtain ⟨ya0, ya1, ya2, ya3, ya4, ya5, ya6, ya7, ya8, ya9, ya10, ya11⟩ := cz12 Ga.out; obtain ⟨yfa0, yfa1, yfa2, yfa3, yfa4, yfa5, yfa6, yfa7, yfa8, yfa9, yfa10, yfa11⟩ := fz12 Ga.out; obtain ⟨ra0, ra1, ra2⟩ := cz3 Xa.out; obtain ⟨rfa0, rfa1, rfa2⟩ := fz3 Xa.out; have Xb := Lib.hid (blk_new w1 (zoO 0 wp gen)); have Kb := Lib.hid (blk_alloc K1.out (zoO 0 wp gen)); have Gb := Lib.hid (blk_alloc G1.out (zoO 0 wp gen)); have HBb := Lib.hid (below_alloc HB1.out (zoO 0 wp gen)); obtain ⟨xb0, xb1, xb2, xb3, xb4, xb5, xb6, xb7, xb8, xb9, xb10, xb11⟩ := cz12 Kb.out; obtain ⟨yb0, yb1, yb2, yb3, yb4, yb5, yb6, yb7, yb8, yb9, yb10, yb11⟩ := cz12 Gb.out; obtain ⟨yfb0, yfb1, yfb2, yfb3, yfb4, yfb5, yfb6, yfb7, yfb8, yfb9, yfb10, yfb11⟩ := fz12 Gb.out; obtain ⟨rb0, rb1, rb2⟩ := cz3 Xb.out; obtain ⟨rfb0, rfb1, rfb2⟩ := fz3 Xb.out)
          | (go_at_call 52; refine (HW.out ⟨0, wp, gen⟩ _ (Kd.C_below HR.out HBb.out)).mono ?_; rintro e w2 ⟨v, rfl, hR2, hb2⟩; obtain ⟨A2, c2, rfl⟩ := Kd.R_slice hR2; simp only [List.length_set] at hR2; have G3 := Lib.hid (blk_below Gb.out hb2); have HB3 := Lib.hid (below_step HBb.out hb2); have HR2 := Lib.hid (Kd.R_lower hR2 HBb.out.size); clear hR2 hb2; obtain ⟨z0, z1, z2, z3, z4, z5, z6, z7, z8, z9, z10, z11⟩ := cz12 G3.out; obtain ⟨zf0, zf1, zf2, zf3, zf4, zf5, zf6, zf7, zf8, zf9, zf10, zf11⟩ := fz12 G3.out)
        refine bodyPost_ret (results_ct rfl _ _ (w.heap.size + 1) 34 #[.int .i64 id, .int .i64 m, .int .i64 u, .int .i64 b, .int .i64 c, .int .i64 z, .int .i64 s, .int .i64 me, .int .i64 o, .int .i64 a, .int .i64 l, .slice A2 _ c2] (0, 0) _ rfl (put12 G3.out) Try.underlying34 rfl (by kernel_rfl)) rfl ?_
        exact ⟨_, rfl, .inl (.inr ⟨_, _, rfl, rfl, R12 HR2.out G3.out (by decide)⟩), bl12 HB3.out hge⟩
      · have hv : V = (some (L.set i.toNat ⟨2, wp, gen⟩), 0) := by rw [hV, if_neg (by simp), if_pos rfl, if_neg hw]
        subst hv
        have hg : 0 < wp := by omega
        clear hw hz
        rw [← hn] at hM hr0 hc0 ⊢
        have HR := Lib.hid hr0; have HM := Lib.hid hM; have Hn := Lib.hid hn; clear hr0 hM hn; (try clear hV)
        have H := al2 w (rtabO id m u b c z s me o a l (.slice A0 n c0)) (rtabO 0 0 0 0 0 0 0 0 0 0 0 (.slice none 0 0))
        have H0 := Lib.hid H.1; have H1 := Lib.hid H.2.1; have HB0 := Lib.hid H.2.2; clear H
        obtain ⟨t0, t1, t2, t3, t4, t5, t6, t7, t8, t9, t10, t11⟩ := cz12 H0.out
        have hge : w.heap.size ≤ w.heap.size + 1 := by omega
        go_enter Try.func38, Try.ntmps38
        go_wp2_with first
          | (go_at_call 51; with_reducible refine (HM.out _ (Kd.C_below HR.out HB0.out)).mono ?_; rintro e w1 ⟨rfl, hb1⟩; have hs := hb1.size; rw [sz2] at hs; have HB1 := Lib.hid (below_step HB0.out hb1); have K1 := Lib.hid (blk_below H0.out hb1); have G1 := Lib.hid (blk_below H1.out hb1); clear hb1; have q0 : w1.heap.size ≠ w.heap.size := (by omega); have q0p : w.heap.size ≠ w1.heap.size := (by omega); have q1 : w1.heap.size ≠ w.heap.size + 1 := (by omega); have q1p : w.heap.size + 1 ≠ w1.heap.size := (by omega); obtain ⟨k0, k1, k2, k3, k4, k5, k6, k7, k8, k9, k10, k11⟩ := cz12 K1.out; obtain ⟨kf0, kf1, kf2, kf3, kf4, kf5, kf6, kf7, kf8, kf9, kf10, kf11⟩ := fz12 K1.out; obtain ⟨ad, ea, u0, u1, u2⟩ := at_T57 (Kd.C_below HR.out HB1.out) i i0 i1; rw [← HXX.out] at u0 u1 u2; subst ea; have Xa := Lib.hid (blk_new w1 (zoO 1 wp gen)); have Ka := Lib.hid (blk_alloc K1.out (zoO 1 wp gen)); have Ga := Lib.hid (blk_alloc G1.out (zoO 1 wp gen)); have HBa := Lib.hid (below_alloc HB1.out (zoO 1 wp gen)); obtain ⟨xa0, xa1, xa2, xa3, xa4, xa5, xa6, xa7, xa8, xa9, xa10, xa11⟩ := cz12 Ka.out; obtain ⟨ya0, ya1, ya2, ya3, ya4, ya5, ya6, ya7, ya8, ya9, ya10, ya11⟩ := cz12 Ga.out; obtain ⟨yfa0, yfa1, yfa2, yfa3, yfa4, yfa5, yfa6, yfa7, yfa8, yfa9, yfa10, yfa11⟩ := fz12 Ga.out; obtain ⟨ra0, ra1, ra2⟩ := cz3 Xa.out; obtain ⟨rfa0, rfa1, rfa2⟩ := fz3 Xa.out; have Xb := Lib.hid (blk_new w1 (zoO 0 wp gen)); have Kb := Lib.hid (blk_alloc K1.out (zoO 0 wp gen)); have Gb := Lib.hid (blk_alloc G1.out (zoO 0 wp gen)); have HBb := Lib.hid (below_alloc HB1.out (zoO 0 wp gen)); obtain ⟨xb0, xb1, xb2, xb3, xb4, xb5, xb6, xb7, xb8, xb9, xb10, xb11⟩ := cz12 Kb.out; obtain ⟨yb0, yb1, yb2, yb3, yb4, yb5, yb6, yb7, yb8, yb9, yb10, yb11⟩ := cz12 Gb.out; obtain ⟨yfb0, yfb1, yfb2, yfb3, yfb4, yfb5, yfb6, yfb7, yfb8, yfb9, yfb10, yfb11⟩ := fz12 Gb.out; obtain ⟨rb0, rb1, rb2⟩ := cz3 Xb.out; obtain ⟨rfb0, rfb1, rfb2⟩ := fz3 Xb.out; have Xc := Lib.hid (blk_new w1 (zoO 2 wp gen)); have Kc := Lib.hid (blk_alloc K1.out (zoO 2 wp gen)); have Gc := Lib.hid (blk_alloc G1.out (zoO 2 wp gen)); have HBc := Lib.hid (below_alloc HB1.out (zoO 2 wp gen)); obtain ⟨xc0, xc1, xc2, xc3, xc4, xc5, xc6, xc7, xc8, xc9, xc10, xc11⟩ := cz12 Kc.out; obtain ⟨yc0, yc1, yc2, yc3, yc4, yc5, yc6, yc7, yc8, yc9, yc10, yc11⟩ := cz12 Gc.out; obtain ⟨yfc0, yfc1, yfc2, yfc3, yfc4, yfc5, yfc6, yfc7, yfc8, yfc9, yfc10, yfc11⟩ := fz12 Gc.out; obtain ⟨rc0, rc1, rc2⟩ := cz3 Xc.out; obtain ⟨rfc0, rfc1, rfc2⟩ := fz3 Xc.out)
          | (go_at_call 52; refine (HW.out ⟨2, wp, gen⟩ _ (Kd.C_below HR.out HBc.out)).mono ?_; rintro e w2 ⟨v, rfl, hR2, hb2⟩; obtain ⟨A2, c2, rfl⟩ := Kd.R_slice hR2; simp only [List.length_set] at hR2; have G3 := Lib.hid (blk_below Gc.out hb2); have HB3 := Lib.hid (below_step HBc.out hb2); have HR2 := Lib.hid (Kd.R_lower hR2 HBc.out.size); clear hR2 hb2; obtain ⟨z0, z1, z2, z3, z4, z5, z6, z7, z8, z9, z10, z11⟩ := cz12 G3.out; obtain ⟨zf0, zf1, zf2, zf3, zf4, zf5, zf6, zf7, zf8, zf9, zf10, zf11⟩ := fz12 G3.out)
        refine bodyPost_ret (results_ct rfl _ _ (w.heap.size + 1) 34 #[.int .i64 id, .int .i64 m, .int .i64 u, .int .i64 b, .int .i64 c, .int .i64 z, .int .i64 s, .int .i64 me, .int .i64 o, .int .i64 a, .int .i64 l, .slice A2 _ c2] (0, 0) _ rfl (put12 G3.out) Try.underlying34 rfl (by kernel_rfl)) rfl ?_
        exact ⟨_, rfl, .inl (.inr ⟨_, _, rfl, rfl, R12 HR2.out G3.out (by decide)⟩), bl12 HB3.out hge⟩
    · have hv : V = (none, 9) := by rw [hV, if_neg (by simp), if_neg s1]
      subst hv
      have s1b : (st == 1) = false := beq_eq_false_iff_ne.mpr s1
      clear hz
      rw [← hn] at hM hr0 hc0 ⊢
      have HR := Lib.hid hr0; have HM := Lib.hid hM; have Hn := Lib.hid hn; clear hr0 hM hn; (try clear hV)
      have H := al2 w (rtabO id m u b c z s me o a l (.slice A0 n c0)) (rtabO 0 0 0 0 0 0 0 0 0 0 0 (.slice none 0 0))
      have H0 := Lib.hid H.1; have H1 := Lib.hid H.2.1; have HB0 := Lib.hid H.2.2; clear H
      obtain ⟨t0, t1, t2, t3, t4, t5, t6, t7, t8, t9, t10, t11⟩ := cz12 H0.out
      have hge : w.heap.size ≤ w.heap.size + 1 := by omega
      go_enter Try.func38, Try.ntmps38
      go_wp2_with first
        | (go_at_call 51; with_reducible refine (HM.out _ (Kd.C_below HR.out HB0.out)).mono ?_; rintro e w1 ⟨rfl, hb1⟩; have hs := hb1.size; rw [sz2] at hs; have HB1 := Lib.hid (below_step HB0.out hb1); have K1 := Lib.hid (blk_below H0.out hb1); have G1 := Lib.hid (blk_below H1.out hb1); clear hb1; have q0 : w1.heap.size ≠ w.heap.size := (by omega); have q0p : w.heap.size ≠ w1.heap.size := (by omega); have q1 : w1.heap.size ≠ w.heap.size + 1 := (by omega); have q1p : w.heap.size + 1 ≠ w1.heap.size := (by omega); obtain ⟨k0, k1, k2, k3, k4, k5, k6, k7, k8, k9, k10, k11⟩ := cz12 K1.out; obtain ⟨kf0, kf1, kf2, kf3, kf4, kf5, kf6, kf7, kf8, kf9, kf10, kf11⟩ := fz12 K1.out; obtain ⟨ad, ea, u0, u1, u2⟩ := at_T57 (Kd.C_below HR.out HB1.out) i i0 i1; rw [← HXX.out] at u0 u1 u2; subst ea; have Xa := Lib.hid (blk_new w1 (zoO st wp gen)); have Ka := Lib.hid (blk_alloc K1.out (zoO st wp gen)); have Ga := Lib.hid (blk_alloc G1.out (zoO st wp gen)); have HBa := Lib.hid (below_alloc HB1.out (zoO st wp gen)); obtain ⟨xa0, xa1, xa2, xa3, xa4, xa5, xa6, xa7, xa8, xa9, xa10, xa11⟩ := cz12 Ka.out; obtain ⟨ya0, ya1, ya2, ya3, ya4, ya5, ya6, ya7, ya8, ya9, ya10, ya11⟩ := cz12 Ga.out; obtain ⟨yfa0, yfa1, yfa2, yfa3, yfa4, yfa5, yfa6, yfa7, yfa8, yfa9, yfa10, yfa11⟩ := fz12 Ga.out; obtain ⟨ra0, ra1, ra2⟩ := cz3 Xa.out; obtain ⟨rfa0, rfa1, rfa2⟩ := fz3 Xa.out)
      refine bodyPost_ret (results_ct rfl _ _ (w.heap.size + 1) 34 #[.int .i64 0, .int .i64 0, .int .i64 0, .int .i64 0, .int .i64 0, .int .i64 0, .int .i64 0, .int .i64 0, .int .i64 0, .int .i64 0, .int .i64 0, .slice none 0 0] (0, 0) _ rfl (put12 Ga.out) Try.underlying34 rfl (by kernel_rfl)) rfl ?_
      exact ⟨_, rfl, .inl (.inl ⟨rfl, rfl⟩), bl12 HBa.out hge⟩
  · have hv : V = (none, e0) := by rw [hV, if_pos he]
    subst hv
    have eb : (e0 == 0) = false := beq_eq_false_iff_ne.mpr he
    clear hok
    rw [← hn] at hM hr0 hc0 ⊢
    have HR := Lib.hid hr0; have HM := Lib.hid hM; have Hn := Lib.hid hn; clear hr0 hM hn; (try clear hV)
    have H := al2 w (rtabO id m u b c z s me o a l (.slice A0 n c0)) (rtabO 0 0 0 0 0 0 0 0 0 0 0 (.slice none 0 0))
    have H0 := Lib.hid H.1; have H1 := Lib.hid H.2.1; have HB0 := Lib.hid H.2.2; clear H
    obtain ⟨t0, t1, t2, t3, t4, t5, t6, t7, t8, t9, t10, t11⟩ := cz12 H0.out
    have hge : w.heap.size ≤ w.heap.size + 1 := by omega
    go_enter Try.func38, Try.ntmps38
    go_wp2_with first
      | (go_at_call 51; with_reducible refine (HM.out _ (Kd.C_below HR.out HB0.out)).mono ?_; rintro e w1 ⟨rfl, hb1⟩; have HB1 := Lib.hid (below_step HB0.out hb1); have K1 := Lib.hid (blk_below H0.out hb1); have G1 := Lib.hid (blk_below H1.out hb1); clear hb1; obtain ⟨k0, k1, k2, k3, k4, k5, k6, k7, k8, k9, k10, k11⟩ := cz12 K1.out)
      | (go_at_call 51; with_reducible refine (HM.out _ (Kd.C_below HR.out HB1.out)).mono ?_; rintro e w2 ⟨rfl, hb2⟩; have HB2 := Lib.hid (below_step HB1.out hb2); have G2 := Lib.hid (blk_below G1.out hb2); clear hb2; obtain ⟨g0, g1, g2, g3, g4, g5, g6, g7, g8, g9, g10, g11⟩ := cz12 G2.out; obtain ⟨gf0, gf1, gf2, gf3, gf4, gf5, gf6, gf7, gf8, gf9, gf10, gf11⟩ := fz12 G2.out)
    refine bodyPost_ret (results_ct rfl _ _ (w.heap.size + 1) 34 #[.int .i64 0, .int .i64 0, .int .i64 0, .int .i64 0, .int .i64 0, .int .i64 0, .int .i64 0, .int .i64 0, .int .i64 0, .int .i64 0, .int .i64 0, .slice none 0 0] (0, 0) _ rfl (put12 G2.out) Try.underlying34 rfl (by kernel_rfl)) rfl ?_
    exact ⟨_, rfl, .inl (.inl ⟨rfl, rfl⟩), bl12 HB2.out hge⟩
set_option maxHeartbeats 4000000 in
set_option maxRecDepth 100000 in
theorem rreset_any (id m u b c z s me o a l : Int) (A0 : Option Addr) (c0 : Nat) (L : List S57) (i : Int) (w : World) (hr0 : Kd.C k57 w A0 L.length L) (hc0 : L.length ≤ c0) (hl : L.length ≤ 1000000) :
    Calls Try.prog 35 #[tabV id m u b c z s me o a l (.slice A0 L.length c0), .int .i64 i] w fun e w' => ∃ v, e = .returned (.tuple #[v, .int .i64 (resetZ id m u b c z s me o a l L i).2]) ∧ TabD id m u b c z s me o a l (resetZ id m u b c z s me o a l L i).1 L (.slice A0 L.length c0) w.heap.size w' v ∧ Below w.heap.size w w' := by
  obtain ⟨n, hn⟩ : ∃ n, n = L.length := ⟨_, rfl⟩
  obtain ⟨V, hV⟩ : ∃ V, V = resetZ id m u b c z s me o a l L i := ⟨_, rfl⟩
  rw [← hV]; unfold resetZ at hV
  have hM := fun W h => may_any id m u b c z s me o a l A0 c0 L i W h hc0 hl
  have hok := @atZ_ok id m u b c z s me o a l L i
  generalize atZ id m u b c z s me o a l L i = q at hM hok hV
  obtain ⟨⟨st, wp, gen⟩, e0⟩ := q
  dsimp only at hM hok hV
  by_cases he : e0 = 0
  · subst he
    obtain ⟨i0, i1, hl64, hx, hrt⟩ := hok rfl
    have hz := (Geo.rz_iff _ _).mp (zone_right hrt i0 i1)
    rw [← hx] at hz
    dsimp only at hz
    have hself := set_self L i i0 i1
    rw [← hx] at hself
    have hW := fun x W h => rwith_any id m u b c z s me o a l A0 c0 L i x W h hc0 (by omega) i0 i1
    rw [← hn] at hW i1
    have HW := Lib.hid hW; have HXX := Lib.hid hx; have HSF := Lib.hid hself; clear hW hok hl64 hx hself
    by_cases s0 : st = 0
    · subst s0
      have hv : V = (some (L.set i.toNat ⟨0, wp, gen⟩), 0) := by rw [hV, if_neg (by simp), if_pos rfl]
      subst hv
      clear hz
      rw [← hn] at hM hr0 hc0 ⊢
      have HR := Lib.hid hr0; have HM := Lib.hid hM; have Hn := Lib.hid hn; clear hr0 hM hn; (try clear hV)
      have H := al2 w (rtabO id m u b c z s me o a l (.slice A0 n c0)) (rtabO 0 0 0 0 0 0 0 0 0 0 0 (.slice none 0 0))
      have H0 := Lib.hid H.1; have H1 := Lib.hid H.2.1; have HB0 := Lib.hid H.2.2; clear H
      obtain ⟨t0, t1, t2, t3, t4, t5, t6, t7, t8, t9, t10, t11⟩ := cz12 H0.out
      have hge : w.heap.size ≤ w.heap.size + 1 := by omega
      go_enter Try.func35, Try.ntmps35
      go_wp2_with first
        | (go_at_call 51; with_reducible refine (HM.out _ (Kd.C_below HR.out HB0.out)).mono ?_; rintro e w1 ⟨rfl, hb1⟩; have hs := hb1.size; rw [sz2] at hs; have HB1 := Lib.hid (below_step HB0.out hb1); have K1 := Lib.hid (blk_below H0.out hb1); have G1 := Lib.hid (blk_below H1.out hb1); clear hb1; have q0 : w1.heap.size ≠ w.heap.size := (by omega); have q0p : w.heap.size ≠ w1.heap.size := (by omega); have q1 : w1.heap.size ≠ w.heap.size + 1 := (by omega); have q1p : w.heap.size + 1 ≠ w1.heap.size := (by omega); obtain ⟨k0, k1, k2, k3, k4, k5, k6, k7, k8, k9, k10, k11⟩ := cz12 K1.out; obtain ⟨kf0, kf1, kf2, kf3, kf4, kf5, kf6, kf7, kf8, kf9, kf10, kf11⟩ := fz12 K1.out; obtain ⟨ad, ea, u0, u1, u2⟩ := at_T57 (Kd.C_below HR.out HB1.out) i i0 i1; rw [← HXX.out] at u0 u1 u2; subst ea; have Xa := Lib.hid (blk_new w1 (zoO 0 wp gen)); have Ka := Lib.hid (blk_alloc K1.out (zoO 0 wp gen)); have Ga := Lib.hid (blk_alloc G1.out (zoO 0 wp gen)); have HBa := Lib.hid (below_alloc HB1.out (zoO 0 wp gen)); obtain ⟨xa0, xa1, xa2, xa3, xa4, xa5, xa6, xa7, xa8, xa9, xa10, xa11⟩ := cz12 Ka.out; obtain ⟨ya0, ya1, ya2, ya3, ya4, ya5, ya6, ya7, ya8, ya9, ya10, ya11⟩ := cz12 Ga.out; obtain ⟨yfa0, yfa1, yfa2, yfa3, yfa4, yfa5, yfa6, yfa7, yfa8, yfa9, yfa10, yfa11⟩ := fz12 Ga.out; obtain ⟨ra0, ra1, ra2⟩ := cz3 Xa.out; obtain ⟨rfa0, rfa1, rfa2⟩ := fz3 Xa.out)
      refine bodyPost_ret (results_ct rfl _ _ (w.heap.size + 1) 34 #[.int .i64 id, .int .i64 m, .int .i64 u, .int .i64 b, .int .i64 c, .int .i64 z, .int .i64 s, .int .i64 me, .int .i64 o, .int .i64 a, .int .i64 l, .slice (some ad) n c0] (0, 0) _ rfl (put12 Ga.out) Try.underlying34 rfl (by kernel_rfl)) rfl ?_
      exact ⟨_, rfl, .inr ⟨congrArg some HSF.out, rfl⟩, bl12 HBa.out hge⟩
    · have s0b : (st == 0) = false := beq_eq_false_iff_ne.mpr s0
      by_cases s4 : 1099511627776 ≤ gen
      · have hv : V = (none, 4) := by rw [hV, if_neg (by simp), if_neg s0, if_pos s4]
        subst hv
        have sb : (gen == 1099511627776) = true := beq_iff_eq.mpr (by omega)
        have HS4 := Lib.hid s4; clear s4 hz
        rw [← hn] at hM hr0 hc0 ⊢
        have HR := Lib.hid hr0; have HM := Lib.hid hM; have Hn := Lib.hid hn; clear hr0 hM hn; (try clear hV)
        have H := al2 w (rtabO id m u b c z s me o a l (.slice A0 n c0)) (rtabO 0 0 0 0 0 0 0 0 0 0 0 (.slice none 0 0))
        have H0 := Lib.hid H.1; have H1 := Lib.hid H.2.1; have HB0 := Lib.hid H.2.2; clear H
        obtain ⟨t0, t1, t2, t3, t4, t5, t6, t7, t8, t9, t10, t11⟩ := cz12 H0.out
        have hge : w.heap.size ≤ w.heap.size + 1 := by omega
        go_enter Try.func35, Try.ntmps35
        go_wp2_with first
          | (go_at_call 51; with_reducible refine (HM.out _ (Kd.C_below HR.out HB0.out)).mono ?_; rintro e w1 ⟨rfl, hb1⟩; have hs := hb1.size; rw [sz2] at hs; have HB1 := Lib.hid (below_step HB0.out hb1); have K1 := Lib.hid (blk_below H0.out hb1); have G1 := Lib.hid (blk_below H1.out hb1); clear hb1; have q0 : w1.heap.size ≠ w.heap.size := (by omega); have q0p : w.heap.size ≠ w1.heap.size := (by omega); have q1 : w1.heap.size ≠ w.heap.size + 1 := (by omega); have q1p : w.heap.size + 1 ≠ w1.heap.size := (by omega); obtain ⟨k0, k1, k2, k3, k4, k5, k6, k7, k8, k9, k10, k11⟩ := cz12 K1.out; obtain ⟨kf0, kf1, kf2, kf3, kf4, kf5, kf6, kf7, kf8, kf9, kf10, kf11⟩ := fz12 K1.out; obtain ⟨ad, ea, u0, u1, u2⟩ := at_T57 (Kd.C_below HR.out HB1.out) i i0 i1; rw [← HXX.out] at u0 u1 u2; subst ea; have Xa := Lib.hid (blk_new w1 (zoO st wp gen)); have Ka := Lib.hid (blk_alloc K1.out (zoO st wp gen)); have Ga := Lib.hid (blk_alloc G1.out (zoO st wp gen)); have HBa := Lib.hid (below_alloc HB1.out (zoO st wp gen)); obtain ⟨xa0, xa1, xa2, xa3, xa4, xa5, xa6, xa7, xa8, xa9, xa10, xa11⟩ := cz12 Ka.out; obtain ⟨ya0, ya1, ya2, ya3, ya4, ya5, ya6, ya7, ya8, ya9, ya10, ya11⟩ := cz12 Ga.out; obtain ⟨yfa0, yfa1, yfa2, yfa3, yfa4, yfa5, yfa6, yfa7, yfa8, yfa9, yfa10, yfa11⟩ := fz12 Ga.out; obtain ⟨ra0, ra1, ra2⟩ := cz3 Xa.out; obtain ⟨rfa0, rfa1, rfa2⟩ := fz3 Xa.out)
        refine bodyPost_ret (results_ct rfl _ _ (w.heap.size + 1) 34 #[.int .i64 0, .int .i64 0, .int .i64 0, .int .i64 0, .int .i64 0, .int .i64 0, .int .i64 0, .int .i64 0, .int .i64 0, .int .i64 0, .int .i64 0, .slice none 0 0] (0, 0) _ rfl (put12 Ga.out) Try.underlying34 rfl (by kernel_rfl)) rfl ?_
        exact ⟨_, rfl, .inl (.inl ⟨rfl, rfl⟩), bl12 HBa.out hge⟩
      · have hv : V = (some (L.set i.toNat ⟨0, 0, wrap64 (gen + 1)⟩), 0) := by rw [hV, if_neg (by simp), if_neg s0, if_neg s4]
        subst hv
        have sb : (gen == 1099511627776) = false := beq_eq_false_iff_ne.mpr (by omega)
        clear s4 hz
        rw [← hn] at hM hr0 hc0 ⊢
        have HR := Lib.hid hr0; have HM := Lib.hid hM; have Hn := Lib.hid hn; clear hr0 hM hn; (try clear hV)
        have H := al2 w (rtabO id m u b c z s me o a l (.slice A0 n c0)) (rtabO 0 0 0 0 0 0 0 0 0 0 0 (.slice none 0 0))
        have H0 := Lib.hid H.1; have H1 := Lib.hid H.2.1; have HB0 := Lib.hid H.2.2; clear H
        obtain ⟨t0, t1, t2, t3, t4, t5, t6, t7, t8, t9, t10, t11⟩ := cz12 H0.out
        have hge : w.heap.size ≤ w.heap.size + 1 := by omega
        go_enter Try.func35, Try.ntmps35
        go_wp2_with first
          | (go_at_call 51; with_reducible refine (HM.out _ (Kd.C_below HR.out HB0.out)).mono ?_; rintro e w1 ⟨rfl, hb1⟩; have hs := hb1.size; rw [sz2] at hs; have HB1 := Lib.hid (below_step HB0.out hb1); have K1 := Lib.hid (blk_below H0.out hb1); have G1 := Lib.hid (blk_below H1.out hb1); clear hb1; have q0 : w1.heap.size ≠ w.heap.size := (by omega); have q0p : w.heap.size ≠ w1.heap.size := (by omega); have q1 : w1.heap.size ≠ w.heap.size + 1 := (by omega); have q1p : w.heap.size + 1 ≠ w1.heap.size := (by omega); obtain ⟨k0, k1, k2, k3, k4, k5, k6, k7, k8, k9, k10, k11⟩ := cz12 K1.out; obtain ⟨kf0, kf1, kf2, kf3, kf4, kf5, kf6, kf7, kf8, kf9, kf10, kf11⟩ := fz12 K1.out; obtain ⟨ad, ea, u0, u1, u2⟩ := at_T57 (Kd.C_below HR.out HB1.out) i i0 i1; rw [← HXX.out] at u0 u1 u2; subst ea; have Xa := Lib.hid (blk_new w1 (zoO st wp gen)); have Ka := Lib.hid (blk_alloc K1.out (zoO st wp gen)); have Ga := Lib.hid (blk_alloc G1.out (zoO st wp gen)); have HBa := Lib.hid (below_alloc HB1.out (zoO st wp gen)); obtain ⟨xa0, xa1, xa2, xa3, xa4, xa5, xa6, xa7, xa8, xa9, xa10, xa11⟩ := cz12 Ka.out; obtain ⟨ya0, ya1, ya2, ya3, ya4, ya5, ya6, ya7, ya8, ya9, ya10, ya11⟩ := cz12 Ga.out; obtain ⟨yfa0, yfa1, yfa2, yfa3, yfa4, yfa5, yfa6, yfa7, yfa8, yfa9, yfa10, yfa11⟩ := fz12 Ga.out; obtain ⟨ra0, ra1, ra2⟩ := cz3 Xa.out; obtain ⟨rfa0, rfa1, rfa2⟩ := fz3 Xa.out)
          | (go_at_call 52; refine (HW.out ⟨0, 0, wrap64 (gen + 1)⟩ _ (Kd.C_below HR.out HBa.out)).mono ?_; rintro e w2 ⟨v, rfl, hR2, hb2⟩; obtain ⟨A2, c2, rfl⟩ := Kd.R_slice hR2; simp only [List.length_set] at hR2; have G3 := Lib.hid (blk_below Ga.out hb2); have HB3 := Lib.hid (below_step HBa.out hb2); have HR2 := Lib.hid (Kd.R_lower hR2 HBa.out.size); clear hR2 hb2; obtain ⟨z0, z1, z2, z3, z4, z5, z6, z7, z8, z9, z10, z11⟩ := cz12 G3.out; obtain ⟨zf0, zf1, zf2, zf3, zf4, zf5, zf6, zf7, zf8, zf9, zf10, zf11⟩ := fz12 G3.out)
        refine bodyPost_ret (results_ct rfl _ _ (w.heap.size + 1) 34 #[.int .i64 id, .int .i64 m, .int .i64 u, .int .i64 b, .int .i64 c, .int .i64 z, .int .i64 s, .int .i64 me, .int .i64 o, .int .i64 a, .int .i64 l, .slice A2 _ c2] (0, 0) _ rfl (put12 G3.out) Try.underlying34 rfl (by kernel_rfl)) rfl ?_
        exact ⟨_, rfl, .inl (.inr ⟨_, _, rfl, rfl, R12 HR2.out G3.out (by decide)⟩), bl12 HB3.out hge⟩
  · have hv : V = (none, e0) := by rw [hV, if_pos he]
    subst hv
    have eb : (e0 == 0) = false := beq_eq_false_iff_ne.mpr he
    clear hok
    rw [← hn] at hM hr0 hc0 ⊢
    have HR := Lib.hid hr0; have HM := Lib.hid hM; have Hn := Lib.hid hn; clear hr0 hM hn; (try clear hV)
    have H := al2 w (rtabO id m u b c z s me o a l (.slice A0 n c0)) (rtabO 0 0 0 0 0 0 0 0 0 0 0 (.slice none 0 0))
    have H0 := Lib.hid H.1; have H1 := Lib.hid H.2.1; have HB0 := Lib.hid H.2.2; clear H
    obtain ⟨t0, t1, t2, t3, t4, t5, t6, t7, t8, t9, t10, t11⟩ := cz12 H0.out
    have hge : w.heap.size ≤ w.heap.size + 1 := by omega
    go_enter Try.func35, Try.ntmps35
    go_wp2_with first
      | (go_at_call 51; with_reducible refine (HM.out _ (Kd.C_below HR.out HB0.out)).mono ?_; rintro e w1 ⟨rfl, hb1⟩; have HB1 := Lib.hid (below_step HB0.out hb1); have K1 := Lib.hid (blk_below H0.out hb1); have G1 := Lib.hid (blk_below H1.out hb1); clear hb1; obtain ⟨k0, k1, k2, k3, k4, k5, k6, k7, k8, k9, k10, k11⟩ := cz12 K1.out)
      | (go_at_call 51; with_reducible refine (HM.out _ (Kd.C_below HR.out HB1.out)).mono ?_; rintro e w2 ⟨rfl, hb2⟩; have HB2 := Lib.hid (below_step HB1.out hb2); have G2 := Lib.hid (blk_below G1.out hb2); clear hb2; obtain ⟨g0, g1, g2, g3, g4, g5, g6, g7, g8, g9, g10, g11⟩ := cz12 G2.out; obtain ⟨gf0, gf1, gf2, gf3, gf4, gf5, gf6, gf7, gf8, gf9, gf10, gf11⟩ := fz12 G2.out)
    refine bodyPost_ret (results_ct rfl _ _ (w.heap.size + 1) 34 #[.int .i64 0, .int .i64 0, .int .i64 0, .int .i64 0, .int .i64 0, .int .i64 0, .int .i64 0, .int .i64 0, .int .i64 0, .int .i64 0, .int .i64 0, .slice none 0 0] (0, 0) _ rfl (put12 G2.out) Try.underlying34 rfl (by kernel_rfl)) rfl ?_
    exact ⟨_, rfl, .inl (.inl ⟨rfl, rfl⟩), bl12 HB2.out hge⟩
end Go.Proofs.Ytlellnmpogimlaa
