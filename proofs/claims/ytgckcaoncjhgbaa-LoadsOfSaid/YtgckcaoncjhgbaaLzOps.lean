/- lzone: Finish, Close, Reset, Open. -/
import Derived.Test.YtgckcaoncjhgbaaFLa
set_option maxHeartbeats 2000000
set_option maxRecDepth 100000
open Go.Lib (hid)
namespace Go.Proofs.Ytgckcaoncjhgbaa
open Go.RowKit Go.Proofs.Ytgckcaoncjhgbaa.PL Go.Proofs.YtgckcaoncjhgbaaW.PrintWords Go.Proofs.YtgckcaoncjhgbaaW.PrintLast
set_option linter.unusedVariables false
set_option linter.unusedSimpArgs false
def jL_ (id m u b c z s me o a l : Int) (L : List S59) (i : Int) : Option (List S59) × Int := if (atZ id m u b c z s me o a l L i).2 ≠ 0 then (none, (atZ id m u b c z s me o a l L i).2) else (some (L.set i.toNat ⟨3, (atZ id m u b c z s me o a l L i).1.f1, (atZ id m u b c z s me o a l L i).1.f2⟩), 0)
theorem finish_any (id m u b c z s me o a l : Int) (A0 : Option Addr) (c0 : Nat) (L : List S59) (i : Int) (w : World) (hr0 : Kd.C k59 w A0 L.length L) (hc0 : L.length <= c0) :
  Calls Try.prog 59 #[tabV id m u b c z s me o a l (.slice A0 L.length c0), .int .i64 i] w fun e w' => ∃ v, e = .returned (.tuple #[v, .int .i64 (jL_ id m u b c z s me o a l L i).2]) /\ TabR id m u b c z s me o a l (jL_ id m u b c z s me o a l L i).1 w.heap.size w' v /\ Below w.heap.size w w' := by
 obtain ⟨n, hn⟩ : ∃ n, n = L.length := ⟨_, rfl⟩
 obtain ⟨V, hV⟩ : ∃ V, V = jL_ id m u b c z s me o a l L i := ⟨_, rfl⟩
 rw [<- hV]; unfold jL_ at hV
 have hA := fun W h => yX_ id m u b c z s me o a l A0 c0 L i W h hc0
 have hok := @vc_ id m u b c z s me o a l L i
 generalize atZ id m u b c z s me o a l L i = q at hA hok hV
 obtain ⟨⟨st, wp, gen⟩, e0⟩ := q
 dsimp only at hA hok hV
 by_cases he : e0 = 0
 ·
  have hv : V = (some (L.set i.toNat ⟨3, wp, gen⟩), 0) := by rw [hV, if_neg (by simp [he])]
  subst hv
  subst he
  obtain ⟨hi0, hi1, hl, hz, hrt⟩ := hok rfl
  have hW := fun x W h => kx_ id m u b c z s me o a l A0 c0 L i x W h hc0 (by omega) hi0 hi1
  rw [<- hn] at hW
  have HW := hid hW; clear hW hok hi0 hi1 hl hz hrt
  rw [<- hn] at hA hr0 hc0 ⊢
  have HR := hid hr0; have HA := hid hA; have HV := hid hV; have Hn := hid hn; clear hr0 hA hV hn
  have H := al2 w (tabO id m u b c z s me o a l (.slice A0 n c0)) (tabO 0 0 0 0 0 0 0 0 0 0 0 (.slice none 0 0))
  have H0 := hid H.1; have H1 := hid H.2.1; have HB0 := hid H.2.2; clear H
  obtain ⟨t0, t1, t2, t3, t4, t5, t6, t7, t8, t9, t10, t11⟩ := cz12 H0.out
  have hge : w.heap.size <= w.heap.size + 1 := by omega
  go_enter Try.func59, Try.ntmps59
  go_wp2_with first
   | (go_at_call 101; refine (HA.out _ (Kd.C_below HR.out HB0.out)).mono ?_; rintro e w1 ⟨rfl, hb1⟩; have hs := hb1.size; rw [sz2] at hs; have HB1 := hid (jc_ HB0.out hb1); have K1 := hid (jb_ H0.out hb1); have G1 := hid (jb_ H1.out hb1); clear hb1; have q0 : w1.heap.size ≠ w.heap.size := (by omega); have q0p : w.heap.size ≠ w1.heap.size := (by omega); have q1 : w1.heap.size ≠ w.heap.size + 1 := (by omega); have q1p : w.heap.size + 1 ≠ w1.heap.size := (by omega); have Xa := hid (ju_ w1 (zoO st wp gen)); have Ka := hid (ja_ K1.out (zoO st wp gen)); have Ga := hid (ja_ G1.out (zoO st wp gen)); have HBa := hid (jg_ HB1.out (zoO st wp gen)); obtain ⟨xa0, xa1, xa2, xa3, xa4, xa5, xa6, xa7, xa8, xa9, xa10, xa11⟩ := cz12 Ka.out; obtain ⟨ya0, ya1, ya2, ya3, ya4, ya5, ya6, ya7, ya8, ya9, ya10, ya11⟩ := cz12 Ga.out; obtain ⟨yfa0, yfa1, yfa2, yfa3, yfa4, yfa5, yfa6, yfa7, yfa8, yfa9, yfa10, yfa11⟩ := fz12 Ga.out; obtain ⟨ra0, ra1, ra2⟩ := cz3 Xa.out; obtain ⟨rfa0, rfa1, rfa2⟩ := fz3 Xa.out; have Xb := hid (ju_ w1 (zoO 3 wp gen)); have Kb := hid (ja_ K1.out (zoO 3 wp gen)); have Gb := hid (ja_ G1.out (zoO 3 wp gen)); have HBb := hid (jg_ HB1.out (zoO 3 wp gen)); obtain ⟨xb0, xb1, xb2, xb3, xb4, xb5, xb6, xb7, xb8, xb9, xb10, xb11⟩ := cz12 Kb.out; obtain ⟨yb0, yb1, yb2, yb3, yb4, yb5, yb6, yb7, yb8, yb9, yb10, yb11⟩ := cz12 Gb.out; obtain ⟨yfb0, yfb1, yfb2, yfb3, yfb4, yfb5, yfb6, yfb7, yfb8, yfb9, yfb10, yfb11⟩ := fz12 Gb.out; obtain ⟨rb0, rb1, rb2⟩ := cz3 Xb.out; obtain ⟨rfb0, rfb1, rfb2⟩ := fz3 Xb.out)
   | (go_at_call 103; refine (HW.out ⟨3, wp, gen⟩ _ (Kd.C_below HR.out HBb.out)).mono ?_; rintro e w2 ⟨v, rfl, hR2, hb2⟩; obtain ⟨A2, c2, rfl⟩ := Kd.R_slice hR2; simp only [List.length_set] at hR2; have G3 := hid (jb_ Gb.out hb2); have HB3 := hid (jc_ HBb.out hb2); have HR2 := hid (Kd.R_lower hR2 HBb.out.size); clear hR2 hb2; obtain ⟨z0, z1, z2, z3, z4, z5, z6, z7, z8, z9, z10, z11⟩ := cz12 G3.out; obtain ⟨zf0, zf1, zf2, zf3, zf4, zf5, zf6, zf7, zf8, zf9, zf10, zf11⟩ := fz12 G3.out)
  refine bodyPost_ret (jj_ rfl _ _ (w.heap.size + 1) 27 #[.int .i64 id, .int .i64 m, .int .i64 u, .int .i64 b, .int .i64 c, .int .i64 z, .int .i64 s, .int .i64 me, .int .i64 o, .int .i64 a, .int .i64 l, .slice A2 _ c2] (0, 0) _ rfl (ko_ G3.out) Try.underlying27 rfl (by kernel_rfl)) rfl ?_
  exact ⟨_, rfl, .inr ⟨_, _, rfl, rfl, R12 HR2.out G3.out (by decide)⟩, bl12 HB3.out hge⟩
 ·
  have hv : V = (none, e0) := by rw [hV, if_pos he]
  subst hv
  have eb : (e0 == 0) = false := beq_eq_false_iff_ne.mpr he
  clear hok
  rw [<- hn] at hA hr0 hc0 ⊢
  have HR := hid hr0; have HA := hid hA; have HV := hid hV; have Hn := hid hn; clear hr0 hA hV hn
  have H := al2 w (tabO id m u b c z s me o a l (.slice A0 n c0)) (tabO 0 0 0 0 0 0 0 0 0 0 0 (.slice none 0 0))
  have H0 := hid H.1; have H1 := hid H.2.1; have HB0 := hid H.2.2; clear H
  obtain ⟨t0, t1, t2, t3, t4, t5, t6, t7, t8, t9, t10, t11⟩ := cz12 H0.out
  have hge : w.heap.size <= w.heap.size + 1 := by omega
  go_enter Try.func59, Try.ntmps59
  go_wp2_with first
   | (go_at_call 101; refine (HA.out _ (Kd.C_below HR.out HB0.out)).mono ?_; rintro e w1 ⟨rfl, hb1⟩; have hs := hb1.size; rw [sz2] at hs; have HB1 := hid (jc_ HB0.out hb1); have K1 := hid (jb_ H0.out hb1); have G1 := hid (jb_ H1.out hb1); clear hb1; have q0 : w1.heap.size ≠ w.heap.size := (by omega); have q0p : w.heap.size ≠ w1.heap.size := (by omega); have q1 : w1.heap.size ≠ w.heap.size + 1 := (by omega); have q1p : w.heap.size + 1 ≠ w1.heap.size := (by omega); have Xa := hid (ju_ w1 (zoO st wp gen)); have Ka := hid (ja_ K1.out (zoO st wp gen)); have Ga := hid (ja_ G1.out (zoO st wp gen)); have HBa := hid (jg_ HB1.out (zoO st wp gen)); obtain ⟨xa0, xa1, xa2, xa3, xa4, xa5, xa6, xa7, xa8, xa9, xa10, xa11⟩ := cz12 Ka.out; obtain ⟨ya0, ya1, ya2, ya3, ya4, ya5, ya6, ya7, ya8, ya9, ya10, ya11⟩ := cz12 Ga.out; obtain ⟨yfa0, yfa1, yfa2, yfa3, yfa4, yfa5, yfa6, yfa7, yfa8, yfa9, yfa10, yfa11⟩ := fz12 Ga.out; obtain ⟨ra0, ra1, ra2⟩ := cz3 Xa.out; obtain ⟨rfa0, rfa1, rfa2⟩ := fz3 Xa.out)
  refine bodyPost_ret (jj_ rfl _ _ (w.heap.size + 1) 27 #[.int .i64 0, .int .i64 0, .int .i64 0, .int .i64 0, .int .i64 0, .int .i64 0, .int .i64 0, .int .i64 0, .int .i64 0, .int .i64 0, .int .i64 0, .slice none 0 0] (0, 0) _ rfl (ko_ Ga.out) Try.underlying27 rfl (by kernel_rfl)) rfl ?_
  exact ⟨_, rfl, .inl ⟨rfl, rfl⟩, bl12 HBa.out hge⟩
def jV_ (id m u b c z s me o a l : Int) (L : List S59) (i : Int) : Option (List S59) × Int := if (atZ id m u b c z s me o a l L i).2 ≠ 0 then (none, (atZ id m u b c z s me o a l L i).2) else if (atZ id m u b c z s me o a l L i).1.f0 = 1 then (some (L.set i.toNat ⟨if (atZ id m u b c z s me o a l L i).1.f1 = 0 then 0 else 2, (atZ id m u b c z s me o a l L i).1.f1, (atZ id m u b c z s me o a l L i).1.f2⟩), 0) else (none, 9)
theorem close_any (id m u b c z s me o a l : Int) (A0 : Option Addr) (c0 : Nat) (L : List S59) (i : Int) (w : World) (hr0 : Kd.C k59 w A0 L.length L) (hc0 : L.length <= c0) :
  Calls Try.prog 61 #[tabV id m u b c z s me o a l (.slice A0 L.length c0), .int .i64 i] w fun e w' => ∃ v, e = .returned (.tuple #[v, .int .i64 (jV_ id m u b c z s me o a l L i).2]) /\ TabR id m u b c z s me o a l (jV_ id m u b c z s me o a l L i).1 w.heap.size w' v /\ Below w.heap.size w w' := by
 obtain ⟨n, hn⟩ : ∃ n, n = L.length := ⟨_, rfl⟩
 obtain ⟨V, hV⟩ : ∃ V, V = jV_ id m u b c z s me o a l L i := ⟨_, rfl⟩
 rw [<- hV]; unfold jV_ at hV
 have hA := fun W h => yX_ id m u b c z s me o a l A0 c0 L i W h hc0
 have hok := @vc_ id m u b c z s me o a l L i
 generalize atZ id m u b c z s me o a l L i = q at hA hok hV
 obtain ⟨⟨st, wp, gen⟩, e0⟩ := q
 dsimp only at hA hok hV
 by_cases he : e0 = 0
 ·
  by_cases s1 : st = 1
  ·
   have hs := fun W => rested_any ⟨st, wp, gen⟩ W
   dsimp only at hs
   generalize (if wp = 0 then (0 : Int) else 2) = r0 at hs hV
   have HS := hid hs; clear hs
   have hv : V = (some (L.set i.toNat ⟨r0, wp, gen⟩), 0) := by rw [hV, if_neg (by simp [he]), if_pos s1]
   subst hv
   subst s1
   subst he
   obtain ⟨hi0, hi1, hl, hz, hrt⟩ := hok rfl
   have hW := fun x W h => kx_ id m u b c z s me o a l A0 c0 L i x W h hc0 (by omega) hi0 hi1
   rw [<- hn] at hW
   have HW := hid hW; clear hW hok hi0 hi1 hl hz hrt
   rw [<- hn] at hA hr0 hc0 ⊢
   have HR := hid hr0; have HA := hid hA; have HV := hid hV; have Hn := hid hn; clear hr0 hA hV hn
   have H := al2 w (tabO id m u b c z s me o a l (.slice A0 n c0)) (tabO 0 0 0 0 0 0 0 0 0 0 0 (.slice none 0 0))
   have H0 := hid H.1; have H1 := hid H.2.1; have HB0 := hid H.2.2; clear H
   obtain ⟨t0, t1, t2, t3, t4, t5, t6, t7, t8, t9, t10, t11⟩ := cz12 H0.out
   have hge : w.heap.size <= w.heap.size + 1 := by omega
   go_enter Try.func61, Try.ntmps61
   go_wp2_with first
    | (go_at_call 101; refine (HA.out _ (Kd.C_below HR.out HB0.out)).mono ?_; rintro e w1 ⟨rfl, hb1⟩; have hs := hb1.size; rw [sz2] at hs; have HB1 := hid (jc_ HB0.out hb1); have K1 := hid (jb_ H0.out hb1); have G1 := hid (jb_ H1.out hb1); clear hb1; have q0 : w1.heap.size ≠ w.heap.size := (by omega); have q0p : w.heap.size ≠ w1.heap.size := (by omega); have q1 : w1.heap.size ≠ w.heap.size + 1 := (by omega); have q1p : w.heap.size + 1 ≠ w1.heap.size := (by omega); have Xa := hid (ju_ w1 (zoO 1 wp gen)); have Ka := hid (ja_ K1.out (zoO 1 wp gen)); have Ga := hid (ja_ G1.out (zoO 1 wp gen)); have HBa := hid (jg_ HB1.out (zoO 1 wp gen)); obtain ⟨xa0, xa1, xa2, xa3, xa4, xa5, xa6, xa7, xa8, xa9, xa10, xa11⟩ := cz12 Ka.out; obtain ⟨ya0, ya1, ya2, ya3, ya4, ya5, ya6, ya7, ya8, ya9, ya10, ya11⟩ := cz12 Ga.out; obtain ⟨yfa0, yfa1, yfa2, yfa3, yfa4, yfa5, yfa6, yfa7, yfa8, yfa9, yfa10, yfa11⟩ := fz12 Ga.out; obtain ⟨ra0, ra1, ra2⟩ := cz3 Xa.out; obtain ⟨rfa0, rfa1, rfa2⟩ := fz3 Xa.out)
    | (go_at_call 104; refine (HS.out _).mono ?_; rintro e w3 ⟨rfl, hb3⟩; have Kc := hid (jb_ Ka.out hb3); have Gc := hid (jb_ Ga.out hb3); have Xc := hid (jb_ Xa.out hb3); have HBc := hid (jc_ HBa.out hb3); clear hb3; obtain ⟨xc0, xc1, xc2, xc3, xc4, xc5, xc6, xc7, xc8, xc9, xc10, xc11⟩ := cz12 Kc.out; obtain ⟨yc0, yc1, yc2, yc3, yc4, yc5, yc6, yc7, yc8, yc9, yc10, yc11⟩ := cz12 Gc.out; obtain ⟨yfc0, yfc1, yfc2, yfc3, yfc4, yfc5, yfc6, yfc7, yfc8, yfc9, yfc10, yfc11⟩ := fz12 Gc.out; obtain ⟨rc0, rc1, rc2⟩ := cz3 Xc.out; obtain ⟨rfc0, rfc1, rfc2⟩ := fz3 Xc.out)
    | (go_at_call 103; refine (HW.out ⟨r0, wp, gen⟩ _ (Kd.C_below HR.out (jx_ HBc.out (by have := HB1.out.size; omega)))).mono ?_; rintro e w2 ⟨v, rfl, hR2, hb2⟩; obtain ⟨A2, c2, rfl⟩ := Kd.R_slice hR2; simp only [List.length_set] at hR2; have G3 := hid (jb_ (jv_ Gc.out q1p _) hb2); have HB3 := hid (jc_ (jx_ HBc.out (by have := HB1.out.size; omega)) hb2); have HR2 := hid (Kd.R_lower hR2 (jx_ HBc.out (by have := HB1.out.size; omega)).size); clear hR2 hb2; obtain ⟨z0, z1, z2, z3, z4, z5, z6, z7, z8, z9, z10, z11⟩ := cz12 G3.out; obtain ⟨zf0, zf1, zf2, zf3, zf4, zf5, zf6, zf7, zf8, zf9, zf10, zf11⟩ := fz12 G3.out)
   refine bodyPost_ret (jj_ rfl _ _ (w.heap.size + 1) 27 #[.int .i64 id, .int .i64 m, .int .i64 u, .int .i64 b, .int .i64 c, .int .i64 z, .int .i64 s, .int .i64 me, .int .i64 o, .int .i64 a, .int .i64 l, .slice A2 _ c2] (0, 0) _ rfl (ko_ G3.out) Try.underlying27 rfl (by kernel_rfl)) rfl ?_
   exact ⟨_, rfl, .inr ⟨_, _, rfl, rfl, R12 HR2.out G3.out (by decide)⟩, bl12 HB3.out hge⟩
  ·
   have hv : V = (none, 9) := by rw [hV, if_neg (by simp [he]), if_neg s1]
   subst hv
   have s1b : (st == 1) = false := beq_eq_false_iff_ne.mpr s1
   subst he
   obtain ⟨hi0, hi1, hl, hz, hrt⟩ := hok rfl
   have hW := fun x W h => kx_ id m u b c z s me o a l A0 c0 L i x W h hc0 (by omega) hi0 hi1
   rw [<- hn] at hW
   have HW := hid hW; clear hW hok hi0 hi1 hl hz hrt
   rw [<- hn] at hA hr0 hc0 ⊢
   have HR := hid hr0; have HA := hid hA; have HV := hid hV; have Hn := hid hn; clear hr0 hA hV hn
   have H := al2 w (tabO id m u b c z s me o a l (.slice A0 n c0)) (tabO 0 0 0 0 0 0 0 0 0 0 0 (.slice none 0 0))
   have H0 := hid H.1; have H1 := hid H.2.1; have HB0 := hid H.2.2; clear H
   obtain ⟨t0, t1, t2, t3, t4, t5, t6, t7, t8, t9, t10, t11⟩ := cz12 H0.out
   have hge : w.heap.size <= w.heap.size + 1 := by omega
   go_enter Try.func61, Try.ntmps61
   go_wp2_with first
    | (go_at_call 101; refine (HA.out _ (Kd.C_below HR.out HB0.out)).mono ?_; rintro e w1 ⟨rfl, hb1⟩; have hs := hb1.size; rw [sz2] at hs; have HB1 := hid (jc_ HB0.out hb1); have K1 := hid (jb_ H0.out hb1); have G1 := hid (jb_ H1.out hb1); clear hb1; have q0 : w1.heap.size ≠ w.heap.size := (by omega); have q0p : w.heap.size ≠ w1.heap.size := (by omega); have q1 : w1.heap.size ≠ w.heap.size + 1 := (by omega); have q1p : w.heap.size + 1 ≠ w1.heap.size := (by omega); have Xa := hid (ju_ w1 (zoO st wp gen)); have Ka := hid (ja_ K1.out (zoO st wp gen)); have Ga := hid (ja_ G1.out (zoO st wp gen)); have HBa := hid (jg_ HB1.out (zoO st wp gen)); obtain ⟨xa0, xa1, xa2, xa3, xa4, xa5, xa6, xa7, xa8, xa9, xa10, xa11⟩ := cz12 Ka.out; obtain ⟨ya0, ya1, ya2, ya3, ya4, ya5, ya6, ya7, ya8, ya9, ya10, ya11⟩ := cz12 Ga.out; obtain ⟨yfa0, yfa1, yfa2, yfa3, yfa4, yfa5, yfa6, yfa7, yfa8, yfa9, yfa10, yfa11⟩ := fz12 Ga.out; obtain ⟨ra0, ra1, ra2⟩ := cz3 Xa.out; obtain ⟨rfa0, rfa1, rfa2⟩ := fz3 Xa.out)
   refine bodyPost_ret (jj_ rfl _ _ (w.heap.size + 1) 27 #[.int .i64 0, .int .i64 0, .int .i64 0, .int .i64 0, .int .i64 0, .int .i64 0, .int .i64 0, .int .i64 0, .int .i64 0, .int .i64 0, .int .i64 0, .slice none 0 0] (0, 0) _ rfl (ko_ Ga.out) Try.underlying27 rfl (by kernel_rfl)) rfl ?_
   exact ⟨_, rfl, .inl ⟨rfl, rfl⟩, bl12 HBa.out hge⟩
 ·
  have hv : V = (none, e0) := by rw [hV, if_pos he]
  subst hv
  have eb : (e0 == 0) = false := beq_eq_false_iff_ne.mpr he
  clear hok
  rw [<- hn] at hA hr0 hc0 ⊢
  have HR := hid hr0; have HA := hid hA; have HV := hid hV; have Hn := hid hn; clear hr0 hA hV hn
  have H := al2 w (tabO id m u b c z s me o a l (.slice A0 n c0)) (tabO 0 0 0 0 0 0 0 0 0 0 0 (.slice none 0 0))
  have H0 := hid H.1; have H1 := hid H.2.1; have HB0 := hid H.2.2; clear H
  obtain ⟨t0, t1, t2, t3, t4, t5, t6, t7, t8, t9, t10, t11⟩ := cz12 H0.out
  have hge : w.heap.size <= w.heap.size + 1 := by omega
  go_enter Try.func61, Try.ntmps61
  go_wp2_with first
   | (go_at_call 101; refine (HA.out _ (Kd.C_below HR.out HB0.out)).mono ?_; rintro e w1 ⟨rfl, hb1⟩; have hs := hb1.size; rw [sz2] at hs; have HB1 := hid (jc_ HB0.out hb1); have K1 := hid (jb_ H0.out hb1); have G1 := hid (jb_ H1.out hb1); clear hb1; have q0 : w1.heap.size ≠ w.heap.size := (by omega); have q0p : w.heap.size ≠ w1.heap.size := (by omega); have q1 : w1.heap.size ≠ w.heap.size + 1 := (by omega); have q1p : w.heap.size + 1 ≠ w1.heap.size := (by omega); have Xa := hid (ju_ w1 (zoO st wp gen)); have Ka := hid (ja_ K1.out (zoO st wp gen)); have Ga := hid (ja_ G1.out (zoO st wp gen)); have HBa := hid (jg_ HB1.out (zoO st wp gen)); obtain ⟨xa0, xa1, xa2, xa3, xa4, xa5, xa6, xa7, xa8, xa9, xa10, xa11⟩ := cz12 Ka.out; obtain ⟨ya0, ya1, ya2, ya3, ya4, ya5, ya6, ya7, ya8, ya9, ya10, ya11⟩ := cz12 Ga.out; obtain ⟨yfa0, yfa1, yfa2, yfa3, yfa4, yfa5, yfa6, yfa7, yfa8, yfa9, yfa10, yfa11⟩ := fz12 Ga.out; obtain ⟨ra0, ra1, ra2⟩ := cz3 Xa.out; obtain ⟨rfa0, rfa1, rfa2⟩ := fz3 Xa.out)
  refine bodyPost_ret (jj_ rfl _ _ (w.heap.size + 1) 27 #[.int .i64 0, .int .i64 0, .int .i64 0, .int .i64 0, .int .i64 0, .int .i64 0, .int .i64 0, .int .i64 0, .int .i64 0, .int .i64 0, .int .i64 0, .slice none 0 0] (0, 0) _ rfl (ko_ Ga.out) Try.underlying27 rfl (by kernel_rfl)) rfl ?_
  exact ⟨_, rfl, .inl ⟨rfl, rfl⟩, bl12 HBa.out hge⟩
def jT_ (id m u b c z s me o a l : Int) (L : List S59) (i : Int) : Option (List S59) × Int := if (atZ id m u b c z s me o a l L i).2 ≠ 0 then (none, (atZ id m u b c z s me o a l L i).2) else if (atZ id m u b c z s me o a l L i).1.f0 = 0 then (some (L.set i.toNat (atZ id m u b c z s me o a l L i).1), 0) else if 1099511627776 <= (atZ id m u b c z s me o a l L i).1.f2 then (none, 4) else (some (L.set i.toNat ⟨0, 0, wrap64 ((atZ id m u b c z s me o a l L i).1.f2 + 1)⟩), 0)
theorem reset_any (id m u b c z s me o a l : Int) (A0 : Option Addr) (c0 : Nat) (L : List S59) (i : Int) (w : World) (hr0 : Kd.C k59 w A0 L.length L) (hc0 : L.length <= c0) :
  Calls Try.prog 58 #[tabV id m u b c z s me o a l (.slice A0 L.length c0), .int .i64 i] w fun e w' => ∃ v, e = .returned (.tuple #[v, .int .i64 (jT_ id m u b c z s me o a l L i).2]) /\ TabR id m u b c z s me o a l (jT_ id m u b c z s me o a l L i).1 w.heap.size w' v /\ Below w.heap.size w w' := by
 obtain ⟨n, hn⟩ : ∃ n, n = L.length := ⟨_, rfl⟩
 obtain ⟨V, hV⟩ : ∃ V, V = jT_ id m u b c z s me o a l L i := ⟨_, rfl⟩
 rw [<- hV]; unfold jT_ at hV
 have hA := fun W h => yX_ id m u b c z s me o a l A0 c0 L i W h hc0
 have hok := @vc_ id m u b c z s me o a l L i
 generalize atZ id m u b c z s me o a l L i = q at hA hok hV
 obtain ⟨⟨st, wp, gen⟩, e0⟩ := q
 dsimp only at hA hok hV
 by_cases he : e0 = 0
 ·
  by_cases s0 : st = 0
  ·
   have hv : V = (some (L.set i.toNat ⟨st, wp, gen⟩), 0) := by rw [hV, if_neg (by simp [he]), if_pos s0]
   subst hv
   subst s0
   subst he
   obtain ⟨hi0, hi1, hl, hz, hrt⟩ := hok rfl
   have hW := fun x W h => kx_ id m u b c z s me o a l A0 c0 L i x W h hc0 (by omega) hi0 hi1
   rw [<- hn] at hW
   have HW := hid hW; clear hW hok hi0 hi1 hl hz hrt
   rw [<- hn] at hA hr0 hc0 ⊢
   have HR := hid hr0; have HA := hid hA; have HV := hid hV; have Hn := hid hn; clear hr0 hA hV hn
   have H := al2 w (tabO id m u b c z s me o a l (.slice A0 n c0)) (tabO 0 0 0 0 0 0 0 0 0 0 0 (.slice none 0 0))
   have H0 := hid H.1; have H1 := hid H.2.1; have HB0 := hid H.2.2; clear H
   obtain ⟨t0, t1, t2, t3, t4, t5, t6, t7, t8, t9, t10, t11⟩ := cz12 H0.out
   have hge : w.heap.size <= w.heap.size + 1 := by omega
   go_enter Try.func58, Try.ntmps58
   go_wp2_with first
    | (go_at_call 101; refine (HA.out _ (Kd.C_below HR.out HB0.out)).mono ?_; rintro e w1 ⟨rfl, hb1⟩; have hs := hb1.size; rw [sz2] at hs; have HB1 := hid (jc_ HB0.out hb1); have K1 := hid (jb_ H0.out hb1); have G1 := hid (jb_ H1.out hb1); clear hb1; have q0 : w1.heap.size ≠ w.heap.size := (by omega); have q0p : w.heap.size ≠ w1.heap.size := (by omega); have q1 : w1.heap.size ≠ w.heap.size + 1 := (by omega); have q1p : w.heap.size + 1 ≠ w1.heap.size := (by omega); have Xa := hid (ju_ w1 (zoO 0 wp gen)); have Ka := hid (ja_ K1.out (zoO 0 wp gen)); have Ga := hid (ja_ G1.out (zoO 0 wp gen)); have HBa := hid (jg_ HB1.out (zoO 0 wp gen)); obtain ⟨xa0, xa1, xa2, xa3, xa4, xa5, xa6, xa7, xa8, xa9, xa10, xa11⟩ := cz12 Ka.out; obtain ⟨ya0, ya1, ya2, ya3, ya4, ya5, ya6, ya7, ya8, ya9, ya10, ya11⟩ := cz12 Ga.out; obtain ⟨yfa0, yfa1, yfa2, yfa3, yfa4, yfa5, yfa6, yfa7, yfa8, yfa9, yfa10, yfa11⟩ := fz12 Ga.out; obtain ⟨ra0, ra1, ra2⟩ := cz3 Xa.out; obtain ⟨rfa0, rfa1, rfa2⟩ := fz3 Xa.out)
    | (go_at_call 103; refine (HW.out ⟨0, wp, gen⟩ _ (Kd.C_below HR.out HBa.out)).mono ?_; rintro e w2 ⟨v, rfl, hR2, hb2⟩; obtain ⟨A2, c2, rfl⟩ := Kd.R_slice hR2; simp only [List.length_set] at hR2; have G3 := hid (jb_ Ga.out hb2); have HB3 := hid (jc_ HBa.out hb2); have HR2 := hid (Kd.R_lower hR2 HBa.out.size); clear hR2 hb2; obtain ⟨z0, z1, z2, z3, z4, z5, z6, z7, z8, z9, z10, z11⟩ := cz12 G3.out; obtain ⟨zf0, zf1, zf2, zf3, zf4, zf5, zf6, zf7, zf8, zf9, zf10, zf11⟩ := fz12 G3.out)
   refine bodyPost_ret (jj_ rfl _ _ (w.heap.size + 1) 27 #[.int .i64 id, .int .i64 m, .int .i64 u, .int .i64 b, .int .i64 c, .int .i64 z, .int .i64 s, .int .i64 me, .int .i64 o, .int .i64 a, .int .i64 l, .slice A2 _ c2] (0, 0) _ rfl (ko_ G3.out) Try.underlying27 rfl (by kernel_rfl)) rfl ?_
   exact ⟨_, rfl, .inr ⟨_, _, rfl, rfl, R12 HR2.out G3.out (by decide)⟩, bl12 HB3.out hge⟩
  ·
   have s0b : (st == 0) = false := beq_eq_false_iff_ne.mpr s0
   by_cases s4 : 1099511627776 <= gen
   ·
    have hv : V = (none, 4) := by rw [hV, if_neg (by simp [he]), if_neg s0, if_pos s4]
    subst hv
    subst he
    obtain ⟨hi0, hi1, hl, hz, hrt⟩ := hok rfl
    have hW := fun x W h => kx_ id m u b c z s me o a l A0 c0 L i x W h hc0 (by omega) hi0 hi1
    rw [<- hn] at hW
    have HW := hid hW; clear hW hok hi0 hi1 hl hz hrt
    rw [<- hn] at hA hr0 hc0 ⊢
    have HR := hid hr0; have HA := hid hA; have HV := hid hV; have Hn := hid hn; clear hr0 hA hV hn
    have H := al2 w (tabO id m u b c z s me o a l (.slice A0 n c0)) (tabO 0 0 0 0 0 0 0 0 0 0 0 (.slice none 0 0))
    have H0 := hid H.1; have H1 := hid H.2.1; have HB0 := hid H.2.2; clear H
    obtain ⟨t0, t1, t2, t3, t4, t5, t6, t7, t8, t9, t10, t11⟩ := cz12 H0.out
    have hge : w.heap.size <= w.heap.size + 1 := by omega
    go_enter Try.func58, Try.ntmps58
    go_wp2_with first
     | (go_at_call 101; refine (HA.out _ (Kd.C_below HR.out HB0.out)).mono ?_; rintro e w1 ⟨rfl, hb1⟩; have hs := hb1.size; rw [sz2] at hs; have HB1 := hid (jc_ HB0.out hb1); have K1 := hid (jb_ H0.out hb1); have G1 := hid (jb_ H1.out hb1); clear hb1; have q0 : w1.heap.size ≠ w.heap.size := (by omega); have q0p : w.heap.size ≠ w1.heap.size := (by omega); have q1 : w1.heap.size ≠ w.heap.size + 1 := (by omega); have q1p : w.heap.size + 1 ≠ w1.heap.size := (by omega); have Xa := hid (ju_ w1 (zoO st wp gen)); have Ka := hid (ja_ K1.out (zoO st wp gen)); have Ga := hid (ja_ G1.out (zoO st wp gen)); have HBa := hid (jg_ HB1.out (zoO st wp gen)); obtain ⟨xa0, xa1, xa2, xa3, xa4, xa5, xa6, xa7, xa8, xa9, xa10, xa11⟩ := cz12 Ka.out; obtain ⟨ya0, ya1, ya2, ya3, ya4, ya5, ya6, ya7, ya8, ya9, ya10, ya11⟩ := cz12 Ga.out; obtain ⟨yfa0, yfa1, yfa2, yfa3, yfa4, yfa5, yfa6, yfa7, yfa8, yfa9, yfa10, yfa11⟩ := fz12 Ga.out; obtain ⟨ra0, ra1, ra2⟩ := cz3 Xa.out; obtain ⟨rfa0, rfa1, rfa2⟩ := fz3 Xa.out)
    refine bodyPost_ret (jj_ rfl _ _ (w.heap.size + 1) 27 #[.int .i64 0, .int .i64 0, .int .i64 0, .int .i64 0, .int .i64 0, .int .i64 0, .int .i64 0, .int .i64 0, .int .i64 0, .int .i64 0, .int .i64 0, .slice none 0 0] (0, 0) _ rfl (ko_ Ga.out) Try.underlying27 rfl (by kernel_rfl)) rfl ?_
    exact ⟨_, rfl, .inl ⟨rfl, rfl⟩, bl12 HBa.out hge⟩
   ·
    have hv : V = (some (L.set i.toNat ⟨0, 0, wrap64 (gen + 1)⟩), 0) := by rw [hV, if_neg (by simp [he]), if_neg s0, if_neg s4]
    subst hv
    subst he
    obtain ⟨hi0, hi1, hl, hz, hrt⟩ := hok rfl
    have hW := fun x W h => kx_ id m u b c z s me o a l A0 c0 L i x W h hc0 (by omega) hi0 hi1
    rw [<- hn] at hW
    have HW := hid hW; clear hW hok hi0 hi1 hl hz hrt
    rw [<- hn] at hA hr0 hc0 ⊢
    have HR := hid hr0; have HA := hid hA; have HV := hid hV; have Hn := hid hn; clear hr0 hA hV hn
    have H := al2 w (tabO id m u b c z s me o a l (.slice A0 n c0)) (tabO 0 0 0 0 0 0 0 0 0 0 0 (.slice none 0 0))
    have H0 := hid H.1; have H1 := hid H.2.1; have HB0 := hid H.2.2; clear H
    obtain ⟨t0, t1, t2, t3, t4, t5, t6, t7, t8, t9, t10, t11⟩ := cz12 H0.out
    have hge : w.heap.size <= w.heap.size + 1 := by omega
    go_enter Try.func58, Try.ntmps58
    go_wp2_with first
     | (go_at_call 101; refine (HA.out _ (Kd.C_below HR.out HB0.out)).mono ?_; rintro e w1 ⟨rfl, hb1⟩; have hs := hb1.size; rw [sz2] at hs; have HB1 := hid (jc_ HB0.out hb1); have K1 := hid (jb_ H0.out hb1); have G1 := hid (jb_ H1.out hb1); clear hb1; have q0 : w1.heap.size ≠ w.heap.size := (by omega); have q0p : w.heap.size ≠ w1.heap.size := (by omega); have q1 : w1.heap.size ≠ w.heap.size + 1 := (by omega); have q1p : w.heap.size + 1 ≠ w1.heap.size := (by omega); have Xa := hid (ju_ w1 (zoO st wp gen)); have Ka := hid (ja_ K1.out (zoO st wp gen)); have Ga := hid (ja_ G1.out (zoO st wp gen)); have HBa := hid (jg_ HB1.out (zoO st wp gen)); obtain ⟨xa0, xa1, xa2, xa3, xa4, xa5, xa6, xa7, xa8, xa9, xa10, xa11⟩ := cz12 Ka.out; obtain ⟨ya0, ya1, ya2, ya3, ya4, ya5, ya6, ya7, ya8, ya9, ya10, ya11⟩ := cz12 Ga.out; obtain ⟨yfa0, yfa1, yfa2, yfa3, yfa4, yfa5, yfa6, yfa7, yfa8, yfa9, yfa10, yfa11⟩ := fz12 Ga.out; obtain ⟨ra0, ra1, ra2⟩ := cz3 Xa.out; obtain ⟨rfa0, rfa1, rfa2⟩ := fz3 Xa.out)
     | (go_at_call 103; refine (HW.out ⟨0, 0, wrap64 (gen + 1)⟩ _ (Kd.C_below HR.out HBa.out)).mono ?_; rintro e w2 ⟨v, rfl, hR2, hb2⟩; obtain ⟨A2, c2, rfl⟩ := Kd.R_slice hR2; simp only [List.length_set] at hR2; have G3 := hid (jb_ Ga.out hb2); have HB3 := hid (jc_ HBa.out hb2); have HR2 := hid (Kd.R_lower hR2 HBa.out.size); clear hR2 hb2; obtain ⟨z0, z1, z2, z3, z4, z5, z6, z7, z8, z9, z10, z11⟩ := cz12 G3.out; obtain ⟨zf0, zf1, zf2, zf3, zf4, zf5, zf6, zf7, zf8, zf9, zf10, zf11⟩ := fz12 G3.out)
    refine bodyPost_ret (jj_ rfl _ _ (w.heap.size + 1) 27 #[.int .i64 id, .int .i64 m, .int .i64 u, .int .i64 b, .int .i64 c, .int .i64 z, .int .i64 s, .int .i64 me, .int .i64 o, .int .i64 a, .int .i64 l, .slice A2 _ c2] (0, 0) _ rfl (ko_ G3.out) Try.underlying27 rfl (by kernel_rfl)) rfl ?_
    exact ⟨_, rfl, .inr ⟨_, _, rfl, rfl, R12 HR2.out G3.out (by decide)⟩, bl12 HB3.out hge⟩
 ·
  have hv : V = (none, e0) := by rw [hV, if_pos he]
  subst hv
  have eb : (e0 == 0) = false := beq_eq_false_iff_ne.mpr he
  clear hok
  rw [<- hn] at hA hr0 hc0 ⊢
  have HR := hid hr0; have HA := hid hA; have HV := hid hV; have Hn := hid hn; clear hr0 hA hV hn
  have H := al2 w (tabO id m u b c z s me o a l (.slice A0 n c0)) (tabO 0 0 0 0 0 0 0 0 0 0 0 (.slice none 0 0))
  have H0 := hid H.1; have H1 := hid H.2.1; have HB0 := hid H.2.2; clear H
  obtain ⟨t0, t1, t2, t3, t4, t5, t6, t7, t8, t9, t10, t11⟩ := cz12 H0.out
  have hge : w.heap.size <= w.heap.size + 1 := by omega
  go_enter Try.func58, Try.ntmps58
  go_wp2_with first
   | (go_at_call 101; refine (HA.out _ (Kd.C_below HR.out HB0.out)).mono ?_; rintro e w1 ⟨rfl, hb1⟩; have hs := hb1.size; rw [sz2] at hs; have HB1 := hid (jc_ HB0.out hb1); have K1 := hid (jb_ H0.out hb1); have G1 := hid (jb_ H1.out hb1); clear hb1; have q0 : w1.heap.size ≠ w.heap.size := (by omega); have q0p : w.heap.size ≠ w1.heap.size := (by omega); have q1 : w1.heap.size ≠ w.heap.size + 1 := (by omega); have q1p : w.heap.size + 1 ≠ w1.heap.size := (by omega); have Xa := hid (ju_ w1 (zoO st wp gen)); have Ka := hid (ja_ K1.out (zoO st wp gen)); have Ga := hid (ja_ G1.out (zoO st wp gen)); have HBa := hid (jg_ HB1.out (zoO st wp gen)); obtain ⟨xa0, xa1, xa2, xa3, xa4, xa5, xa6, xa7, xa8, xa9, xa10, xa11⟩ := cz12 Ka.out; obtain ⟨ya0, ya1, ya2, ya3, ya4, ya5, ya6, ya7, ya8, ya9, ya10, ya11⟩ := cz12 Ga.out; obtain ⟨yfa0, yfa1, yfa2, yfa3, yfa4, yfa5, yfa6, yfa7, yfa8, yfa9, yfa10, yfa11⟩ := fz12 Ga.out; obtain ⟨ra0, ra1, ra2⟩ := cz3 Xa.out; obtain ⟨rfa0, rfa1, rfa2⟩ := fz3 Xa.out)
  refine bodyPost_ret (jj_ rfl _ _ (w.heap.size + 1) 27 #[.int .i64 0, .int .i64 0, .int .i64 0, .int .i64 0, .int .i64 0, .int .i64 0, .int .i64 0, .int .i64 0, .int .i64 0, .int .i64 0, .int .i64 0, .slice none 0 0] (0, 0) _ rfl (ko_ Ga.out) Try.underlying27 rfl (by kernel_rfl)) rfl ?_
  exact ⟨_, rfl, .inl ⟨rfl, rfl⟩, bl12 HBa.out hge⟩
def kv_ (id m u b c z s me o a l : Int) (L : List S59) (i : Int) : Option (List S59) × Int := if (atZ id m u b c z s me o a l L i).2 ≠ 0 then (none, (atZ id m u b c z s me o a l L i).2) else if (atZ id m u b c z s me o a l L i).1.f0 = 3 then (none, 6) else if (jP_ a o L (atZ id m u b c z s me o a l L i).1).2 ≠ 0 then (none, (jP_ a o L (atZ id m u b c z s me o a l L i).1).2) else (some (L.set i.toNat (jP_ a o L (atZ id m u b c z s me o a l L i).1).1), 0)
theorem open_any (id m u b c z s me o a l : Int) (A0 : Option Addr) (c0 : Nat) (L : List S59) (i : Int) (w : World) (hr0 : Kd.C k59 w A0 L.length L) (hc0 : L.length <= c0) :
  Calls Try.prog 60 #[tabV id m u b c z s me o a l (.slice A0 L.length c0), .int .i64 i] w fun e w' => ∃ v, e = .returned (.tuple #[v, .int .i64 (kv_ id m u b c z s me o a l L i).2]) /\ TabR id m u b c z s me o a l (kv_ id m u b c z s me o a l L i).1 w.heap.size w' v /\ Below w.heap.size w w' := by
 obtain ⟨n, hn⟩ : ∃ n, n = L.length := ⟨_, rfl⟩
 obtain ⟨V, hV⟩ : ∃ V, V = kv_ id m u b c z s me o a l L i := ⟨_, rfl⟩
 rw [<- hV]; unfold kv_ at hV
 have hA := fun W h => yX_ id m u b c z s me o a l A0 c0 L i W h hc0
 have hok := @vc_ id m u b c z s me o a l L i
 generalize atZ id m u b c z s me o a l L i = q at hA hok hV
 obtain ⟨⟨st, wp, gen⟩, e0⟩ := q
 dsimp only at hA hok hV
 by_cases he : e0 = 0
 ·
  by_cases s3 : st = 3
  ·
   have hv : V = (none, 6) := by rw [hV, if_neg (by simp [he]), if_pos s3]
   subst hv
   subst s3
   subst he
   obtain ⟨hi0, hi1, hl, hz, hrt⟩ := hok rfl
   have hW := fun x W h => kx_ id m u b c z s me o a l A0 c0 L i x W h hc0 (by omega) hi0 hi1
   rw [<- hn] at hW
   have HW := hid hW; clear hW hok hi0 hi1 hl hz hrt
   rw [<- hn] at hA hr0 hc0 ⊢
   have HR := hid hr0; have HA := hid hA; have HV := hid hV; have Hn := hid hn; clear hr0 hA hV hn
   have H := al2 w (tabO id m u b c z s me o a l (.slice A0 n c0)) (tabO 0 0 0 0 0 0 0 0 0 0 0 (.slice none 0 0))
   have H0 := hid H.1; have H1 := hid H.2.1; have HB0 := hid H.2.2; clear H
   obtain ⟨t0, t1, t2, t3, t4, t5, t6, t7, t8, t9, t10, t11⟩ := cz12 H0.out
   have hge : w.heap.size <= w.heap.size + 1 := by omega
   go_enter Try.func60, Try.ntmps60
   go_wp2_with first
    | (go_at_call 101; refine (HA.out _ (Kd.C_below HR.out HB0.out)).mono ?_; rintro e w1 ⟨rfl, hb1⟩; have hs := hb1.size; rw [sz2] at hs; have HB1 := hid (jc_ HB0.out hb1); have K1 := hid (jb_ H0.out hb1); have G1 := hid (jb_ H1.out hb1); clear hb1; have q0 : w1.heap.size ≠ w.heap.size := (by omega); have q0p : w.heap.size ≠ w1.heap.size := (by omega); have q1 : w1.heap.size ≠ w.heap.size + 1 := (by omega); have q1p : w.heap.size + 1 ≠ w1.heap.size := (by omega); have Xa := hid (ju_ w1 (zoO 3 wp gen)); have Ka := hid (ja_ K1.out (zoO 3 wp gen)); have Ga := hid (ja_ G1.out (zoO 3 wp gen)); have HBa := hid (jg_ HB1.out (zoO 3 wp gen)); obtain ⟨xa0, xa1, xa2, xa3, xa4, xa5, xa6, xa7, xa8, xa9, xa10, xa11⟩ := cz12 Ka.out; obtain ⟨ya0, ya1, ya2, ya3, ya4, ya5, ya6, ya7, ya8, ya9, ya10, ya11⟩ := cz12 Ga.out; obtain ⟨yfa0, yfa1, yfa2, yfa3, yfa4, yfa5, yfa6, yfa7, yfa8, yfa9, yfa10, yfa11⟩ := fz12 Ga.out; obtain ⟨ra0, ra1, ra2⟩ := cz3 Xa.out; obtain ⟨rfa0, rfa1, rfa2⟩ := fz3 Xa.out)
   refine bodyPost_ret (jj_ rfl _ _ (w.heap.size + 1) 27 #[.int .i64 0, .int .i64 0, .int .i64 0, .int .i64 0, .int .i64 0, .int .i64 0, .int .i64 0, .int .i64 0, .int .i64 0, .int .i64 0, .int .i64 0, .slice none 0 0] (0, 0) _ rfl (ko_ Ga.out) Try.underlying27 rfl (by kernel_rfl)) rfl ?_
   exact ⟨_, rfl, .inl ⟨rfl, rfl⟩, bl12 HBa.out hge⟩
  ·
   have s3b : (st == 3) = false := beq_eq_false_iff_ne.mpr s3
   rw [if_neg (by simp [he]), if_neg s3] at hV
   have hO := fun W h => opened_any id m u b c z s me o a l A0 c0 L ⟨st, wp, gen⟩ W h hc0
   generalize jP_ a o L ⟨st, wp, gen⟩ = p at hO hV
   obtain ⟨⟨st2, wp2, gen2⟩, e2⟩ := p
   dsimp only at hO hV
   rw [<- hn] at hO
   have HO := hid hO; clear hO
   by_cases h2 : e2 = 0
   ·
    have hv : V = (some (L.set i.toNat ⟨st2, wp2, gen2⟩), 0) := by rw [hV, if_neg (by simp [h2])]
    subst hv
    subst h2
    subst he
    obtain ⟨hi0, hi1, hl, hz, hrt⟩ := hok rfl
    have hW := fun x W h => kx_ id m u b c z s me o a l A0 c0 L i x W h hc0 (by omega) hi0 hi1
    rw [<- hn] at hW
    have HW := hid hW; clear hW hok hi0 hi1 hl hz hrt
    rw [<- hn] at hA hr0 hc0 ⊢
    have HR := hid hr0; have HA := hid hA; have HV := hid hV; have Hn := hid hn; clear hr0 hA hV hn
    have H := al2 w (tabO id m u b c z s me o a l (.slice A0 n c0)) (tabO 0 0 0 0 0 0 0 0 0 0 0 (.slice none 0 0))
    have H0 := hid H.1; have H1 := hid H.2.1; have HB0 := hid H.2.2; clear H
    obtain ⟨t0, t1, t2, t3, t4, t5, t6, t7, t8, t9, t10, t11⟩ := cz12 H0.out
    have hge : w.heap.size <= w.heap.size + 1 := by omega
    go_enter Try.func60, Try.ntmps60
    go_wp2_with first
     | (go_at_call 101; refine (HA.out _ (Kd.C_below HR.out HB0.out)).mono ?_; rintro e w1 ⟨rfl, hb1⟩; have hs := hb1.size; rw [sz2] at hs; have HB1 := hid (jc_ HB0.out hb1); have K1 := hid (jb_ H0.out hb1); have G1 := hid (jb_ H1.out hb1); clear hb1; have q0 : w1.heap.size ≠ w.heap.size := (by omega); have q0p : w.heap.size ≠ w1.heap.size := (by omega); have q1 : w1.heap.size ≠ w.heap.size + 1 := (by omega); have q1p : w.heap.size + 1 ≠ w1.heap.size := (by omega); have Xa := hid (ju_ w1 (zoO st wp gen)); have Ka := hid (ja_ K1.out (zoO st wp gen)); have Ga := hid (ja_ G1.out (zoO st wp gen)); have HBa := hid (jg_ HB1.out (zoO st wp gen)); obtain ⟨xa0, xa1, xa2, xa3, xa4, xa5, xa6, xa7, xa8, xa9, xa10, xa11⟩ := cz12 Ka.out; obtain ⟨ya0, ya1, ya2, ya3, ya4, ya5, ya6, ya7, ya8, ya9, ya10, ya11⟩ := cz12 Ga.out; obtain ⟨yfa0, yfa1, yfa2, yfa3, yfa4, yfa5, yfa6, yfa7, yfa8, yfa9, yfa10, yfa11⟩ := fz12 Ga.out; obtain ⟨ra0, ra1, ra2⟩ := cz3 Xa.out; obtain ⟨rfa0, rfa1, rfa2⟩ := fz3 Xa.out)
     | (go_at_call 102; refine (HO.out _ (Kd.C_below HR.out HBa.out)).mono ?_; rintro e w3 ⟨rfl, hb3⟩; have Kc := hid (jb_ Ka.out hb3); have Gc := hid (jb_ Ga.out hb3); have Xc := hid (jb_ Xa.out hb3); have HBc := hid (jc_ HBa.out hb3); clear hb3; obtain ⟨xc0, xc1, xc2, xc3, xc4, xc5, xc6, xc7, xc8, xc9, xc10, xc11⟩ := cz12 Kc.out; obtain ⟨yc0, yc1, yc2, yc3, yc4, yc5, yc6, yc7, yc8, yc9, yc10, yc11⟩ := cz12 Gc.out; obtain ⟨yfc0, yfc1, yfc2, yfc3, yfc4, yfc5, yfc6, yfc7, yfc8, yfc9, yfc10, yfc11⟩ := fz12 Gc.out; obtain ⟨rc0, rc1, rc2⟩ := cz3 Xc.out; obtain ⟨rfc0, rfc1, rfc2⟩ := fz3 Xc.out)
     | (go_at_call 103; refine (HW.out ⟨st2, wp2, gen2⟩ _ (Kd.C_below HR.out (bl3 HBc.out (by have := HB1.out.size; omega)))).mono ?_; rintro e w2 ⟨v, rfl, hR2, hb2⟩; obtain ⟨A2, c2, rfl⟩ := Kd.R_slice hR2; simp only [List.length_set] at hR2; have G3 := hid (jb_ (far3 Gc.out q1p) hb2); have HB3 := hid (jc_ (bl3 HBc.out (by have := HB1.out.size; omega)) hb2); have HR2 := hid (Kd.R_lower hR2 (bl3 HBc.out (by have := HB1.out.size; omega)).size); clear hR2 hb2; obtain ⟨z0, z1, z2, z3, z4, z5, z6, z7, z8, z9, z10, z11⟩ := cz12 G3.out; obtain ⟨zf0, zf1, zf2, zf3, zf4, zf5, zf6, zf7, zf8, zf9, zf10, zf11⟩ := fz12 G3.out)
    refine bodyPost_ret (jj_ rfl _ _ (w.heap.size + 1) 27 #[.int .i64 id, .int .i64 m, .int .i64 u, .int .i64 b, .int .i64 c, .int .i64 z, .int .i64 s, .int .i64 me, .int .i64 o, .int .i64 a, .int .i64 l, .slice A2 _ c2] (0, 0) _ rfl (ko_ G3.out) Try.underlying27 rfl (by kernel_rfl)) rfl ?_
    exact ⟨_, rfl, .inr ⟨_, _, rfl, rfl, R12 HR2.out G3.out (by decide)⟩, bl12 HB3.out hge⟩
   ·
    have hv : V = (none, e2) := by rw [hV, if_pos h2]
    subst hv
    have e2b : (e2 == 0) = false := beq_eq_false_iff_ne.mpr h2
    subst he
    obtain ⟨hi0, hi1, hl, hz, hrt⟩ := hok rfl
    have hW := fun x W h => kx_ id m u b c z s me o a l A0 c0 L i x W h hc0 (by omega) hi0 hi1
    rw [<- hn] at hW
    have HW := hid hW; clear hW hok hi0 hi1 hl hz hrt
    rw [<- hn] at hA hr0 hc0 ⊢
    have HR := hid hr0; have HA := hid hA; have HV := hid hV; have Hn := hid hn; clear hr0 hA hV hn
    have H := al2 w (tabO id m u b c z s me o a l (.slice A0 n c0)) (tabO 0 0 0 0 0 0 0 0 0 0 0 (.slice none 0 0))
    have H0 := hid H.1; have H1 := hid H.2.1; have HB0 := hid H.2.2; clear H
    obtain ⟨t0, t1, t2, t3, t4, t5, t6, t7, t8, t9, t10, t11⟩ := cz12 H0.out
    have hge : w.heap.size <= w.heap.size + 1 := by omega
    go_enter Try.func60, Try.ntmps60
    go_wp2_with first
     | (go_at_call 101; refine (HA.out _ (Kd.C_below HR.out HB0.out)).mono ?_; rintro e w1 ⟨rfl, hb1⟩; have hs := hb1.size; rw [sz2] at hs; have HB1 := hid (jc_ HB0.out hb1); have K1 := hid (jb_ H0.out hb1); have G1 := hid (jb_ H1.out hb1); clear hb1; have q0 : w1.heap.size ≠ w.heap.size := (by omega); have q0p : w.heap.size ≠ w1.heap.size := (by omega); have q1 : w1.heap.size ≠ w.heap.size + 1 := (by omega); have q1p : w.heap.size + 1 ≠ w1.heap.size := (by omega); have Xa := hid (ju_ w1 (zoO st wp gen)); have Ka := hid (ja_ K1.out (zoO st wp gen)); have Ga := hid (ja_ G1.out (zoO st wp gen)); have HBa := hid (jg_ HB1.out (zoO st wp gen)); obtain ⟨xa0, xa1, xa2, xa3, xa4, xa5, xa6, xa7, xa8, xa9, xa10, xa11⟩ := cz12 Ka.out; obtain ⟨ya0, ya1, ya2, ya3, ya4, ya5, ya6, ya7, ya8, ya9, ya10, ya11⟩ := cz12 Ga.out; obtain ⟨yfa0, yfa1, yfa2, yfa3, yfa4, yfa5, yfa6, yfa7, yfa8, yfa9, yfa10, yfa11⟩ := fz12 Ga.out; obtain ⟨ra0, ra1, ra2⟩ := cz3 Xa.out; obtain ⟨rfa0, rfa1, rfa2⟩ := fz3 Xa.out)
     | (go_at_call 102; refine (HO.out _ (Kd.C_below HR.out HBa.out)).mono ?_; rintro e w3 ⟨rfl, hb3⟩; have Kc := hid (jb_ Ka.out hb3); have Gc := hid (jb_ Ga.out hb3); have Xc := hid (jb_ Xa.out hb3); have HBc := hid (jc_ HBa.out hb3); clear hb3; obtain ⟨xc0, xc1, xc2, xc3, xc4, xc5, xc6, xc7, xc8, xc9, xc10, xc11⟩ := cz12 Kc.out; obtain ⟨yc0, yc1, yc2, yc3, yc4, yc5, yc6, yc7, yc8, yc9, yc10, yc11⟩ := cz12 Gc.out; obtain ⟨yfc0, yfc1, yfc2, yfc3, yfc4, yfc5, yfc6, yfc7, yfc8, yfc9, yfc10, yfc11⟩ := fz12 Gc.out; obtain ⟨rc0, rc1, rc2⟩ := cz3 Xc.out; obtain ⟨rfc0, rfc1, rfc2⟩ := fz3 Xc.out)
    refine bodyPost_ret (jj_ rfl _ _ (w.heap.size + 1) 27 #[.int .i64 0, .int .i64 0, .int .i64 0, .int .i64 0, .int .i64 0, .int .i64 0, .int .i64 0, .int .i64 0, .int .i64 0, .int .i64 0, .int .i64 0, .slice none 0 0] (0, 0) _ rfl (ko_ (far3 Gc.out q1p)) Try.underlying27 rfl (by kernel_rfl)) rfl ?_
    exact ⟨_, rfl, .inl ⟨rfl, rfl⟩, bl12 (bl3 HBc.out (by have := HB1.out.size; omega)) hge⟩
 ·
  have hv : V = (none, e0) := by rw [hV, if_pos he]
  subst hv
  have eb : (e0 == 0) = false := beq_eq_false_iff_ne.mpr he
  clear hok
  rw [<- hn] at hA hr0 hc0 ⊢
  have HR := hid hr0; have HA := hid hA; have HV := hid hV; have Hn := hid hn; clear hr0 hA hV hn
  have H := al2 w (tabO id m u b c z s me o a l (.slice A0 n c0)) (tabO 0 0 0 0 0 0 0 0 0 0 0 (.slice none 0 0))
  have H0 := hid H.1; have H1 := hid H.2.1; have HB0 := hid H.2.2; clear H
  obtain ⟨t0, t1, t2, t3, t4, t5, t6, t7, t8, t9, t10, t11⟩ := cz12 H0.out
  have hge : w.heap.size <= w.heap.size + 1 := by omega
  go_enter Try.func60, Try.ntmps60
  go_wp2_with first
   | (go_at_call 101; refine (HA.out _ (Kd.C_below HR.out HB0.out)).mono ?_; rintro e w1 ⟨rfl, hb1⟩; have hs := hb1.size; rw [sz2] at hs; have HB1 := hid (jc_ HB0.out hb1); have K1 := hid (jb_ H0.out hb1); have G1 := hid (jb_ H1.out hb1); clear hb1; have q0 : w1.heap.size ≠ w.heap.size := (by omega); have q0p : w.heap.size ≠ w1.heap.size := (by omega); have q1 : w1.heap.size ≠ w.heap.size + 1 := (by omega); have q1p : w.heap.size + 1 ≠ w1.heap.size := (by omega); have Xa := hid (ju_ w1 (zoO st wp gen)); have Ka := hid (ja_ K1.out (zoO st wp gen)); have Ga := hid (ja_ G1.out (zoO st wp gen)); have HBa := hid (jg_ HB1.out (zoO st wp gen)); obtain ⟨xa0, xa1, xa2, xa3, xa4, xa5, xa6, xa7, xa8, xa9, xa10, xa11⟩ := cz12 Ka.out; obtain ⟨ya0, ya1, ya2, ya3, ya4, ya5, ya6, ya7, ya8, ya9, ya10, ya11⟩ := cz12 Ga.out; obtain ⟨yfa0, yfa1, yfa2, yfa3, yfa4, yfa5, yfa6, yfa7, yfa8, yfa9, yfa10, yfa11⟩ := fz12 Ga.out; obtain ⟨ra0, ra1, ra2⟩ := cz3 Xa.out; obtain ⟨rfa0, rfa1, rfa2⟩ := fz3 Xa.out)
  refine bodyPost_ret (jj_ rfl _ _ (w.heap.size + 1) 27 #[.int .i64 0, .int .i64 0, .int .i64 0, .int .i64 0, .int .i64 0, .int .i64 0, .int .i64 0, .int .i64 0, .int .i64 0, .int .i64 0, .int .i64 0, .slice none 0 0] (0, 0) _ rfl (ko_ Ga.out) Try.underlying27 rfl (by kernel_rfl)) rfl ?_
  exact ⟨_, rfl, .inl ⟨rfl, rfl⟩, bl12 HBa.out hge⟩
end Go.Proofs.Ytgckcaoncjhgbaa
