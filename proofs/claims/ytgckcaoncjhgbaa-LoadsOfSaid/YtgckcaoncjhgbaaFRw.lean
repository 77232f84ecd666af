/- revetmentref17.Open. -/
/- revetmentref17.Read. -/
/- revetmentref17.Write. -/
import Derived.Test.YtgckcaoncjhgbaaFRm
set_option maxHeartbeats 4000000
set_option maxRecDepth 100000
open Go.Lib (hid)
namespace Go.Proofs.Ytgckcaoncjhgbaa
open Go.RowKit Go.Proofs.Ytgckcaoncjhgbaa.PL Go.Proofs.YtgckcaoncjhgbaaW.PrintWords Go.Proofs.YtgckcaoncjhgbaaW.PrintLast
set_option linter.unusedVariables false
set_option linter.unusedSimpArgs false
abbrev rcS (g x : Nat) (id m u b c z s me o a l : Int) (v : Value) (st wp gen : Int) (W : World) : Prop := W.cell? ⟨g, 0, none⟩ = some (.int .i64 id) /\ W.cell? ⟨g, 1, none⟩ = some (.int .i64 m) /\ W.cell? ⟨g, 2, none⟩ = some (.int .i64 u) /\ W.cell? ⟨g, 3, none⟩ = some (.int .i64 b) /\ W.cell? ⟨g, 4, none⟩ = some (.int .i64 c) /\ W.cell? ⟨g, 5, none⟩ = some (.int .i64 z) /\ W.cell? ⟨g, 6, none⟩ = some (.int .i64 s) /\ W.cell? ⟨g, 7, none⟩ = some (.int .i64 me) /\ W.cell? ⟨g, 8, none⟩ = some (.int .i64 o) /\ W.cell? ⟨g, 9, none⟩ = some (.int .i64 a) /\ W.cell? ⟨g, 10, none⟩ = some (.int .i64 l) /\ W.cell? ⟨g, 11, none⟩ = some v /\ W.cell? ⟨x, 0, none⟩ = some (.int .i64 st) /\ W.cell? ⟨x, 1, none⟩ = some (.int .i64 wp) /\ W.cell? ⟨x, 2, none⟩ = some (.int .i64 gen)
theorem vb_ {g x : Nat} {id m u b c z s me o a l : Int} {v : Value} {st wp gen : Int} {W : World} (h : W.heap[g]? = some (jI_ id m u b c z s me o a l v)) (k : W.heap[x]? = some (zoO st wp gen)) : rcS g x id m u b c z s me o a l v st wp gen W :=
 ⟨(je_ h 0).trans rfl, (je_ h 1).trans rfl, (je_ h 2).trans rfl, (je_ h 3).trans rfl, (je_ h 4).trans rfl, (je_ h 5).trans rfl, (je_ h 6).trans rfl, (je_ h 7).trans rfl, (je_ h 8).trans rfl, (je_ h 9).trans rfl, (je_ h 10).trans rfl, (je_ h 11).trans rfl, (je_ k 0).trans rfl, (je_ k 1).trans rfl, (je_ k 2).trans rfl⟩
def T37_8 : Bool × List (List Nat × List Nat) := (true, [([], []), ([0], [0]), ([1], [1]), ([2], [2]), ([3], [3]), ([4, 3, 3], [3, 4]), ([3], [3]), ([6, 3], [3, 6]), ([7, 3], [3, 7]), ([5, 8, 3], [3, 5, 8]), ([3, 9], [3, 9])])
theorem zy_ : rtab .any (kT_ Try.f66 8) = T37_8 := by kernel_rfl
theorem yC_ : jO_ T37_8.2 [0, 1, 3, 7, 15, 31, 15, 79, 207, 511, 1023] = true := by kernel_rfl
def T37_10 : Bool × List (List Nat × List Nat) := (true, [([], []), ([0], [0]), ([], []), ([2], [2]), ([3], [3]), ([1, 4], [1, 4])])
theorem zp_ : rtab .any (kT_ Try.f66 10) = T37_10 := by kernel_rfl
theorem yD_ : jO_ T37_10.2 [0, 1, 0, 4, 12, 31] = true := by kernel_rfl
theorem zE_ (id m u b c z s me o a l : Int) (A0 : Option Addr) (c0 : Nat) (L : List S59) (i : Int) (w : World) (hr0 : Kd.C k59 w A0 L.length L) (hc0 : L.length <= c0) (hl : L.length <= 1000000) :
  Calls Try.prog 66 #[tabV id m u b c z s me o a l (.slice A0 L.length c0), .int .i64 i] w fun e w' => ∃ v, e = .returned (.tuple #[v, .int .i64 (kv_ id m u b c z s me o a l L i).2]) /\ TabD id m u b c z s me o a l (kv_ id m u b c z s me o a l L i).1 L (.slice A0 L.length c0) w.heap.size w' v /\ Below w.heap.size w w' := by
 obtain ⟨n, hn⟩ : ∃ n, n = L.length := ⟨_, rfl⟩
 obtain ⟨V, hV⟩ : ∃ V, V = kv_ id m u b c z s me o a l L i := ⟨_, rfl⟩
 rw [<- hV]; unfold kv_ at hV
 have hM := fun W h => yT_ id m u b c z s me o a l A0 c0 L i W h hc0 hl
 have hok := @vc_ id m u b c z s me o a l L i
 generalize atZ id m u b c z s me o a l L i = q at hM hok hV
 obtain ⟨⟨st, wp, gen⟩, e0⟩ := q
 dsimp only at hM hok hV
 by_cases he : e0 = 0
 ·
  subst he
  obtain ⟨i0, i1, hl64, hx, hrt⟩ := hok rfl
  have hz := (Geo.rz_iff _ _).mp (xg_ hrt i0 i1)
  rw [<- hx] at hz
  dsimp only at hz
  have hself := yq_ L i i0 i1
  rw [<- hx] at hself
  have hW := fun x W h => xn_ id m u b c z s me o a l A0 c0 L i x W h hc0 (by omega) i0 i1
  rw [<- hn] at hW i1
  have HW := hid hW; have HXX := hid hx; have HSF := hid hself; clear hW hok hl64 hx hself
  by_cases s3 : st = 3
  ·
   subst s3
   have hv : V = (none, 6) := by rw [hV, if_neg (by simp), if_pos rfl]
   subst hv
   clear hz
   rw [<- hn] at hM hr0 hc0 ⊢
   have HR := hid hr0; have HM := hid hM; have Hn := hid hn; clear hr0 hM hn; (try clear hV)
   have H := al2 w (jI_ id m u b c z s me o a l (.slice A0 n c0)) (jI_ 0 0 0 0 0 0 0 0 0 0 0 (.slice none 0 0))
   have H0 := hid H.1; have H1 := hid H.2.1; have HB0 := hid H.2.2; clear H
   obtain ⟨t0, t1, t2, t3, t4, t5, t6, t7, t8, t9, t10, t11⟩ := cz12 H0.out
   have hge : w.heap.size <= w.heap.size + 1 := by omega
   go_enter Try.func66, Try.ntmps66
   go_wp2_with first
    | (go_at_call 105; with_reducible refine (HM.out _ (Kd.C_below HR.out HB0.out)).mono ?_; rintro e w1 ⟨rfl, hb1⟩; have hs := hb1.size; rw [sz2] at hs; have HB1 := hid (jc_ HB0.out hb1); have K1 := hid (jb_ H0.out hb1); have G1 := hid (jb_ H1.out hb1); clear hb1; have q0 : w1.heap.size ≠ w.heap.size := (by omega); have q0p : w.heap.size ≠ w1.heap.size := (by omega); have q1 : w1.heap.size ≠ w.heap.size + 1 := (by omega); have q1p : w.heap.size + 1 ≠ w1.heap.size := (by omega); obtain ⟨k0, k1, k2, k3, k4, k5, k6, k7, k8, k9, k10, k11⟩ := cz12 K1.out; obtain ⟨kf0, kf1, kf2, kf3, kf4, kf5, kf6, kf7, kf8, kf9, kf10, kf11⟩ := fz12 K1.out; obtain ⟨ad, ea, u0, u1, u2⟩ := kn_ (Kd.C_below HR.out HB1.out) i i0 i1; rw [<- HXX.out] at u0 u1 u2; subst ea; have Xa := hid (ju_ w1 (zoO 3 wp gen)); have Ka := hid (ja_ K1.out (zoO 3 wp gen)); have Ga := hid (ja_ G1.out (zoO 3 wp gen)); have HBa := hid (jg_ HB1.out (zoO 3 wp gen)); obtain ⟨xa0, xa1, xa2, xa3, xa4, xa5, xa6, xa7, xa8, xa9, xa10, xa11⟩ := cz12 Ka.out; obtain ⟨ya0, ya1, ya2, ya3, ya4, ya5, ya6, ya7, ya8, ya9, ya10, ya11⟩ := cz12 Ga.out; obtain ⟨yfa0, yfa1, yfa2, yfa3, yfa4, yfa5, yfa6, yfa7, yfa8, yfa9, yfa10, yfa11⟩ := fz12 Ga.out; obtain ⟨ra0, ra1, ra2⟩ := cz3 Xa.out; obtain ⟨rfa0, rfa1, rfa2⟩ := fz3 Xa.out)
   refine bodyPost_ret (jj_ rfl _ _ (w.heap.size + 1) 35 #[.int .i64 0, .int .i64 0, .int .i64 0, .int .i64 0, .int .i64 0, .int .i64 0, .int .i64 0, .int .i64 0, .int .i64 0, .int .i64 0, .int .i64 0, .slice none 0 0] (0, 0) _ rfl (ko_ Ga.out) Try.underlying35 rfl (by kernel_rfl)) rfl ?_
   exact ⟨_, rfl, .inl (.inl ⟨rfl, rfl⟩), bl12 HBa.out hge⟩
  rw [if_neg (by simp), if_neg s3] at hV
  by_cases s1 : st = 1
  ·
   subst s1
   have ho : jP_ a o L ⟨1, wp, gen⟩ = (⟨1, wp, gen⟩, 0) := by unfold jP_; rw [if_pos rfl]
   have hv : V = (some (L.set i.toNat ⟨1, wp, gen⟩), 0) := by rw [hV, ho, if_neg (by simp)]
   subst hv
   clear hz s3 ho hV
   rw [<- hn] at hM hr0 hc0 ⊢
   have HR := hid hr0; have HM := hid hM; have Hn := hid hn; clear hr0 hM hn; (try clear hV)
   have H := al2 w (jI_ id m u b c z s me o a l (.slice A0 n c0)) (jI_ 0 0 0 0 0 0 0 0 0 0 0 (.slice none 0 0))
   have H0 := hid H.1; have H1 := hid H.2.1; have HB0 := hid H.2.2; clear H
   obtain ⟨t0, t1, t2, t3, t4, t5, t6, t7, t8, t9, t10, t11⟩ := cz12 H0.out
   have hge : w.heap.size <= w.heap.size + 1 := by omega
   go_enter Try.func66, Try.ntmps66
   go_wp2_with first
    | (go_at_call 105; with_reducible refine (HM.out _ (Kd.C_below HR.out HB0.out)).mono ?_; rintro e w1 ⟨rfl, hb1⟩; have hs := hb1.size; rw [sz2] at hs; have HB1 := hid (jc_ HB0.out hb1); have K1 := hid (jb_ H0.out hb1); have G1 := hid (jb_ H1.out hb1); clear hb1; have q0 : w1.heap.size ≠ w.heap.size := (by omega); have q0p : w.heap.size ≠ w1.heap.size := (by omega); have q1 : w1.heap.size ≠ w.heap.size + 1 := (by omega); have q1p : w.heap.size + 1 ≠ w1.heap.size := (by omega); obtain ⟨k0, k1, k2, k3, k4, k5, k6, k7, k8, k9, k10, k11⟩ := cz12 K1.out; obtain ⟨kf0, kf1, kf2, kf3, kf4, kf5, kf6, kf7, kf8, kf9, kf10, kf11⟩ := fz12 K1.out; obtain ⟨ad, ea, u0, u1, u2⟩ := kn_ (Kd.C_below HR.out HB1.out) i i0 i1; rw [<- HXX.out] at u0 u1 u2; subst ea; have Xa := hid (ju_ w1 (zoO 1 wp gen)); have Ka := hid (ja_ K1.out (zoO 1 wp gen)); have Ga := hid (ja_ G1.out (zoO 1 wp gen)); have HBa := hid (jg_ HB1.out (zoO 1 wp gen)); obtain ⟨xa0, xa1, xa2, xa3, xa4, xa5, xa6, xa7, xa8, xa9, xa10, xa11⟩ := cz12 Ka.out; obtain ⟨ya0, ya1, ya2, ya3, ya4, ya5, ya6, ya7, ya8, ya9, ya10, ya11⟩ := cz12 Ga.out; obtain ⟨yfa0, yfa1, yfa2, yfa3, yfa4, yfa5, yfa6, yfa7, yfa8, yfa9, yfa10, yfa11⟩ := fz12 Ga.out; obtain ⟨ra0, ra1, ra2⟩ := cz3 Xa.out; obtain ⟨rfa0, rfa1, rfa2⟩ := fz3 Xa.out)
   refine bodyPost_ret (jj_ rfl _ _ (w.heap.size + 1) 35 #[.int .i64 id, .int .i64 m, .int .i64 u, .int .i64 b, .int .i64 c, .int .i64 z, .int .i64 s, .int .i64 me, .int .i64 o, .int .i64 a, .int .i64 l, .slice (some ad) n c0] (0, 0) _ rfl (ko_ Ga.out) Try.underlying35 rfl (by kernel_rfl)) rfl ?_
   exact ⟨_, rfl, .inr ⟨congrArg some HSF.out, rfl⟩, bl12 HBa.out hge⟩
  by_cases s0 : st = 0
  ·
   subst s0
   by_cases h8 : a <= cntZ 1 2 L
   ·
    have ho : jP_ a o L ⟨0, wp, gen⟩ = (⟨0, wp, gen⟩, 8) := by unfold jP_; rw [if_neg (by simp), if_pos ⟨rfl, h8⟩]
    have hv : V = (none, 8) := by rw [hV, ho, if_pos (by simp)]
    subst hv
    clear hz s3 s1 ho hV
    have hcn := fun lo hi W h => xp_ id m u b c z s me o a l A0 c0 L lo hi W h hc0
    rw [<- hn] at hcn
    have HCN := hid hcn; clear hcn
    rw [<- hn] at hM hr0 hc0 ⊢
    have HR := hid hr0; have HM := hid hM; have Hn := hid hn; clear hr0 hM hn; (try clear hV)
    have H := al2 w (jI_ id m u b c z s me o a l (.slice A0 n c0)) (jI_ 0 0 0 0 0 0 0 0 0 0 0 (.slice none 0 0))
    have H0 := hid H.1; have H1 := hid H.2.1; have HB0 := hid H.2.2; clear H
    obtain ⟨t0, t1, t2, t3, t4, t5, t6, t7, t8, t9, t10, t11⟩ := cz12 H0.out
    have hge : w.heap.size <= w.heap.size + 1 := by omega
    go_enter Try.func66, Try.ntmps66
    go_wp2_with first
     | (go_at_call 105; with_reducible refine (HM.out _ (Kd.C_below HR.out HB0.out)).mono ?_; rintro e w1 ⟨rfl, hb1⟩; have hs := hb1.size; rw [sz2] at hs; have HB1 := hid (jc_ HB0.out hb1); have K1 := hid (jb_ H0.out hb1); have G1 := hid (jb_ H1.out hb1); clear hb1; have q0 : w1.heap.size ≠ w.heap.size := (by omega); have q0p : w.heap.size ≠ w1.heap.size := (by omega); have q1 : w1.heap.size ≠ w.heap.size + 1 := (by omega); have q1p : w.heap.size + 1 ≠ w1.heap.size := (by omega); obtain ⟨k0, k1, k2, k3, k4, k5, k6, k7, k8, k9, k10, k11⟩ := cz12 K1.out; obtain ⟨kf0, kf1, kf2, kf3, kf4, kf5, kf6, kf7, kf8, kf9, kf10, kf11⟩ := fz12 K1.out; obtain ⟨ad, ea, u0, u1, u2⟩ := kn_ (Kd.C_below HR.out HB1.out) i i0 i1; rw [<- HXX.out] at u0 u1 u2; subst ea; have Xa := hid (ju_ w1 (zoO 0 wp gen)); have Ka := hid (ja_ K1.out (zoO 0 wp gen)); have Ga := hid (ja_ G1.out (zoO 0 wp gen)); have HBa := hid (jg_ HB1.out (zoO 0 wp gen)); obtain ⟨xa0, xa1, xa2, xa3, xa4, xa5, xa6, xa7, xa8, xa9, xa10, xa11⟩ := cz12 Ka.out; obtain ⟨ya0, ya1, ya2, ya3, ya4, ya5, ya6, ya7, ya8, ya9, ya10, ya11⟩ := cz12 Ga.out; obtain ⟨yfa0, yfa1, yfa2, yfa3, yfa4, yfa5, yfa6, yfa7, yfa8, yfa9, yfa10, yfa11⟩ := fz12 Ga.out; obtain ⟨ra0, ra1, ra2⟩ := cz3 Xa.out; obtain ⟨rfa0, rfa1, rfa2⟩ := fz3 Xa.out)
    refine jN_ (n := 11) (S := (rcS w.heap.size w1.heap.size id m u b c z s me o a l (.slice (some ad) n c0) 0 wp gen)) (ds := []) (bq 11 0) (by kernel_rfl) rfl (by kernel_rfl) (vb_ (jd_ Ka.out) (jd_ Xa.out)) (fun hHeld => ?_)
    refine jw_ zy_ yC_ (fun HT_ HW_ => ?_)
    apply pu 0 28 (bq 11 1) HT_
    apply tu 1 29 (bq 11 3) HT_ HW_ hHeld
    apply pu 2 30 (bq 11 7) HT_
    apply pu 3 31 (bq 11 15) HT_
    apply tu 4 32 (bq 11 31) HT_ HW_ hHeld
    apply pu 6 34 (bq 11 95) HT_
    apply pu 7 35 (bq 11 223) HT_
    apply tu 8 36 (bq 11 479) HT_ HW_ hHeld
    refine one_ (i := 5) (N := some 33) (bq 11 511) rfl rfl (kI_ HT_.out (by kernel_rfl)) (by decide) (fun K hK => ?_)
    refine gs Try.func20 #[tabV id m u b c z s me o a l (.slice (some ad) n c0), .int .i64 1, .int .i64 2] ?_
    refine (HCN.out 1 2 _ (Kd.C_drew (Kd.C_below HR.out HBa.out))).mono ?_
    rintro e wc ⟨rfl, hb⟩
    refine ⟨_, rfl, ?_⟩
    have Kc := hid (jb_ (jd_ Ka.out) hb); have Gc := hid (jb_ (jd_ Ga.out) hb); have Xc := hid (jb_ (jd_ Xa.out) hb); have HBc := hid (jc_ (jC_ HBa.out) hb); clear hb
    refine hK.out _ _ (vb_ Kc.out Xc.out) (fun hHeld => ?_)
    clear hK K
    apply nm 0
    apply pu 9 37 (bq 11 1023) HT_
    apply pu 10 38 (bq 11 2047) HT_
    refine kk_ (jF_ HT_.out (by kernel_rfl)) ?_
    obtain ⟨xc0, xc1, xc2, xc3, xc4, xc5, xc6, xc7, xc8, xc9, xc10, xc11⟩ := cz12 Kc.out; obtain ⟨xcf0, xcf1, xcf2, xcf3, xcf4, xcf5, xcf6, xcf7, xcf8, xcf9, xcf10, xcf11⟩ := fz12 Kc.out; obtain ⟨yc0, yc1, yc2, yc3, yc4, yc5, yc6, yc7, yc8, yc9, yc10, yc11⟩ := cz12 Gc.out; obtain ⟨ycf0, ycf1, ycf2, ycf3, ycf4, ycf5, ycf6, ycf7, ycf8, ycf9, ycf10, ycf11⟩ := fz12 Gc.out; obtain ⟨rc0, rc1, rc2⟩ := cz3 Xc.out; obtain ⟨rfc0, rfc1, rfc2⟩ := fz3 Xc.out
    go_wp2
    refine bodyPost_ret (jj_ rfl _ _ (w.heap.size + 1) 35 #[.int .i64 0, .int .i64 0, .int .i64 0, .int .i64 0, .int .i64 0, .int .i64 0, .int .i64 0, .int .i64 0, .int .i64 0, .int .i64 0, .int .i64 0, .slice none 0 0] (0, 0) _ rfl (ko_ Gc.out) Try.underlying35 rfl (by kernel_rfl)) rfl ?_
    exact ⟨_, rfl, .inl (.inl ⟨rfl, rfl⟩), bl12 HBc.out hge⟩
   by_cases h7 : o <= cntZ 1 1 L
   ·
    have ho : jP_ a o L ⟨0, wp, gen⟩ = (⟨0, wp, gen⟩, 7) := by unfold jP_; rw [if_neg (by simp), if_neg (fun q => h8 q.2), if_pos h7]
    have hv : V = (none, 7) := by rw [hV, ho, if_pos (by simp)]
    subst hv
    clear hz s3 s1 ho hV
    have hcn := fun lo hi W h => xp_ id m u b c z s me o a l A0 c0 L lo hi W h hc0
    rw [<- hn] at hcn
    have HCN := hid hcn; clear hcn
    rw [<- hn] at hM hr0 hc0 ⊢
    have HR := hid hr0; have HM := hid hM; have Hn := hid hn; clear hr0 hM hn; (try clear hV)
    have H := al2 w (jI_ id m u b c z s me o a l (.slice A0 n c0)) (jI_ 0 0 0 0 0 0 0 0 0 0 0 (.slice none 0 0))
    have H0 := hid H.1; have H1 := hid H.2.1; have HB0 := hid H.2.2; clear H
    obtain ⟨t0, t1, t2, t3, t4, t5, t6, t7, t8, t9, t10, t11⟩ := cz12 H0.out
    have hge : w.heap.size <= w.heap.size + 1 := by omega
    go_enter Try.func66, Try.ntmps66
    go_wp2_with first
     | (go_at_call 105; with_reducible refine (HM.out _ (Kd.C_below HR.out HB0.out)).mono ?_; rintro e w1 ⟨rfl, hb1⟩; have hs := hb1.size; rw [sz2] at hs; have HB1 := hid (jc_ HB0.out hb1); have K1 := hid (jb_ H0.out hb1); have G1 := hid (jb_ H1.out hb1); clear hb1; have q0 : w1.heap.size ≠ w.heap.size := (by omega); have q0p : w.heap.size ≠ w1.heap.size := (by omega); have q1 : w1.heap.size ≠ w.heap.size + 1 := (by omega); have q1p : w.heap.size + 1 ≠ w1.heap.size := (by omega); obtain ⟨k0, k1, k2, k3, k4, k5, k6, k7, k8, k9, k10, k11⟩ := cz12 K1.out; obtain ⟨kf0, kf1, kf2, kf3, kf4, kf5, kf6, kf7, kf8, kf9, kf10, kf11⟩ := fz12 K1.out; obtain ⟨ad, ea, u0, u1, u2⟩ := kn_ (Kd.C_below HR.out HB1.out) i i0 i1; rw [<- HXX.out] at u0 u1 u2; subst ea; have Xa := hid (ju_ w1 (zoO 0 wp gen)); have Ka := hid (ja_ K1.out (zoO 0 wp gen)); have Ga := hid (ja_ G1.out (zoO 0 wp gen)); have HBa := hid (jg_ HB1.out (zoO 0 wp gen)); obtain ⟨xa0, xa1, xa2, xa3, xa4, xa5, xa6, xa7, xa8, xa9, xa10, xa11⟩ := cz12 Ka.out; obtain ⟨ya0, ya1, ya2, ya3, ya4, ya5, ya6, ya7, ya8, ya9, ya10, ya11⟩ := cz12 Ga.out; obtain ⟨yfa0, yfa1, yfa2, yfa3, yfa4, yfa5, yfa6, yfa7, yfa8, yfa9, yfa10, yfa11⟩ := fz12 Ga.out; obtain ⟨ra0, ra1, ra2⟩ := cz3 Xa.out; obtain ⟨rfa0, rfa1, rfa2⟩ := fz3 Xa.out)
    refine jN_ (n := 11) (S := (rcS w.heap.size w1.heap.size id m u b c z s me o a l (.slice (some ad) n c0) 0 wp gen)) (ds := []) (bq 11 0) (by kernel_rfl) rfl (by kernel_rfl) (vb_ (jd_ Ka.out) (jd_ Xa.out)) (fun hHeld => ?_)
    refine jw_ zy_ yC_ (fun HT_ HW_ => ?_)
    apply pu 0 28 (bq 11 1) HT_
    apply tu 1 29 (bq 11 3) HT_ HW_ hHeld
    apply pu 2 30 (bq 11 7) HT_
    apply pu 3 31 (bq 11 15) HT_
    apply tu 4 32 (bq 11 31) HT_ HW_ hHeld
    apply pu 6 34 (bq 11 95) HT_
    apply pu 7 35 (bq 11 223) HT_
    apply tu 8 36 (bq 11 479) HT_ HW_ hHeld
    refine one_ (i := 5) (N := some 33) (bq 11 511) rfl rfl (kI_ HT_.out (by kernel_rfl)) (by decide) (fun K hK => ?_)
    refine gs Try.func20 #[tabV id m u b c z s me o a l (.slice (some ad) n c0), .int .i64 1, .int .i64 2] ?_
    refine (HCN.out 1 2 _ (Kd.C_drew (Kd.C_below HR.out HBa.out))).mono ?_
    rintro e wc ⟨rfl, hb⟩
    refine ⟨_, rfl, ?_⟩
    have Kc := hid (jb_ (jd_ Ka.out) hb); have Gc := hid (jb_ (jd_ Ga.out) hb); have Xc := hid (jb_ (jd_ Xa.out) hb); have HBc := hid (jc_ (jC_ HBa.out) hb); clear hb
    refine hK.out _ _ (vb_ Kc.out Xc.out) (fun hHeld => ?_)
    clear hK K
    apply nm 0
    apply pu 9 37 (bq 11 1023) HT_
    apply pu 10 38 (bq 11 2047) HT_
    refine kk_ (jF_ HT_.out (by kernel_rfl)) ?_
    obtain ⟨xc0, xc1, xc2, xc3, xc4, xc5, xc6, xc7, xc8, xc9, xc10, xc11⟩ := cz12 Kc.out; obtain ⟨xcf0, xcf1, xcf2, xcf3, xcf4, xcf5, xcf6, xcf7, xcf8, xcf9, xcf10, xcf11⟩ := fz12 Kc.out; obtain ⟨yc0, yc1, yc2, yc3, yc4, yc5, yc6, yc7, yc8, yc9, yc10, yc11⟩ := cz12 Gc.out; obtain ⟨ycf0, ycf1, ycf2, ycf3, ycf4, ycf5, ycf6, ycf7, ycf8, ycf9, ycf10, ycf11⟩ := fz12 Gc.out; obtain ⟨rc0, rc1, rc2⟩ := cz3 Xc.out; obtain ⟨rfc0, rfc1, rfc2⟩ := fz3 Xc.out
    go_wp2
    refine jN_ (n := 6) (S := (rcS w.heap.size w1.heap.size id m u b c z s me o a l (.slice (some ad) n c0) 0 wp gen)) (ds := []) (bq 6 0) (by kernel_rfl) rfl (by kernel_rfl) (vb_ (jd_ Kc.out) (jd_ Xc.out)) (fun hHeld => ?_)
    refine jw_ zp_ yD_ (fun HT_ HW_ => ?_)
    apply tu 0 40 (bq 6 1) HT_ HW_ hHeld
    apply pu 2 42 (bq 6 5) HT_
    apply pu 3 43 (bq 6 13) HT_
    apply tu 4 44 (bq 6 29) HT_ HW_ hHeld
    refine one_ (i := 1) (N := some 41) (bq 6 31) rfl rfl (kI_ HT_.out (by kernel_rfl)) (by decide) (fun K hK => ?_)
    refine gs Try.func20 #[tabV id m u b c z s me o a l (.slice (some ad) n c0), .int .i64 1, .int .i64 1] ?_
    refine (HCN.out 1 1 _ (Kd.C_drew (Kd.C_below HR.out HBc.out))).mono ?_
    rintro e we ⟨rfl, hb⟩
    refine ⟨_, rfl, ?_⟩
    have Ke := hid (jb_ (jd_ Kc.out) hb); have Ge := hid (jb_ (jd_ Gc.out) hb); have Xe := hid (jb_ (jd_ Xc.out) hb); have HBe := hid (jc_ (jC_ HBc.out) hb); clear hb
    refine hK.out _ _ (vb_ Ke.out Xe.out) (fun hHeld => ?_)
    clear hK K
    apply nm 0
    apply pu 5 45 (bq 6 63) HT_
    refine kk_ (jF_ HT_.out (by kernel_rfl)) ?_
    obtain ⟨xe0, xe1, xe2, xe3, xe4, xe5, xe6, xe7, xe8, xe9, xe10, xe11⟩ := cz12 Ke.out; obtain ⟨xef0, xef1, xef2, xef3, xef4, xef5, xef6, xef7, xef8, xef9, xef10, xef11⟩ := fz12 Ke.out; obtain ⟨ye0, ye1, ye2, ye3, ye4, ye5, ye6, ye7, ye8, ye9, ye10, ye11⟩ := cz12 Ge.out; obtain ⟨yef0, yef1, yef2, yef3, yef4, yef5, yef6, yef7, yef8, yef9, yef10, yef11⟩ := fz12 Ge.out; obtain ⟨re0, re1, re2⟩ := cz3 Xe.out; obtain ⟨rfe0, rfe1, rfe2⟩ := fz3 Xe.out
    go_wp2
    refine bodyPost_ret (jj_ rfl _ _ (w.heap.size + 1) 35 #[.int .i64 0, .int .i64 0, .int .i64 0, .int .i64 0, .int .i64 0, .int .i64 0, .int .i64 0, .int .i64 0, .int .i64 0, .int .i64 0, .int .i64 0, .slice none 0 0] (0, 0) _ rfl (ko_ Ge.out) Try.underlying35 rfl (by kernel_rfl)) rfl ?_
    exact ⟨_, rfl, .inl (.inl ⟨rfl, rfl⟩), bl12 HBe.out hge⟩
   ·
    have ho : jP_ a o L ⟨0, wp, gen⟩ = (⟨1, wp, gen⟩, 0) := by unfold jP_; rw [if_neg (by simp), if_neg (fun q => h8 q.2), if_neg h7]
    have hv : V = (some (L.set i.toNat ⟨1, wp, gen⟩), 0) := by rw [hV, ho, if_neg (by simp)]
    subst hv
    clear hz s3 s1 ho hV
    have hcn := fun lo hi W h => xp_ id m u b c z s me o a l A0 c0 L lo hi W h hc0
    rw [<- hn] at hcn
    have HCN := hid hcn; clear hcn
    rw [<- hn] at hM hr0 hc0 ⊢
    have HR := hid hr0; have HM := hid hM; have Hn := hid hn; clear hr0 hM hn; (try clear hV)
    have H := al2 w (jI_ id m u b c z s me o a l (.slice A0 n c0)) (jI_ 0 0 0 0 0 0 0 0 0 0 0 (.slice none 0 0))
    have H0 := hid H.1; have H1 := hid H.2.1; have HB0 := hid H.2.2; clear H
    obtain ⟨t0, t1, t2, t3, t4, t5, t6, t7, t8, t9, t10, t11⟩ := cz12 H0.out
    have hge : w.heap.size <= w.heap.size + 1 := by omega
    go_enter Try.func66, Try.ntmps66
    go_wp2_with first
     | (go_at_call 105; with_reducible refine (HM.out _ (Kd.C_below HR.out HB0.out)).mono ?_; rintro e w1 ⟨rfl, hb1⟩; have hs := hb1.size; rw [sz2] at hs; have HB1 := hid (jc_ HB0.out hb1); have K1 := hid (jb_ H0.out hb1); have G1 := hid (jb_ H1.out hb1); clear hb1; have q0 : w1.heap.size ≠ w.heap.size := (by omega); have q0p : w.heap.size ≠ w1.heap.size := (by omega); have q1 : w1.heap.size ≠ w.heap.size + 1 := (by omega); have q1p : w.heap.size + 1 ≠ w1.heap.size := (by omega); obtain ⟨k0, k1, k2, k3, k4, k5, k6, k7, k8, k9, k10, k11⟩ := cz12 K1.out; obtain ⟨kf0, kf1, kf2, kf3, kf4, kf5, kf6, kf7, kf8, kf9, kf10, kf11⟩ := fz12 K1.out; obtain ⟨ad, ea, u0, u1, u2⟩ := kn_ (Kd.C_below HR.out HB1.out) i i0 i1; rw [<- HXX.out] at u0 u1 u2; subst ea; have Xa := hid (ju_ w1 (zoO 0 wp gen)); have Ka := hid (ja_ K1.out (zoO 0 wp gen)); have Ga := hid (ja_ G1.out (zoO 0 wp gen)); have HBa := hid (jg_ HB1.out (zoO 0 wp gen)); obtain ⟨xa0, xa1, xa2, xa3, xa4, xa5, xa6, xa7, xa8, xa9, xa10, xa11⟩ := cz12 Ka.out; obtain ⟨ya0, ya1, ya2, ya3, ya4, ya5, ya6, ya7, ya8, ya9, ya10, ya11⟩ := cz12 Ga.out; obtain ⟨yfa0, yfa1, yfa2, yfa3, yfa4, yfa5, yfa6, yfa7, yfa8, yfa9, yfa10, yfa11⟩ := fz12 Ga.out; obtain ⟨ra0, ra1, ra2⟩ := cz3 Xa.out; obtain ⟨rfa0, rfa1, rfa2⟩ := fz3 Xa.out)
    refine jN_ (n := 11) (S := (rcS w.heap.size w1.heap.size id m u b c z s me o a l (.slice (some ad) n c0) 0 wp gen)) (ds := []) (bq 11 0) (by kernel_rfl) rfl (by kernel_rfl) (vb_ (jd_ Ka.out) (jd_ Xa.out)) (fun hHeld => ?_)
    refine jw_ zy_ yC_ (fun HT_ HW_ => ?_)
    apply pu 0 28 (bq 11 1) HT_
    apply tu 1 29 (bq 11 3) HT_ HW_ hHeld
    apply pu 2 30 (bq 11 7) HT_
    apply pu 3 31 (bq 11 15) HT_
    apply tu 4 32 (bq 11 31) HT_ HW_ hHeld
    apply pu 6 34 (bq 11 95) HT_
    apply pu 7 35 (bq 11 223) HT_
    apply tu 8 36 (bq 11 479) HT_ HW_ hHeld
    refine one_ (i := 5) (N := some 33) (bq 11 511) rfl rfl (kI_ HT_.out (by kernel_rfl)) (by decide) (fun K hK => ?_)
    refine gs Try.func20 #[tabV id m u b c z s me o a l (.slice (some ad) n c0), .int .i64 1, .int .i64 2] ?_
    refine (HCN.out 1 2 _ (Kd.C_drew (Kd.C_below HR.out HBa.out))).mono ?_
    rintro e wc ⟨rfl, hb⟩
    refine ⟨_, rfl, ?_⟩
    have Kc := hid (jb_ (jd_ Ka.out) hb); have Gc := hid (jb_ (jd_ Ga.out) hb); have Xc := hid (jb_ (jd_ Xa.out) hb); have HBc := hid (jc_ (jC_ HBa.out) hb); clear hb
    refine hK.out _ _ (vb_ Kc.out Xc.out) (fun hHeld => ?_)
    clear hK K
    apply nm 0
    apply pu 9 37 (bq 11 1023) HT_
    apply pu 10 38 (bq 11 2047) HT_
    refine kk_ (jF_ HT_.out (by kernel_rfl)) ?_
    obtain ⟨xc0, xc1, xc2, xc3, xc4, xc5, xc6, xc7, xc8, xc9, xc10, xc11⟩ := cz12 Kc.out; obtain ⟨xcf0, xcf1, xcf2, xcf3, xcf4, xcf5, xcf6, xcf7, xcf8, xcf9, xcf10, xcf11⟩ := fz12 Kc.out; obtain ⟨yc0, yc1, yc2, yc3, yc4, yc5, yc6, yc7, yc8, yc9, yc10, yc11⟩ := cz12 Gc.out; obtain ⟨ycf0, ycf1, ycf2, ycf3, ycf4, ycf5, ycf6, ycf7, ycf8, ycf9, ycf10, ycf11⟩ := fz12 Gc.out; obtain ⟨rc0, rc1, rc2⟩ := cz3 Xc.out; obtain ⟨rfc0, rfc1, rfc2⟩ := fz3 Xc.out
    go_wp2
    refine jN_ (n := 6) (S := (rcS w.heap.size w1.heap.size id m u b c z s me o a l (.slice (some ad) n c0) 0 wp gen)) (ds := []) (bq 6 0) (by kernel_rfl) rfl (by kernel_rfl) (vb_ (jd_ Kc.out) (jd_ Xc.out)) (fun hHeld => ?_)
    refine jw_ zp_ yD_ (fun HT_ HW_ => ?_)
    apply tu 0 40 (bq 6 1) HT_ HW_ hHeld
    apply pu 2 42 (bq 6 5) HT_
    apply pu 3 43 (bq 6 13) HT_
    apply tu 4 44 (bq 6 29) HT_ HW_ hHeld
    refine one_ (i := 1) (N := some 41) (bq 6 31) rfl rfl (kI_ HT_.out (by kernel_rfl)) (by decide) (fun K hK => ?_)
    refine gs Try.func20 #[tabV id m u b c z s me o a l (.slice (some ad) n c0), .int .i64 1, .int .i64 1] ?_
    refine (HCN.out 1 1 _ (Kd.C_drew (Kd.C_below HR.out HBc.out))).mono ?_
    rintro e we ⟨rfl, hb⟩
    refine ⟨_, rfl, ?_⟩
    have Ke := hid (jb_ (jd_ Kc.out) hb); have Ge := hid (jb_ (jd_ Gc.out) hb); have Xe := hid (jb_ (jd_ Xc.out) hb); have HBe := hid (jc_ (jC_ HBc.out) hb); clear hb
    refine hK.out _ _ (vb_ Ke.out Xe.out) (fun hHeld => ?_)
    clear hK K
    apply nm 0
    apply pu 5 45 (bq 6 63) HT_
    refine kk_ (jF_ HT_.out (by kernel_rfl)) ?_
    obtain ⟨xe0, xe1, xe2, xe3, xe4, xe5, xe6, xe7, xe8, xe9, xe10, xe11⟩ := cz12 Ke.out; obtain ⟨xef0, xef1, xef2, xef3, xef4, xef5, xef6, xef7, xef8, xef9, xef10, xef11⟩ := fz12 Ke.out; obtain ⟨ye0, ye1, ye2, ye3, ye4, ye5, ye6, ye7, ye8, ye9, ye10, ye11⟩ := cz12 Ge.out; obtain ⟨yef0, yef1, yef2, yef3, yef4, yef5, yef6, yef7, yef8, yef9, yef10, yef11⟩ := fz12 Ge.out; obtain ⟨re0, re1, re2⟩ := cz3 Xe.out; obtain ⟨rfe0, rfe1, rfe2⟩ := fz3 Xe.out
    go_wp2_with first
     | (go_at_call 86; refine (HW.out ⟨1, wp, gen⟩ _ (Kd.C_below HR.out (jx_ HBe.out (by have := HB1.out.size; omega)))).mono ?_; rintro e w2 ⟨v, rfl, hR2, hb2⟩; obtain ⟨A2, c2, rfl⟩ := Kd.R_slice hR2; simp only [List.length_set] at hR2; have G3 := hid (jb_ (jv_ Ge.out q1p _) hb2); have HB3 := hid (jc_ (jx_ HBe.out (by have := HB1.out.size; omega)) hb2); have HR2 := hid (Kd.R_lower hR2 (jx_ HBe.out (by have := HB1.out.size; omega)).size); clear hR2 hb2; obtain ⟨z0, z1, z2, z3, z4, z5, z6, z7, z8, z9, z10, z11⟩ := cz12 G3.out; obtain ⟨zf0, zf1, zf2, zf3, zf4, zf5, zf6, zf7, zf8, zf9, zf10, zf11⟩ := fz12 G3.out)
    refine bodyPost_ret (jj_ rfl _ _ (w.heap.size + 1) 35 #[.int .i64 id, .int .i64 m, .int .i64 u, .int .i64 b, .int .i64 c, .int .i64 z, .int .i64 s, .int .i64 me, .int .i64 o, .int .i64 a, .int .i64 l, .slice A2 _ c2] (0, 0) _ rfl (ko_ G3.out) Try.underlying35 rfl (by kernel_rfl)) rfl ?_
    exact ⟨_, rfl, .inl (.inr ⟨_, _, rfl, rfl, R12 HR2.out G3.out (by decide)⟩), bl12 HB3.out hge⟩
  ·
   have s2 : st = 2 := by omega
   subst s2
   by_cases h7 : o <= cntZ 1 1 L
   ·
    have ho : jP_ a o L ⟨2, wp, gen⟩ = (⟨2, wp, gen⟩, 7) := by unfold jP_; rw [if_neg (by simp), if_neg (by simp), if_pos h7]
    have hv : V = (none, 7) := by rw [hV, ho, if_pos (by simp)]
    subst hv
    clear hz s3 s1 s0 ho hV
    have hcn := fun lo hi W h => xp_ id m u b c z s me o a l A0 c0 L lo hi W h hc0
    rw [<- hn] at hcn
    have HCN := hid hcn; clear hcn
    rw [<- hn] at hM hr0 hc0 ⊢
    have HR := hid hr0; have HM := hid hM; have Hn := hid hn; clear hr0 hM hn; (try clear hV)
    have H := al2 w (jI_ id m u b c z s me o a l (.slice A0 n c0)) (jI_ 0 0 0 0 0 0 0 0 0 0 0 (.slice none 0 0))
    have H0 := hid H.1; have H1 := hid H.2.1; have HB0 := hid H.2.2; clear H
    obtain ⟨t0, t1, t2, t3, t4, t5, t6, t7, t8, t9, t10, t11⟩ := cz12 H0.out
    have hge : w.heap.size <= w.heap.size + 1 := by omega
    go_enter Try.func66, Try.ntmps66
    go_wp2_with first
     | (go_at_call 105; with_reducible refine (HM.out _ (Kd.C_below HR.out HB0.out)).mono ?_; rintro e w1 ⟨rfl, hb1⟩; have hs := hb1.size; rw [sz2] at hs; have HB1 := hid (jc_ HB0.out hb1); have K1 := hid (jb_ H0.out hb1); have G1 := hid (jb_ H1.out hb1); clear hb1; have q0 : w1.heap.size ≠ w.heap.size := (by omega); have q0p : w.heap.size ≠ w1.heap.size := (by omega); have q1 : w1.heap.size ≠ w.heap.size + 1 := (by omega); have q1p : w.heap.size + 1 ≠ w1.heap.size := (by omega); obtain ⟨k0, k1, k2, k3, k4, k5, k6, k7, k8, k9, k10, k11⟩ := cz12 K1.out; obtain ⟨kf0, kf1, kf2, kf3, kf4, kf5, kf6, kf7, kf8, kf9, kf10, kf11⟩ := fz12 K1.out; obtain ⟨ad, ea, u0, u1, u2⟩ := kn_ (Kd.C_below HR.out HB1.out) i i0 i1; rw [<- HXX.out] at u0 u1 u2; subst ea; have Xa := hid (ju_ w1 (zoO 2 wp gen)); have Ka := hid (ja_ K1.out (zoO 2 wp gen)); have Ga := hid (ja_ G1.out (zoO 2 wp gen)); have HBa := hid (jg_ HB1.out (zoO 2 wp gen)); obtain ⟨xa0, xa1, xa2, xa3, xa4, xa5, xa6, xa7, xa8, xa9, xa10, xa11⟩ := cz12 Ka.out; obtain ⟨ya0, ya1, ya2, ya3, ya4, ya5, ya6, ya7, ya8, ya9, ya10, ya11⟩ := cz12 Ga.out; obtain ⟨yfa0, yfa1, yfa2, yfa3, yfa4, yfa5, yfa6, yfa7, yfa8, yfa9, yfa10, yfa11⟩ := fz12 Ga.out; obtain ⟨ra0, ra1, ra2⟩ := cz3 Xa.out; obtain ⟨rfa0, rfa1, rfa2⟩ := fz3 Xa.out)
    refine jN_ (n := 11) (S := (rcS w.heap.size w1.heap.size id m u b c z s me o a l (.slice (some ad) n c0) 2 wp gen)) (ds := []) (bq 11 0) (by kernel_rfl) rfl (by kernel_rfl) (vb_ (jd_ Ka.out) (jd_ Xa.out)) (fun hHeld => ?_)
    refine jw_ zy_ yC_ (fun HT_ HW_ => ?_)
    apply pu 0 28 (bq 11 1) HT_
    apply tu 1 29 (bq 11 3) HT_ HW_ hHeld
    apply pu 2 30 (bq 11 7) HT_
    apply pu 3 31 (bq 11 15) HT_
    apply po 4 32 (bq 11 31) HT_
    apply po 5 33 (bq 11 63) HT_
    apply po 6 34 (bq 11 127) HT_
    apply po 7 35 (bq 11 255) HT_
    apply po 8 36 (bq 11 511) HT_
    apply po 9 37 (bq 11 1023) HT_
    apply pu 10 38 (bq 11 2047) HT_
    refine kk_ (jF_ HT_.out (by kernel_rfl)) ?_
    have Kc := hid (jd_ Ka.out); have Gc := hid (jd_ Ga.out); have Xc := hid (jd_ Xa.out); have HBc := hid (jC_ HBa.out)
    obtain ⟨xc0, xc1, xc2, xc3, xc4, xc5, xc6, xc7, xc8, xc9, xc10, xc11⟩ := cz12 Kc.out; obtain ⟨xcf0, xcf1, xcf2, xcf3, xcf4, xcf5, xcf6, xcf7, xcf8, xcf9, xcf10, xcf11⟩ := fz12 Kc.out; obtain ⟨yc0, yc1, yc2, yc3, yc4, yc5, yc6, yc7, yc8, yc9, yc10, yc11⟩ := cz12 Gc.out; obtain ⟨ycf0, ycf1, ycf2, ycf3, ycf4, ycf5, ycf6, ycf7, ycf8, ycf9, ycf10, ycf11⟩ := fz12 Gc.out; obtain ⟨rc0, rc1, rc2⟩ := cz3 Xc.out; obtain ⟨rfc0, rfc1, rfc2⟩ := fz3 Xc.out
    go_wp2
    refine jN_ (n := 6) (S := (rcS w.heap.size w1.heap.size id m u b c z s me o a l (.slice (some ad) n c0) 2 wp gen)) (ds := []) (bq 6 0) (by kernel_rfl) rfl (by kernel_rfl) (vb_ (jd_ Kc.out) (jd_ Xc.out)) (fun hHeld => ?_)
    refine jw_ zp_ yD_ (fun HT_ HW_ => ?_)
    apply tu 0 40 (bq 6 1) HT_ HW_ hHeld
    apply pu 2 42 (bq 6 5) HT_
    apply pu 3 43 (bq 6 13) HT_
    apply tu 4 44 (bq 6 29) HT_ HW_ hHeld
    refine one_ (i := 1) (N := some 41) (bq 6 31) rfl rfl (kI_ HT_.out (by kernel_rfl)) (by decide) (fun K hK => ?_)
    refine gs Try.func20 #[tabV id m u b c z s me o a l (.slice (some ad) n c0), .int .i64 1, .int .i64 1] ?_
    refine (HCN.out 1 1 _ (Kd.C_drew (Kd.C_below HR.out HBc.out))).mono ?_
    rintro e we ⟨rfl, hb⟩
    refine ⟨_, rfl, ?_⟩
    have Ke := hid (jb_ (jd_ Kc.out) hb); have Ge := hid (jb_ (jd_ Gc.out) hb); have Xe := hid (jb_ (jd_ Xc.out) hb); have HBe := hid (jc_ (jC_ HBc.out) hb); clear hb
    refine hK.out _ _ (vb_ Ke.out Xe.out) (fun hHeld => ?_)
    clear hK K
    apply nm 0
    apply pu 5 45 (bq 6 63) HT_
    refine kk_ (jF_ HT_.out (by kernel_rfl)) ?_
    obtain ⟨xe0, xe1, xe2, xe3, xe4, xe5, xe6, xe7, xe8, xe9, xe10, xe11⟩ := cz12 Ke.out; obtain ⟨xef0, xef1, xef2, xef3, xef4, xef5, xef6, xef7, xef8, xef9, xef10, xef11⟩ := fz12 Ke.out; obtain ⟨ye0, ye1, ye2, ye3, ye4, ye5, ye6, ye7, ye8, ye9, ye10, ye11⟩ := cz12 Ge.out; obtain ⟨yef0, yef1, yef2, yef3, yef4, yef5, yef6, yef7, yef8, yef9, yef10, yef11⟩ := fz12 Ge.out; obtain ⟨re0, re1, re2⟩ := cz3 Xe.out; obtain ⟨rfe0, rfe1, rfe2⟩ := fz3 Xe.out
    go_wp2
    refine bodyPost_ret (jj_ rfl _ _ (w.heap.size + 1) 35 #[.int .i64 0, .int .i64 0, .int .i64 0, .int .i64 0, .int .i64 0, .int .i64 0, .int .i64 0, .int .i64 0, .int .i64 0, .int .i64 0, .int .i64 0, .slice none 0 0] (0, 0) _ rfl (ko_ Ge.out) Try.underlying35 rfl (by kernel_rfl)) rfl ?_
    exact ⟨_, rfl, .inl (.inl ⟨rfl, rfl⟩), bl12 HBe.out hge⟩
   ·
    have ho : jP_ a o L ⟨2, wp, gen⟩ = (⟨1, wp, gen⟩, 0) := by unfold jP_; rw [if_neg (by simp), if_neg (by simp), if_neg h7]
    have hv : V = (some (L.set i.toNat ⟨1, wp, gen⟩), 0) := by rw [hV, ho, if_neg (by simp)]
    subst hv
    clear hz s3 s1 s0 ho hV
    have hcn := fun lo hi W h => xp_ id m u b c z s me o a l A0 c0 L lo hi W h hc0
    rw [<- hn] at hcn
    have HCN := hid hcn; clear hcn
    rw [<- hn] at hM hr0 hc0 ⊢
    have HR := hid hr0; have HM := hid hM; have Hn := hid hn; clear hr0 hM hn; (try clear hV)
    have H := al2 w (jI_ id m u b c z s me o a l (.slice A0 n c0)) (jI_ 0 0 0 0 0 0 0 0 0 0 0 (.slice none 0 0))
    have H0 := hid H.1; have H1 := hid H.2.1; have HB0 := hid H.2.2; clear H
    obtain ⟨t0, t1, t2, t3, t4, t5, t6, t7, t8, t9, t10, t11⟩ := cz12 H0.out
    have hge : w.heap.size <= w.heap.size + 1 := by omega
    go_enter Try.func66, Try.ntmps66
    go_wp2_with first
     | (go_at_call 105; with_reducible refine (HM.out _ (Kd.C_below HR.out HB0.out)).mono ?_; rintro e w1 ⟨rfl, hb1⟩; have hs := hb1.size; rw [sz2] at hs; have HB1 := hid (jc_ HB0.out hb1); have K1 := hid (jb_ H0.out hb1); have G1 := hid (jb_ H1.out hb1); clear hb1; have q0 : w1.heap.size ≠ w.heap.size := (by omega); have q0p : w.heap.size ≠ w1.heap.size := (by omega); have q1 : w1.heap.size ≠ w.heap.size + 1 := (by omega); have q1p : w.heap.size + 1 ≠ w1.heap.size := (by omega); obtain ⟨k0, k1, k2, k3, k4, k5, k6, k7, k8, k9, k10, k11⟩ := cz12 K1.out; obtain ⟨kf0, kf1, kf2, kf3, kf4, kf5, kf6, kf7, kf8, kf9, kf10, kf11⟩ := fz12 K1.out; obtain ⟨ad, ea, u0, u1, u2⟩ := kn_ (Kd.C_below HR.out HB1.out) i i0 i1; rw [<- HXX.out] at u0 u1 u2; subst ea; have Xa := hid (ju_ w1 (zoO 2 wp gen)); have Ka := hid (ja_ K1.out (zoO 2 wp gen)); have Ga := hid (ja_ G1.out (zoO 2 wp gen)); have HBa := hid (jg_ HB1.out (zoO 2 wp gen)); obtain ⟨xa0, xa1, xa2, xa3, xa4, xa5, xa6, xa7, xa8, xa9, xa10, xa11⟩ := cz12 Ka.out; obtain ⟨ya0, ya1, ya2, ya3, ya4, ya5, ya6, ya7, ya8, ya9, ya10, ya11⟩ := cz12 Ga.out; obtain ⟨yfa0, yfa1, yfa2, yfa3, yfa4, yfa5, yfa6, yfa7, yfa8, yfa9, yfa10, yfa11⟩ := fz12 Ga.out; obtain ⟨ra0, ra1, ra2⟩ := cz3 Xa.out; obtain ⟨rfa0, rfa1, rfa2⟩ := fz3 Xa.out)
    refine jN_ (n := 11) (S := (rcS w.heap.size w1.heap.size id m u b c z s me o a l (.slice (some ad) n c0) 2 wp gen)) (ds := []) (bq 11 0) (by kernel_rfl) rfl (by kernel_rfl) (vb_ (jd_ Ka.out) (jd_ Xa.out)) (fun hHeld => ?_)
    refine jw_ zy_ yC_ (fun HT_ HW_ => ?_)
    apply pu 0 28 (bq 11 1) HT_
    apply tu 1 29 (bq 11 3) HT_ HW_ hHeld
    apply pu 2 30 (bq 11 7) HT_
    apply pu 3 31 (bq 11 15) HT_
    apply po 4 32 (bq 11 31) HT_
    apply po 5 33 (bq 11 63) HT_
    apply po 6 34 (bq 11 127) HT_
    apply po 7 35 (bq 11 255) HT_
    apply po 8 36 (bq 11 511) HT_
    apply po 9 37 (bq 11 1023) HT_
    apply pu 10 38 (bq 11 2047) HT_
    refine kk_ (jF_ HT_.out (by kernel_rfl)) ?_
    have Kc := hid (jd_ Ka.out); have Gc := hid (jd_ Ga.out); have Xc := hid (jd_ Xa.out); have HBc := hid (jC_ HBa.out)
    obtain ⟨xc0, xc1, xc2, xc3, xc4, xc5, xc6, xc7, xc8, xc9, xc10, xc11⟩ := cz12 Kc.out; obtain ⟨xcf0, xcf1, xcf2, xcf3, xcf4, xcf5, xcf6, xcf7, xcf8, xcf9, xcf10, xcf11⟩ := fz12 Kc.out; obtain ⟨yc0, yc1, yc2, yc3, yc4, yc5, yc6, yc7, yc8, yc9, yc10, yc11⟩ := cz12 Gc.out; obtain ⟨ycf0, ycf1, ycf2, ycf3, ycf4, ycf5, ycf6, ycf7, ycf8, ycf9, ycf10, ycf11⟩ := fz12 Gc.out; obtain ⟨rc0, rc1, rc2⟩ := cz3 Xc.out; obtain ⟨rfc0, rfc1, rfc2⟩ := fz3 Xc.out
    go_wp2
    refine jN_ (n := 6) (S := (rcS w.heap.size w1.heap.size id m u b c z s me o a l (.slice (some ad) n c0) 2 wp gen)) (ds := []) (bq 6 0) (by kernel_rfl) rfl (by kernel_rfl) (vb_ (jd_ Kc.out) (jd_ Xc.out)) (fun hHeld => ?_)
    refine jw_ zp_ yD_ (fun HT_ HW_ => ?_)
    apply tu 0 40 (bq 6 1) HT_ HW_ hHeld
    apply pu 2 42 (bq 6 5) HT_
    apply pu 3 43 (bq 6 13) HT_
    apply tu 4 44 (bq 6 29) HT_ HW_ hHeld
    refine one_ (i := 1) (N := some 41) (bq 6 31) rfl rfl (kI_ HT_.out (by kernel_rfl)) (by decide) (fun K hK => ?_)
    refine gs Try.func20 #[tabV id m u b c z s me o a l (.slice (some ad) n c0), .int .i64 1, .int .i64 1] ?_
    refine (HCN.out 1 1 _ (Kd.C_drew (Kd.C_below HR.out HBc.out))).mono ?_
    rintro e we ⟨rfl, hb⟩
    refine ⟨_, rfl, ?_⟩
    have Ke := hid (jb_ (jd_ Kc.out) hb); have Ge := hid (jb_ (jd_ Gc.out) hb); have Xe := hid (jb_ (jd_ Xc.out) hb); have HBe := hid (jc_ (jC_ HBc.out) hb); clear hb
    refine hK.out _ _ (vb_ Ke.out Xe.out) (fun hHeld => ?_)
    clear hK K
    apply nm 0
    apply pu 5 45 (bq 6 63) HT_
    refine kk_ (jF_ HT_.out (by kernel_rfl)) ?_
    obtain ⟨xe0, xe1, xe2, xe3, xe4, xe5, xe6, xe7, xe8, xe9, xe10, xe11⟩ := cz12 Ke.out; obtain ⟨xef0, xef1, xef2, xef3, xef4, xef5, xef6, xef7, xef8, xef9, xef10, xef11⟩ := fz12 Ke.out; obtain ⟨ye0, ye1, ye2, ye3, ye4, ye5, ye6, ye7, ye8, ye9, ye10, ye11⟩ := cz12 Ge.out; obtain ⟨yef0, yef1, yef2, yef3, yef4, yef5, yef6, yef7, yef8, yef9, yef10, yef11⟩ := fz12 Ge.out; obtain ⟨re0, re1, re2⟩ := cz3 Xe.out; obtain ⟨rfe0, rfe1, rfe2⟩ := fz3 Xe.out
    go_wp2_with first
     | (go_at_call 86; refine (HW.out ⟨1, wp, gen⟩ _ (Kd.C_below HR.out (jx_ HBe.out (by have := HB1.out.size; omega)))).mono ?_; rintro e w2 ⟨v, rfl, hR2, hb2⟩; obtain ⟨A2, c2, rfl⟩ := Kd.R_slice hR2; simp only [List.length_set] at hR2; have G3 := hid (jb_ (jv_ Ge.out q1p _) hb2); have HB3 := hid (jc_ (jx_ HBe.out (by have := HB1.out.size; omega)) hb2); have HR2 := hid (Kd.R_lower hR2 (jx_ HBe.out (by have := HB1.out.size; omega)).size); clear hR2 hb2; obtain ⟨z0, z1, z2, z3, z4, z5, z6, z7, z8, z9, z10, z11⟩ := cz12 G3.out; obtain ⟨zf0, zf1, zf2, zf3, zf4, zf5, zf6, zf7, zf8, zf9, zf10, zf11⟩ := fz12 G3.out)
    refine bodyPost_ret (jj_ rfl _ _ (w.heap.size + 1) 35 #[.int .i64 id, .int .i64 m, .int .i64 u, .int .i64 b, .int .i64 c, .int .i64 z, .int .i64 s, .int .i64 me, .int .i64 o, .int .i64 a, .int .i64 l, .slice A2 _ c2] (0, 0) _ rfl (ko_ G3.out) Try.underlying35 rfl (by kernel_rfl)) rfl ?_
    exact ⟨_, rfl, .inl (.inr ⟨_, _, rfl, rfl, R12 HR2.out G3.out (by decide)⟩), bl12 HB3.out hge⟩
 ·
  have hv : V = (none, e0) := by rw [hV, if_pos he]
  subst hv
  have eb : (e0 == 0) = false := beq_eq_false_iff_ne.mpr he
  clear hok
  rw [<- hn] at hM hr0 hc0 ⊢
  have HR := hid hr0; have HM := hid hM; have Hn := hid hn; clear hr0 hM hn; (try clear hV)
  have H := al2 w (jI_ id m u b c z s me o a l (.slice A0 n c0)) (jI_ 0 0 0 0 0 0 0 0 0 0 0 (.slice none 0 0))
  have H0 := hid H.1; have H1 := hid H.2.1; have HB0 := hid H.2.2; clear H
  obtain ⟨t0, t1, t2, t3, t4, t5, t6, t7, t8, t9, t10, t11⟩ := cz12 H0.out
  have hge : w.heap.size <= w.heap.size + 1 := by omega
  go_enter Try.func66, Try.ntmps66
  go_wp2_with first
   | (go_at_call 105; with_reducible refine (HM.out _ (Kd.C_below HR.out HB0.out)).mono ?_; rintro e w1 ⟨rfl, hb1⟩; have HB1 := hid (jc_ HB0.out hb1); have K1 := hid (jb_ H0.out hb1); have G1 := hid (jb_ H1.out hb1); clear hb1; obtain ⟨k0, k1, k2, k3, k4, k5, k6, k7, k8, k9, k10, k11⟩ := cz12 K1.out)
   | (go_at_call 105; with_reducible refine (HM.out _ (Kd.C_below HR.out HB1.out)).mono ?_; rintro e w2 ⟨rfl, hb2⟩; have HB2 := hid (jc_ HB1.out hb2); have G2 := hid (jb_ G1.out hb2); clear hb2; obtain ⟨g0, g1, g2, g3, g4, g5, g6, g7, g8, g9, g10, g11⟩ := cz12 G2.out; obtain ⟨gf0, gf1, gf2, gf3, gf4, gf5, gf6, gf7, gf8, gf9, gf10, gf11⟩ := fz12 G2.out)
  refine bodyPost_ret (jj_ rfl _ _ (w.heap.size + 1) 35 #[.int .i64 0, .int .i64 0, .int .i64 0, .int .i64 0, .int .i64 0, .int .i64 0, .int .i64 0, .int .i64 0, .int .i64 0, .int .i64 0, .int .i64 0, .slice none 0 0] (0, 0) _ rfl (ko_ G2.out) Try.underlying35 rfl (by kernel_rfl)) rfl ?_
  exact ⟨_, rfl, .inl (.inl ⟨rfl, rfl⟩), bl12 HB2.out hge⟩
section
variable {id m u b c z s me o a l : Int} {r : Option (List S59)} {L L1 : List S59} {sl v : Value} {base g : Nat} {W : World}
theorem yF_ {j : Nat} {y : Value} (h : TabD id m u b c z s me o a l r L sl base W v) (hg : g < base) : TabD id m u b c z s me o a l r L sl base (W.setCell ⟨g, j, none⟩ y) v := by
 rcases h with (h | ⟨L', q, h1, h2, hR⟩) | h
 · exact .inl (.inl h)
 · exact .inl (.inr ⟨L', q, h1, h2, Kd.R_mono (Kd.R_far (p := ⟨g, j, none⟩) (Kd.R_bound hR) (fun k hk => by have := hk.2.1; show k ≠ g; omega) y) (fun _ _ => trivial)⟩)
 · exact .inr h
theorem TabD_drew (h : TabD id m u b c z s me o a l r L sl base W v) : TabD id m u b c z s me o a l r L sl base W.drew v := xw_ h (jC_ (Below.refl _ _))
theorem TabD_shape {A : Option Addr} {k : Nat} (h : TabD id m u b c z s me o a l (some L1) L (.slice A L.length k) base W v) : ∃ (A' : Option Addr) (k' : Nat), v = tabV id m u b c z s me o a l (.slice A' L1.length k') := by
 rcases h with (⟨h, _⟩ | ⟨L', y, h1, rfl, h2⟩) | ⟨h1, rfl⟩
 · cases h
 ·
  cases h1
  obtain ⟨A', k', rfl⟩ := Kd.R_slice h2
  exact ⟨A', k', rfl⟩
 ·
  cases h1
  exact ⟨A, k, rfl⟩
theorem TabD_C {A A' : Option Addr} {k n' k' : Nat} (h : TabD id m u b c z s me o a l (some L1) L (.slice A L.length k) base W (tabV id m u b c z s me o a l (.slice A' n' k'))) (hC : Kd.C k59 W A L.length L) (hk : L.length <= k) : L1.length <= k' /\ Kd.C k59 W A' L1.length L1 := by
 rcases h with (⟨h, _⟩ | ⟨L', y, h1, h3, h2⟩) | ⟨h1, h3⟩
 · cases h
 ·
  cases h1
  obtain ⟨A2, k2, rfl, hle, hC2⟩ := Kd.R_reads h2
  simp only [Value.agg.injEq, Array.mk.injEq, List.cons.injEq, Value.slice.injEq, and_true, true_and] at h3
  obtain ⟨rfl, rfl, rfl⟩ := h3
  exact ⟨hle, hC2⟩
 ·
  cases h1
  simp only [Value.agg.injEq, Array.mk.injEq, List.cons.injEq, Value.slice.injEq, and_true, true_and] at h3
  obtain ⟨rfl, rfl, rfl⟩ := h3
  exact ⟨hk, hC⟩
end
theorem rread_any (id m u b c z s me o a l : Int) (A0 : Option Addr) (c0 : Nat) (L : List S59) (i p k : Int) (w : World) (hr0 : Kd.C k59 w A0 L.length L) (hc0 : L.length <= c0) (hl : L.length <= 1000000) :
  Calls Try.prog 63 #[tabV id m u b c z s me o a l (.slice A0 L.length c0), .int .i64 i, .int .i64 p, .int .i64 k] w fun e w' => e = .returned (.int .i64 (xo_ id m u b c z s me o a l L i p k)) /\ Below w.heap.size w w' := by
 obtain ⟨n, hn⟩ : ∃ n, n = L.length := ⟨_, rfl⟩
 obtain ⟨V, hV⟩ : ∃ V, V = xo_ id m u b c z s me o a l L i p k := ⟨_, rfl⟩
 rw [<- hV]; unfold xo_ at hV
 have hM := fun W h => yT_ id m u b c z s me o a l A0 c0 L i W h hc0 hl
 have hok := @vc_ id m u b c z s me o a l L i
 generalize atZ id m u b c z s me o a l L i = q at hM hok hV
 obtain ⟨⟨st, wp, gen⟩, e0⟩ := q
 dsimp only at hM hok hV
 by_cases he : e0 = 0
 ·
  subst he
  obtain ⟨i0, i1, hl64, hx, hrt⟩ := hok rfl
  rw [<- hn] at i1
  have HXX := hid hx; clear hok hl64 hx hrt
  by_cases g16 : k < 1
  ·
   have hv : V = 3 := by rw [hV, if_neg (by simp), if_pos g16]
   subst hv
   rw [<- hn] at hM hr0 hc0 ⊢
   have HR := hid hr0; have HM := hid hM; have Hn := hid hn; clear hr0 hM hn; (try clear hV)
   have H := al1 w (jI_ id m u b c z s me o a l (.slice A0 n c0))
   have H0 := hid H.1; have HB0 := hid H.2; clear H
   obtain ⟨t0, t1, t2, t3, t4, t5, t6, t7, t8, t9, t10, t11⟩ := cz12 H0.out
   go_enter Try.func63, Try.ntmps63
   go_wp2_with first
    | (go_at_call 105; with_reducible refine (HM.out _ (Kd.C_below HR.out HB0.out)).mono ?_; rintro e w1 ⟨rfl, hb1⟩; have HB1 := hid (jc_ HB0.out hb1); have K1 := hid (jb_ H0.out hb1); clear hb1; obtain ⟨k0, k1, k2, k3, k4, k5, k6, k7, k8, k9, k10, k11⟩ := cz12 K1.out; obtain ⟨ad, ea, u0, u1, u2⟩ := kn_ (Kd.C_below HR.out HB1.out) i i0 i1; rw [<- HXX.out] at u0 u1 u2; subst ea)
   go_ret
   exact ⟨rfl, HB1.out⟩
  by_cases g28 : p < 0
  ·
   have hv : V = 4 := by rw [hV, if_neg (by simp), if_neg g16, if_pos g28]
   subst hv
   rw [<- hn] at hM hr0 hc0 ⊢
   have HR := hid hr0; have HM := hid hM; have Hn := hid hn; clear hr0 hM hn; (try clear hV)
   have H := al1 w (jI_ id m u b c z s me o a l (.slice A0 n c0))
   have H0 := hid H.1; have HB0 := hid H.2; clear H
   obtain ⟨t0, t1, t2, t3, t4, t5, t6, t7, t8, t9, t10, t11⟩ := cz12 H0.out
   go_enter Try.func63, Try.ntmps63
   go_wp2_with first
    | (go_at_call 105; with_reducible refine (HM.out _ (Kd.C_below HR.out HB0.out)).mono ?_; rintro e w1 ⟨rfl, hb1⟩; have HB1 := hid (jc_ HB0.out hb1); have K1 := hid (jb_ H0.out hb1); clear hb1; obtain ⟨k0, k1, k2, k3, k4, k5, k6, k7, k8, k9, k10, k11⟩ := cz12 K1.out; obtain ⟨ad, ea, u0, u1, u2⟩ := kn_ (Kd.C_below HR.out HB1.out) i i0 i1; rw [<- HXX.out] at u0 u1 u2; subst ea)
   go_ret
   exact ⟨rfl, HB1.out⟩
  by_cases g40 : wp < p
  ·
   have hv : V = 4 := by rw [hV, if_neg (by simp), if_neg g16, if_neg g28, if_pos g40]
   subst hv
   rw [<- hn] at hM hr0 hc0 ⊢
   have HR := hid hr0; have HM := hid hM; have Hn := hid hn; clear hr0 hM hn; (try clear hV)
   have H := al1 w (jI_ id m u b c z s me o a l (.slice A0 n c0))
   have H0 := hid H.1; have HB0 := hid H.2; clear H
   obtain ⟨t0, t1, t2, t3, t4, t5, t6, t7, t8, t9, t10, t11⟩ := cz12 H0.out
   go_enter Try.func63, Try.ntmps63
   go_wp2_with first
    | (go_at_call 105; with_reducible refine (HM.out _ (Kd.C_below HR.out HB0.out)).mono ?_; rintro e w1 ⟨rfl, hb1⟩; have HB1 := hid (jc_ HB0.out hb1); have K1 := hid (jb_ H0.out hb1); clear hb1; obtain ⟨k0, k1, k2, k3, k4, k5, k6, k7, k8, k9, k10, k11⟩ := cz12 K1.out; obtain ⟨ad, ea, u0, u1, u2⟩ := kn_ (Kd.C_below HR.out HB1.out) i i0 i1; rw [<- HXX.out] at u0 u1 u2; subst ea)
   go_ret
   exact ⟨rfl, HB1.out⟩
  by_cases g52 : wrap64 (wp - p) < k
  ·
   have hv : V = 4 := by rw [hV, if_neg (by simp), if_neg g16, if_neg g28, if_neg g40, if_pos g52]
   subst hv
   rw [<- hn] at hM hr0 hc0 ⊢
   have HR := hid hr0; have HM := hid hM; have Hn := hid hn; clear hr0 hM hn; (try clear hV)
   have H := al1 w (jI_ id m u b c z s me o a l (.slice A0 n c0))
   have H0 := hid H.1; have HB0 := hid H.2; clear H
   obtain ⟨t0, t1, t2, t3, t4, t5, t6, t7, t8, t9, t10, t11⟩ := cz12 H0.out
   go_enter Try.func63, Try.ntmps63
   go_wp2_with first
    | (go_at_call 105; with_reducible refine (HM.out _ (Kd.C_below HR.out HB0.out)).mono ?_; rintro e w1 ⟨rfl, hb1⟩; have HB1 := hid (jc_ HB0.out hb1); have K1 := hid (jb_ H0.out hb1); clear hb1; obtain ⟨k0, k1, k2, k3, k4, k5, k6, k7, k8, k9, k10, k11⟩ := cz12 K1.out; obtain ⟨ad, ea, u0, u1, u2⟩ := kn_ (Kd.C_below HR.out HB1.out) i i0 i1; rw [<- HXX.out] at u0 u1 u2; subst ea)
   go_ret
   exact ⟨rfl, HB1.out⟩
  have hv : V = 0 := by rw [hV, if_neg (by simp), if_neg g16, if_neg g28, if_neg g40, if_neg g52]
  subst hv
  rw [<- hn] at hM hr0 hc0 ⊢
  have HR := hid hr0; have HM := hid hM; have Hn := hid hn; clear hr0 hM hn; (try clear hV)
  have H := al1 w (jI_ id m u b c z s me o a l (.slice A0 n c0))
  have H0 := hid H.1; have HB0 := hid H.2; clear H
  obtain ⟨t0, t1, t2, t3, t4, t5, t6, t7, t8, t9, t10, t11⟩ := cz12 H0.out
  go_enter Try.func63, Try.ntmps63
  go_wp2_with first
   | (go_at_call 105; with_reducible refine (HM.out _ (Kd.C_below HR.out HB0.out)).mono ?_; rintro e w1 ⟨rfl, hb1⟩; have HB1 := hid (jc_ HB0.out hb1); have K1 := hid (jb_ H0.out hb1); clear hb1; obtain ⟨k0, k1, k2, k3, k4, k5, k6, k7, k8, k9, k10, k11⟩ := cz12 K1.out; obtain ⟨ad, ea, u0, u1, u2⟩ := kn_ (Kd.C_below HR.out HB1.out) i i0 i1; rw [<- HXX.out] at u0 u1 u2; subst ea)
  go_ret
  exact ⟨rfl, HB1.out⟩
 ·
  have hv : V = e0 := by rw [hV, if_pos he]
  subst hv
  have eb : (V == 0) = false := beq_eq_false_iff_ne.mpr he
  clear hok
  rw [<- hn] at hM hr0 hc0 ⊢
  have HR := hid hr0; have HM := hid hM; have Hn := hid hn; clear hr0 hM hn; (try clear hV)
  have H := al1 w (jI_ id m u b c z s me o a l (.slice A0 n c0))
  have H0 := hid H.1; have HB0 := hid H.2; clear H
  obtain ⟨t0, t1, t2, t3, t4, t5, t6, t7, t8, t9, t10, t11⟩ := cz12 H0.out
  go_enter Try.func63, Try.ntmps63
  go_wp2_with first
   | (go_at_call 105; with_reducible refine (HM.out _ (Kd.C_below HR.out HB0.out)).mono ?_; rintro e w1 ⟨rfl, hb1⟩; have HB1 := hid (jc_ HB0.out hb1); have K1 := hid (jb_ H0.out hb1); clear hb1; obtain ⟨k0, k1, k2, k3, k4, k5, k6, k7, k8, k9, k10, k11⟩ := cz12 K1.out)
   | (go_at_call 105; with_reducible refine (HM.out _ (Kd.C_below HR.out HB1.out)).mono ?_; rintro e w2 ⟨rfl, hb2⟩; have HB2 := hid (jc_ HB1.out hb2); clear hb2)
  go_ret
  exact ⟨rfl, HB2.out⟩
def T33_16 : Bool × List (List Nat × List Nat) := (true, [([], []), ([0], [0]), ([], []), ([2], [2]), ([3], [3]), ([1, 4], [1, 4])])
theorem tab33_16 : rtab .any (kT_ Try.f62 16) = T33_16 := by kernel_rfl
theorem bits33_16 : jO_ T33_16.2 [0, 1, 0, 4, 12, 31] = true := by kernel_rfl
theorem yP_ (id m u b c z s me o a l : Int) (A0 : Option Addr) (c0 : Nat) (L : List S59) (i p k : Int) (w : World) (hr0 : Kd.C k59 w A0 L.length L) (hc0 : L.length <= c0) (hl : L.length <= 1000000) :
  Calls Try.prog 62 #[tabV id m u b c z s me o a l (.slice A0 L.length c0), .int .i64 i, .int .i64 p, .int .i64 k] w fun e w' => ∃ v, e = .returned (.tuple #[v, .int .i64 (ke_ id m u b c z s me o a l L i p k).2]) /\ TabD id m u b c z s me o a l (ke_ id m u b c z s me o a l L i p k).1 L (.slice A0 L.length c0) w.heap.size w' v /\ Below w.heap.size w w' := by
 obtain ⟨n, hn⟩ : ∃ n, n = L.length := ⟨_, rfl⟩
 obtain ⟨V, hV⟩ : ∃ V, V = ke_ id m u b c z s me o a l L i p k := ⟨_, rfl⟩
 rw [<- hV]; unfold ke_ at hV
 have hM := fun W h => yT_ id m u b c z s me o a l A0 c0 L i W h hc0 hl
 have hO := fun W h => zE_ id m u b c z s me o a l A0 c0 L i W h hc0 hl
 unfold kv_ at hO
 have hok := @vc_ id m u b c z s me o a l L i
 generalize atZ id m u b c z s me o a l L i = q at hM hO hok hV
 obtain ⟨⟨st, wp, gen⟩, e0⟩ := q
 dsimp only at hM hO hok hV
 by_cases he : e0 = 0
 ·
  subst he
  obtain ⟨i0, i1, hl64, hx, hrt⟩ := hok rfl
  have hz := (Geo.rz_iff _ _).mp (xg_ hrt i0 i1)
  rw [<- hx] at hz
  dsimp only at hz
  have hlL : ∀ y : S59, (L.set i.toNat y).length = L.length := fun y => List.length_set ..
  have HXX := hid hx; clear hok hx hrt
  rw [if_neg (by simp)] at hV
  simp only [ne_eq, not_true_eq_false, if_false] at hO
  have hsz := fun W => revetmentref07_Size.calls id m u b c z s me o a l _ W rfl
  generalize kg_ m u b c z s me o a l = Z at hsz hV hz
  have HSZ := hid hsz; clear hsz
  by_cases h1 : k < 1
  ·
   have hv : V = (none, 3) := by rw [hV, if_pos h1]
   subst hv
   clear hO hz
   rw [<- hn] at hM hr0 hc0 i1 ⊢
   have HR := hid hr0; have HM := hid hM; have Hn := hid hn; clear hr0 hM hV hn
   have H := al2 w (jI_ id m u b c z s me o a l (.slice A0 n c0)) (jI_ 0 0 0 0 0 0 0 0 0 0 0 (.slice none 0 0))
   have H0 := hid H.1; have H1 := hid H.2.1; have HB0 := hid H.2.2; clear H
   obtain ⟨t0, t1, t2, t3, t4, t5, t6, t7, t8, t9, t10, t11⟩ := cz12 H0.out
   have hge : w.heap.size <= w.heap.size + 1 := by omega
   go_enter Try.func62, Try.ntmps62
   go_wp2_with first
    | (go_at_call 105; with_reducible refine (HM.out _ (Kd.C_below HR.out HB0.out)).mono ?_; rintro e w1 ⟨rfl, hb1⟩; have hs := hb1.size; rw [sz2] at hs; have HB1 := hid (jc_ HB0.out hb1); have K1 := hid (jb_ H0.out hb1); have G1 := hid (jb_ H1.out hb1); clear hb1; have q0 : w1.heap.size ≠ w.heap.size := (by omega); have q0p : w.heap.size ≠ w1.heap.size := (by omega); have q1 : w1.heap.size ≠ w.heap.size + 1 := (by omega); have q1p : w.heap.size + 1 ≠ w1.heap.size := (by omega); obtain ⟨k0, k1, k2, k3, k4, k5, k6, k7, k8, k9, k10, k11⟩ := cz12 K1.out; obtain ⟨kf0, kf1, kf2, kf3, kf4, kf5, kf6, kf7, kf8, kf9, kf10, kf11⟩ := fz12 K1.out; obtain ⟨ad, ea, u0, u1, u2⟩ := kn_ (Kd.C_below HR.out HB1.out) i i0 i1; rw [<- HXX.out] at u0 u1 u2; subst ea; have Xa := hid (ju_ w1 (zoO st wp gen)); have Ka := hid (ja_ K1.out (zoO st wp gen)); have Ga := hid (ja_ G1.out (zoO st wp gen)); have HBa := hid (jg_ HB1.out (zoO st wp gen)); obtain ⟨xa0, xa1, xa2, xa3, xa4, xa5, xa6, xa7, xa8, xa9, xa10, xa11⟩ := cz12 Ka.out; obtain ⟨ya0, ya1, ya2, ya3, ya4, ya5, ya6, ya7, ya8, ya9, ya10, ya11⟩ := cz12 Ga.out; obtain ⟨yfa0, yfa1, yfa2, yfa3, yfa4, yfa5, yfa6, yfa7, yfa8, yfa9, yfa10, yfa11⟩ := fz12 Ga.out; obtain ⟨ra0, ra1, ra2⟩ := cz3 Xa.out; obtain ⟨rfa0, rfa1, rfa2⟩ := fz3 Xa.out)
   refine bodyPost_ret (jj_ rfl _ _ (w.heap.size + 1) 35 #[.int .i64 0, .int .i64 0, .int .i64 0, .int .i64 0, .int .i64 0, .int .i64 0, .int .i64 0, .int .i64 0, .int .i64 0, .int .i64 0, .int .i64 0, .slice none 0 0] (0, 0) _ rfl (ko_ Ga.out) Try.underlying35 rfl (by kernel_rfl)) rfl ?_
   exact ⟨_, rfl, .inl (.inl ⟨rfl, rfl⟩), bl12 HBa.out hge⟩
  rw [if_neg h1] at hV
  by_cases h2 : st = 3
  ·
   have hv : V = (none, 6) := by rw [hV, if_pos h2]
   subst hv
   clear hO hz
   subst h2
   rw [<- hn] at hM hr0 hc0 i1 ⊢
   have HR := hid hr0; have HM := hid hM; have Hn := hid hn; clear hr0 hM hV hn
   have H := al2 w (jI_ id m u b c z s me o a l (.slice A0 n c0)) (jI_ 0 0 0 0 0 0 0 0 0 0 0 (.slice none 0 0))
   have H0 := hid H.1; have H1 := hid H.2.1; have HB0 := hid H.2.2; clear H
   obtain ⟨t0, t1, t2, t3, t4, t5, t6, t7, t8, t9, t10, t11⟩ := cz12 H0.out
   have hge : w.heap.size <= w.heap.size + 1 := by omega
   go_enter Try.func62, Try.ntmps62
   go_wp2_with first
    | (go_at_call 105; with_reducible refine (HM.out _ (Kd.C_below HR.out HB0.out)).mono ?_; rintro e w1 ⟨rfl, hb1⟩; have hs := hb1.size; rw [sz2] at hs; have HB1 := hid (jc_ HB0.out hb1); have K1 := hid (jb_ H0.out hb1); have G1 := hid (jb_ H1.out hb1); clear hb1; have q0 : w1.heap.size ≠ w.heap.size := (by omega); have q0p : w.heap.size ≠ w1.heap.size := (by omega); have q1 : w1.heap.size ≠ w.heap.size + 1 := (by omega); have q1p : w.heap.size + 1 ≠ w1.heap.size := (by omega); obtain ⟨k0, k1, k2, k3, k4, k5, k6, k7, k8, k9, k10, k11⟩ := cz12 K1.out; obtain ⟨kf0, kf1, kf2, kf3, kf4, kf5, kf6, kf7, kf8, kf9, kf10, kf11⟩ := fz12 K1.out; obtain ⟨ad, ea, u0, u1, u2⟩ := kn_ (Kd.C_below HR.out HB1.out) i i0 i1; rw [<- HXX.out] at u0 u1 u2; subst ea; have Xa := hid (ju_ w1 (zoO 3 wp gen)); have Ka := hid (ja_ K1.out (zoO 3 wp gen)); have Ga := hid (ja_ G1.out (zoO 3 wp gen)); have HBa := hid (jg_ HB1.out (zoO 3 wp gen)); obtain ⟨xa0, xa1, xa2, xa3, xa4, xa5, xa6, xa7, xa8, xa9, xa10, xa11⟩ := cz12 Ka.out; obtain ⟨ya0, ya1, ya2, ya3, ya4, ya5, ya6, ya7, ya8, ya9, ya10, ya11⟩ := cz12 Ga.out; obtain ⟨yfa0, yfa1, yfa2, yfa3, yfa4, yfa5, yfa6, yfa7, yfa8, yfa9, yfa10, yfa11⟩ := fz12 Ga.out; obtain ⟨ra0, ra1, ra2⟩ := cz3 Xa.out; obtain ⟨rfa0, rfa1, rfa2⟩ := fz3 Xa.out)
   refine bodyPost_ret (jj_ rfl _ _ (w.heap.size + 1) 35 #[.int .i64 0, .int .i64 0, .int .i64 0, .int .i64 0, .int .i64 0, .int .i64 0, .int .i64 0, .int .i64 0, .int .i64 0, .int .i64 0, .int .i64 0, .slice none 0 0] (0, 0) _ rfl (ko_ Ga.out) Try.underlying35 rfl (by kernel_rfl)) rfl ?_
   exact ⟨_, rfl, .inl (.inl ⟨rfl, rfl⟩), bl12 HBa.out hge⟩
  rw [if_neg h2] at hV
  simp only [if_neg h2] at hO
  have sb3 : (st == 3) = false := beq_eq_false_iff_ne.mpr h2
  by_cases h3 : ¬ p = wp
  ·
   have hv : V = (none, 5) := by rw [hV, if_pos h3]
   subst hv
   clear hO hz
   have pb : (p == wp) = false := beq_eq_false_iff_ne.mpr h3
   rw [<- hn] at hM hr0 hc0 i1 ⊢
   have HR := hid hr0; have HM := hid hM; have Hn := hid hn; clear hr0 hM hV hn
   have H := al2 w (jI_ id m u b c z s me o a l (.slice A0 n c0)) (jI_ 0 0 0 0 0 0 0 0 0 0 0 (.slice none 0 0))
   have H0 := hid H.1; have H1 := hid H.2.1; have HB0 := hid H.2.2; clear H
   obtain ⟨t0, t1, t2, t3, t4, t5, t6, t7, t8, t9, t10, t11⟩ := cz12 H0.out
   have hge : w.heap.size <= w.heap.size + 1 := by omega
   go_enter Try.func62, Try.ntmps62
   go_wp2_with first
    | (go_at_call 105; with_reducible refine (HM.out _ (Kd.C_below HR.out HB0.out)).mono ?_; rintro e w1 ⟨rfl, hb1⟩; have hs := hb1.size; rw [sz2] at hs; have HB1 := hid (jc_ HB0.out hb1); have K1 := hid (jb_ H0.out hb1); have G1 := hid (jb_ H1.out hb1); clear hb1; have q0 : w1.heap.size ≠ w.heap.size := (by omega); have q0p : w.heap.size ≠ w1.heap.size := (by omega); have q1 : w1.heap.size ≠ w.heap.size + 1 := (by omega); have q1p : w.heap.size + 1 ≠ w1.heap.size := (by omega); obtain ⟨k0, k1, k2, k3, k4, k5, k6, k7, k8, k9, k10, k11⟩ := cz12 K1.out; obtain ⟨kf0, kf1, kf2, kf3, kf4, kf5, kf6, kf7, kf8, kf9, kf10, kf11⟩ := fz12 K1.out; obtain ⟨ad, ea, u0, u1, u2⟩ := kn_ (Kd.C_below HR.out HB1.out) i i0 i1; rw [<- HXX.out] at u0 u1 u2; subst ea; have Xa := hid (ju_ w1 (zoO st wp gen)); have Ka := hid (ja_ K1.out (zoO st wp gen)); have Ga := hid (ja_ G1.out (zoO st wp gen)); have HBa := hid (jg_ HB1.out (zoO st wp gen)); obtain ⟨xa0, xa1, xa2, xa3, xa4, xa5, xa6, xa7, xa8, xa9, xa10, xa11⟩ := cz12 Ka.out; obtain ⟨ya0, ya1, ya2, ya3, ya4, ya5, ya6, ya7, ya8, ya9, ya10, ya11⟩ := cz12 Ga.out; obtain ⟨yfa0, yfa1, yfa2, yfa3, yfa4, yfa5, yfa6, yfa7, yfa8, yfa9, yfa10, yfa11⟩ := fz12 Ga.out; obtain ⟨ra0, ra1, ra2⟩ := cz3 Xa.out; obtain ⟨rfa0, rfa1, rfa2⟩ := fz3 Xa.out)
   refine bodyPost_ret (jj_ rfl _ _ (w.heap.size + 1) 35 #[.int .i64 0, .int .i64 0, .int .i64 0, .int .i64 0, .int .i64 0, .int .i64 0, .int .i64 0, .int .i64 0, .int .i64 0, .int .i64 0, .int .i64 0, .slice none 0 0] (0, 0) _ rfl (ko_ Ga.out) Try.underlying35 rfl (by kernel_rfl)) rfl ?_
   exact ⟨_, rfl, .inl (.inl ⟨rfl, rfl⟩), bl12 HBa.out hge⟩
  rw [if_neg h3] at hV
  have pe : p = wp := Classical.byContradiction (fun q => h3 q)
  subst pe
  by_cases h8 : wrap64 (Z - p) < k
  ·
   have hv : V = (none, 4) := by rw [hV, if_pos h8]
   subst hv
   clear hO hz
   rw [<- hn] at hM hr0 hc0 i1 ⊢
   have HR := hid hr0; have HM := hid hM; have Hn := hid hn; clear hr0 hM hV hn
   have H := al2 w (jI_ id m u b c z s me o a l (.slice A0 n c0)) (jI_ 0 0 0 0 0 0 0 0 0 0 0 (.slice none 0 0))
   have H0 := hid H.1; have H1 := hid H.2.1; have HB0 := hid H.2.2; clear H
   obtain ⟨t0, t1, t2, t3, t4, t5, t6, t7, t8, t9, t10, t11⟩ := cz12 H0.out
   have hge : w.heap.size <= w.heap.size + 1 := by omega
   go_enter Try.func62, Try.ntmps62
   go_wp2_with first
    | (go_at_call 105; with_reducible refine (HM.out _ (Kd.C_below HR.out HB0.out)).mono ?_; rintro e w1 ⟨rfl, hb1⟩; have hs := hb1.size; rw [sz2] at hs; have HB1 := hid (jc_ HB0.out hb1); have K1 := hid (jb_ H0.out hb1); have G1 := hid (jb_ H1.out hb1); clear hb1; have q0 : w1.heap.size ≠ w.heap.size := (by omega); have q0p : w.heap.size ≠ w1.heap.size := (by omega); have q1 : w1.heap.size ≠ w.heap.size + 1 := (by omega); have q1p : w.heap.size + 1 ≠ w1.heap.size := (by omega); obtain ⟨k0, k1, k2, k3, k4, k5, k6, k7, k8, k9, k10, k11⟩ := cz12 K1.out; obtain ⟨kf0, kf1, kf2, kf3, kf4, kf5, kf6, kf7, kf8, kf9, kf10, kf11⟩ := fz12 K1.out; obtain ⟨ad, ea, u0, u1, u2⟩ := kn_ (Kd.C_below HR.out HB1.out) i i0 i1; rw [<- HXX.out] at u0 u1 u2; subst ea; have Xa := hid (ju_ w1 (zoO st p gen)); have Ka := hid (ja_ K1.out (zoO st p gen)); have Ga := hid (ja_ G1.out (zoO st p gen)); have HBa := hid (jg_ HB1.out (zoO st p gen)); obtain ⟨xa0, xa1, xa2, xa3, xa4, xa5, xa6, xa7, xa8, xa9, xa10, xa11⟩ := cz12 Ka.out; obtain ⟨ya0, ya1, ya2, ya3, ya4, ya5, ya6, ya7, ya8, ya9, ya10, ya11⟩ := cz12 Ga.out; obtain ⟨yfa0, yfa1, yfa2, yfa3, yfa4, yfa5, yfa6, yfa7, yfa8, yfa9, yfa10, yfa11⟩ := fz12 Ga.out; obtain ⟨ra0, ra1, ra2⟩ := cz3 Xa.out; obtain ⟨rfa0, rfa1, rfa2⟩ := fz3 Xa.out)
    | (go_at_call 41; refine (HSZ.out _).mono ?_; rintro e w3 ⟨rfl, hb3⟩; have hgx : w1.heap.size < w3.heap.size := jX_ (jb_ Xa.out hb3); have Kc := hid (jb_ Ka.out hb3); have Gc := hid (jb_ Ga.out hb3); have Xc := hid (jb_ Xa.out hb3); have HBc := hid (jc_ HBa.out hb3); clear hb3; obtain ⟨xc0, xc1, xc2, xc3, xc4, xc5, xc6, xc7, xc8, xc9, xc10, xc11⟩ := cz12 Kc.out; obtain ⟨yc0, yc1, yc2, yc3, yc4, yc5, yc6, yc7, yc8, yc9, yc10, yc11⟩ := cz12 Gc.out; obtain ⟨yfc0, yfc1, yfc2, yfc3, yfc4, yfc5, yfc6, yfc7, yfc8, yfc9, yfc10, yfc11⟩ := fz12 Gc.out; obtain ⟨rc0, rc1, rc2⟩ := cz3 Xc.out; obtain ⟨rfc0, rfc1, rfc2⟩ := fz3 Xc.out)
   refine bodyPost_ret (jj_ rfl _ _ (w.heap.size + 1) 35 #[.int .i64 0, .int .i64 0, .int .i64 0, .int .i64 0, .int .i64 0, .int .i64 0, .int .i64 0, .int .i64 0, .int .i64 0, .int .i64 0, .int .i64 0, .slice none 0 0] (0, 0) _ rfl (ko_ Gc.out) Try.underlying35 rfl (by kernel_rfl)) rfl ?_
   exact ⟨_, rfl, .inl (.inl ⟨rfl, rfl⟩), bl12 HBc.out hge⟩
  rw [if_neg h8] at hV
  have hop := @Geo.opened_ok o a L ⟨st, p, gen⟩
  generalize jP_ a o L ⟨st, p, gen⟩ = y at hO hV hop
  obtain ⟨y1, e2⟩ := y
  dsimp only at hO hV hop
  by_cases h9 : e2 = 0
  ·
   have hy := (hop h9 (by omega)).1
   subst hy; subst h9
   simp only [ne_eq, not_true_eq_false, if_false] at hO
   dsimp only at hV
   rw [if_neg (by simp)] at hV
   obtain ⟨L1, hL1⟩ : ∃ L1, L1 = L.set i.toNat ⟨1, p, gen⟩ := ⟨_, rfl⟩
   have hlen : L1.length = L.length := by rw [hL1, List.length_set]
   have hss : ∀ y : S59, L1.set i.toNat y = L.set i.toNat y := fun y => by rw [hL1, List.set_set]
   rw [<- hL1] at hO
   rw [<- hn] at hO
   have i1L := i1
   have hl1 : L1.length < 1000000000 := by omega
   rw [<- hlen] at i1L
   have HO := hid hO; have HSS := hid hss; clear hO hss hlen hL1 hop hlL hz
   generalize hY : wrap64 (p + k) = Y at hV
   by_cases h10 : Y = Z
   ·
    have hv : V = (some (L.set i.toNat ⟨3, Y, gen⟩), 0) := by rw [hV, if_pos h10]
    subst hv
    have yb : (Y == Z) = true := beq_iff_eq.mpr h10
    have H10 := hid h10; clear h10
    rw [<- hn] at hM hr0 hc0 i1 ⊢
    have HR := hid hr0; have HM := hid hM; have Hn := hid hn; clear hr0 hM hV hn
    have H := al2 w (jI_ id m u b c z s me o a l (.slice A0 n c0)) (jI_ 0 0 0 0 0 0 0 0 0 0 0 (.slice none 0 0))
    have H0 := hid H.1; have H1 := hid H.2.1; have HB0 := hid H.2.2; clear H
    obtain ⟨t0, t1, t2, t3, t4, t5, t6, t7, t8, t9, t10, t11⟩ := cz12 H0.out
    have hge : w.heap.size <= w.heap.size + 1 := by omega
    go_enter Try.func62, Try.ntmps62
    go_wp2_with first
     | (go_at_call 105; with_reducible refine (HM.out _ (Kd.C_below HR.out HB0.out)).mono ?_; rintro e w1 ⟨rfl, hb1⟩; have hs := hb1.size; rw [sz2] at hs; have HB1 := hid (jc_ HB0.out hb1); have K1 := hid (jb_ H0.out hb1); have G1 := hid (jb_ H1.out hb1); clear hb1; have q0 : w1.heap.size ≠ w.heap.size := (by omega); have q0p : w.heap.size ≠ w1.heap.size := (by omega); have q1 : w1.heap.size ≠ w.heap.size + 1 := (by omega); have q1p : w.heap.size + 1 ≠ w1.heap.size := (by omega); obtain ⟨k0, k1, k2, k3, k4, k5, k6, k7, k8, k9, k10, k11⟩ := cz12 K1.out; obtain ⟨kf0, kf1, kf2, kf3, kf4, kf5, kf6, kf7, kf8, kf9, kf10, kf11⟩ := fz12 K1.out; obtain ⟨ad, ea, u0, u1, u2⟩ := kn_ (Kd.C_below HR.out HB1.out) i i0 i1; rw [<- HXX.out] at u0 u1 u2; subst ea; have Xa := hid (ju_ w1 (zoO st p gen)); have Ka := hid (ja_ K1.out (zoO st p gen)); have Ga := hid (ja_ G1.out (zoO st p gen)); have HBa := hid (jg_ HB1.out (zoO st p gen)); obtain ⟨xa0, xa1, xa2, xa3, xa4, xa5, xa6, xa7, xa8, xa9, xa10, xa11⟩ := cz12 Ka.out; obtain ⟨ya0, ya1, ya2, ya3, ya4, ya5, ya6, ya7, ya8, ya9, ya10, ya11⟩ := cz12 Ga.out; obtain ⟨yfa0, yfa1, yfa2, yfa3, yfa4, yfa5, yfa6, yfa7, yfa8, yfa9, yfa10, yfa11⟩ := fz12 Ga.out; obtain ⟨ra0, ra1, ra2⟩ := cz3 Xa.out; obtain ⟨rfa0, rfa1, rfa2⟩ := fz3 Xa.out)
     | (go_at_call 41; refine (HSZ.out _).mono ?_; rintro e w3 ⟨rfl, hb3⟩; have hgx : w1.heap.size < w3.heap.size := jX_ (jb_ Xa.out hb3); have Kc := hid (jb_ Ka.out hb3); have Gc := hid (jb_ Ga.out hb3); have Xc := hid (jb_ Xa.out hb3); have HBc := hid (jc_ HBa.out hb3); clear hb3; obtain ⟨xc0, xc1, xc2, xc3, xc4, xc5, xc6, xc7, xc8, xc9, xc10, xc11⟩ := cz12 Kc.out; obtain ⟨yc0, yc1, yc2, yc3, yc4, yc5, yc6, yc7, yc8, yc9, yc10, yc11⟩ := cz12 Gc.out; obtain ⟨yfc0, yfc1, yfc2, yfc3, yfc4, yfc5, yfc6, yfc7, yfc8, yfc9, yfc10, yfc11⟩ := fz12 Gc.out; obtain ⟨rc0, rc1, rc2⟩ := cz3 Xc.out; obtain ⟨rfc0, rfc1, rfc2⟩ := fz3 Xc.out)
     | (go_at_call 66; refine (HO.out _ (Kd.C_below HR.out HBc.out)).mono ?_; rintro e w4 ⟨v, rfl, hT, hb4⟩; rw [Hn.out] at hT; obtain ⟨A1, k1, rfl⟩ := TabD_shape hT; have n4 : w4.heap.size ≠ w1.heap.size := Nat.ne_of_gt (jX_ (jb_ Xc.out hb4)); have n4s := n4.symm; have Ke := hid (ja_ (jb_ Kc.out hb4) (jI_ id m u b c z s me o a l (.slice A1 L1.length k1))); have Ge := hid (ja_ (jb_ Gc.out hb4) (jI_ id m u b c z s me o a l (.slice A1 L1.length k1))); have Xe := hid (ja_ (jb_ Xc.out hb4) (jI_ id m u b c z s me o a l (.slice A1 L1.length k1))); have Te := hid (ju_ w4 (jI_ id m u b c z s me o a l (.slice A1 L1.length k1))); have HBe := hid (jg_ (jc_ HBc.out hb4) (jI_ id m u b c z s me o a l (.slice A1 L1.length k1))); have HTe := hid (xw_ hT (jg_ (Below.refl _ _) (jI_ id m u b c z s me o a l (.slice A1 L1.length k1)))); clear hT hb4; obtain ⟨re0, re1, re2⟩ := cz3 Xe.out; obtain ⟨rfe0, rfe1, rfe2⟩ := fz3 Xe.out)
    (try rw [hY])
    refine jN_ (n := 6) (S := (rcS w.heap.size w1.heap.size id m u b c z s me o a l (.slice (some ad) n c0) 1 Y gen)) (ds := []) (bq 6 0) (by kernel_rfl) rfl (by kernel_rfl) (vb_ (jd_ (jv_ (jv_ Ke.out q0p _) q0p _)) (jd_ (js_ (cs := #[.int .i64 1, .int .i64 p, .int .i64 gen]) (js_ (cs := #[.int .i64 st, .int .i64 p, .int .i64 gen]) Xe.out 0 _ rfl) 1 _ rfl))) (fun hHeld => ?_)
    refine jw_ tab33_16 bits33_16 (fun HT_ HW_ => ?_)
    apply pu 0 61 (bq 6 1) HT_
    apply pu 2 63 (bq 6 5) HT_
    apply tu 1 62 (bq 6 7) HT_ HW_ hHeld
    apply tu 3 64 (bq 6 15) HT_ HW_ hHeld
    refine one_ (i := 4) (N := some 65) (bq 6 31) rfl rfl (kI_ HT_.out (by kernel_rfl)) (by decide) (fun K hK => ?_)
    refine gs Try.func41 #[.agg #[.int .i64 id, .int .i64 m, .int .i64 u, .int .i64 b, .int .i64 c, .int .i64 z, .int .i64 s, .int .i64 me, .int .i64 o, .int .i64 a, .int .i64 l]] ?_
    refine (HSZ.out _).mono ?_
    rintro e w5 ⟨rfl, hb⟩
    refine ⟨_, rfl, ?_⟩
    have Kf := hid (jb_ (jd_ (jv_ (jv_ Ke.out q0p _) q0p _)) hb); have Gf := hid (jb_ (jd_ (jv_ (jv_ Ge.out q1p _) q1p _)) hb); have Xf := hid (jb_ (jd_ (js_ (cs := #[.int .i64 1, .int .i64 p, .int .i64 gen]) (js_ (cs := #[.int .i64 st, .int .i64 p, .int .i64 gen]) Xe.out 0 _ rfl) 1 _ rfl)) hb); have Tf := hid (jb_ (jd_ (jv_ (jv_ Te.out n4 _) n4 _)) hb); have HBf := hid (jc_ (jC_ (jx_ (jx_ HBe.out (by have := HB1.out.size; omega)) (by have := HB1.out.size; omega))) hb); have HTf := hid (xw_ (TabD_drew (yF_ (yF_ HTe.out hgx) hgx)) hb); clear hb
    refine hK.out _ _ (vb_ Kf.out Xf.out) (fun hHeld => ?_)
    clear hK K
    apply nm 0
    apply pu 5 66 (bq 6 63) HT_
    refine kk_ (jF_ HT_.out (by kernel_rfl)) ?_
    obtain ⟨xf0, xf1, xf2, xf3, xf4, xf5, xf6, xf7, xf8, xf9, xf10, xf11⟩ := cz12 Kf.out
    obtain ⟨xff0, xff1, xff2, xff3, xff4, xff5, xff6, xff7, xff8, xff9, xff10, xff11⟩ := fz12 Kf.out
    obtain ⟨yf0, yf1, yf2, yf3, yf4, yf5, yf6, yf7, yf8, yf9, yf10, yf11⟩ := cz12 Gf.out
    obtain ⟨yff0, yff1, yff2, yff3, yff4, yff5, yff6, yff7, yff8, yff9, yff10, yff11⟩ := fz12 Gf.out
    obtain ⟨rf0, rf1, rf2⟩ := cz3 Xf.out
    obtain ⟨rff0, rff1, rff2⟩ := fz3 Xf.out
    obtain ⟨tf0, tf1, tf2, tf3, tf4, tf5, tf6, tf7, tf8, tf9, tf10, tf11⟩ := cz12 Tf.out
    go_wp2_with first
     | (go_at_call 86; obtain ⟨hle1, hC1⟩ := TabD_C (yF_ HTf.out hgx) (Hn.out ▸ Kd.C_below HR.out (jx_ HBf.out (by have := HB1.out.size; omega))) (Hn.out ▸ hc0); refine (xn_ id m u b c z s me o a l A1 k1 L1 i ⟨3, Y, gen⟩ _ hC1 hle1 hl1 i0 i1L).mono ?_; rintro e w2 ⟨v, rfl, hR2, hb2⟩; rw [HSS.out] at hR2; obtain ⟨A2, c2, rfl⟩ := Kd.R_slice hR2; simp only [List.length_set] at hR2; have G3 := hid (jb_ (jv_ Gf.out q1p _) hb2); have HB3 := hid (jc_ (jx_ HBf.out (by have := HB1.out.size; omega)) hb2); have HR2 := hid (Kd.R_lower hR2 (jx_ HBf.out (by have := HB1.out.size; omega)).size); clear hR2 hb2; obtain ⟨z0, z1, z2, z3, z4, z5, z6, z7, z8, z9, z10, z11⟩ := cz12 G3.out; obtain ⟨zf0, zf1, zf2, zf3, zf4, zf5, zf6, zf7, zf8, zf9, zf10, zf11⟩ := fz12 G3.out)
    refine bodyPost_ret (jj_ rfl _ _ (w.heap.size + 1) 35 #[.int .i64 id, .int .i64 m, .int .i64 u, .int .i64 b, .int .i64 c, .int .i64 z, .int .i64 s, .int .i64 me, .int .i64 o, .int .i64 a, .int .i64 l, .slice A2 _ c2] (0, 0) _ rfl (ko_ G3.out) Try.underlying35 rfl (by kernel_rfl)) rfl ?_
    exact ⟨_, rfl, .inl (.inr ⟨_, _, rfl, rfl, R12 HR2.out G3.out (by decide)⟩), bl12 HB3.out hge⟩
   ·
    have hv : V = (some (L.set i.toNat ⟨1, Y, gen⟩), 0) := by rw [hV, if_neg h10]
    subst hv
    have yb : (Y == Z) = false := beq_eq_false_iff_ne.mpr h10
    have H10 := hid h10; clear h10
    rw [<- hn] at hM hr0 hc0 i1 ⊢
    have HR := hid hr0; have HM := hid hM; have Hn := hid hn; clear hr0 hM hV hn
    have H := al2 w (jI_ id m u b c z s me o a l (.slice A0 n c0)) (jI_ 0 0 0 0 0 0 0 0 0 0 0 (.slice none 0 0))
    have H0 := hid H.1; have H1 := hid H.2.1; have HB0 := hid H.2.2; clear H
    obtain ⟨t0, t1, t2, t3, t4, t5, t6, t7, t8, t9, t10, t11⟩ := cz12 H0.out
    have hge : w.heap.size <= w.heap.size + 1 := by omega
    go_enter Try.func62, Try.ntmps62
    go_wp2_with first
     | (go_at_call 105; with_reducible refine (HM.out _ (Kd.C_below HR.out HB0.out)).mono ?_; rintro e w1 ⟨rfl, hb1⟩; have hs := hb1.size; rw [sz2] at hs; have HB1 := hid (jc_ HB0.out hb1); have K1 := hid (jb_ H0.out hb1); have G1 := hid (jb_ H1.out hb1); clear hb1; have q0 : w1.heap.size ≠ w.heap.size := (by omega); have q0p : w.heap.size ≠ w1.heap.size := (by omega); have q1 : w1.heap.size ≠ w.heap.size + 1 := (by omega); have q1p : w.heap.size + 1 ≠ w1.heap.size := (by omega); obtain ⟨k0, k1, k2, k3, k4, k5, k6, k7, k8, k9, k10, k11⟩ := cz12 K1.out; obtain ⟨kf0, kf1, kf2, kf3, kf4, kf5, kf6, kf7, kf8, kf9, kf10, kf11⟩ := fz12 K1.out; obtain ⟨ad, ea, u0, u1, u2⟩ := kn_ (Kd.C_below HR.out HB1.out) i i0 i1; rw [<- HXX.out] at u0 u1 u2; subst ea; have Xa := hid (ju_ w1 (zoO st p gen)); have Ka := hid (ja_ K1.out (zoO st p gen)); have Ga := hid (ja_ G1.out (zoO st p gen)); have HBa := hid (jg_ HB1.out (zoO st p gen)); obtain ⟨xa0, xa1, xa2, xa3, xa4, xa5, xa6, xa7, xa8, xa9, xa10, xa11⟩ := cz12 Ka.out; obtain ⟨ya0, ya1, ya2, ya3, ya4, ya5, ya6, ya7, ya8, ya9, ya10, ya11⟩ := cz12 Ga.out; obtain ⟨yfa0, yfa1, yfa2, yfa3, yfa4, yfa5, yfa6, yfa7, yfa8, yfa9, yfa10, yfa11⟩ := fz12 Ga.out; obtain ⟨ra0, ra1, ra2⟩ := cz3 Xa.out; obtain ⟨rfa0, rfa1, rfa2⟩ := fz3 Xa.out)
     | (go_at_call 41; refine (HSZ.out _).mono ?_; rintro e w3 ⟨rfl, hb3⟩; have hgx : w1.heap.size < w3.heap.size := jX_ (jb_ Xa.out hb3); have Kc := hid (jb_ Ka.out hb3); have Gc := hid (jb_ Ga.out hb3); have Xc := hid (jb_ Xa.out hb3); have HBc := hid (jc_ HBa.out hb3); clear hb3; obtain ⟨xc0, xc1, xc2, xc3, xc4, xc5, xc6, xc7, xc8, xc9, xc10, xc11⟩ := cz12 Kc.out; obtain ⟨yc0, yc1, yc2, yc3, yc4, yc5, yc6, yc7, yc8, yc9, yc10, yc11⟩ := cz12 Gc.out; obtain ⟨yfc0, yfc1, yfc2, yfc3, yfc4, yfc5, yfc6, yfc7, yfc8, yfc9, yfc10, yfc11⟩ := fz12 Gc.out; obtain ⟨rc0, rc1, rc2⟩ := cz3 Xc.out; obtain ⟨rfc0, rfc1, rfc2⟩ := fz3 Xc.out)
     | (go_at_call 66; refine (HO.out _ (Kd.C_below HR.out HBc.out)).mono ?_; rintro e w4 ⟨v, rfl, hT, hb4⟩; rw [Hn.out] at hT; obtain ⟨A1, k1, rfl⟩ := TabD_shape hT; have n4 : w4.heap.size ≠ w1.heap.size := Nat.ne_of_gt (jX_ (jb_ Xc.out hb4)); have n4s := n4.symm; have Ke := hid (ja_ (jb_ Kc.out hb4) (jI_ id m u b c z s me o a l (.slice A1 L1.length k1))); have Ge := hid (ja_ (jb_ Gc.out hb4) (jI_ id m u b c z s me o a l (.slice A1 L1.length k1))); have Xe := hid (ja_ (jb_ Xc.out hb4) (jI_ id m u b c z s me o a l (.slice A1 L1.length k1))); have Te := hid (ju_ w4 (jI_ id m u b c z s me o a l (.slice A1 L1.length k1))); have HBe := hid (jg_ (jc_ HBc.out hb4) (jI_ id m u b c z s me o a l (.slice A1 L1.length k1))); have HTe := hid (xw_ hT (jg_ (Below.refl _ _) (jI_ id m u b c z s me o a l (.slice A1 L1.length k1)))); clear hT hb4; obtain ⟨re0, re1, re2⟩ := cz3 Xe.out; obtain ⟨rfe0, rfe1, rfe2⟩ := fz3 Xe.out)
    (try rw [hY])
    refine jN_ (n := 6) (S := (rcS w.heap.size w1.heap.size id m u b c z s me o a l (.slice (some ad) n c0) 1 Y gen)) (ds := []) (bq 6 0) (by kernel_rfl) rfl (by kernel_rfl) (vb_ (jd_ (jv_ (jv_ Ke.out q0p _) q0p _)) (jd_ (js_ (cs := #[.int .i64 1, .int .i64 p, .int .i64 gen]) (js_ (cs := #[.int .i64 st, .int .i64 p, .int .i64 gen]) Xe.out 0 _ rfl) 1 _ rfl))) (fun hHeld => ?_)
    refine jw_ tab33_16 bits33_16 (fun HT_ HW_ => ?_)
    apply pu 0 61 (bq 6 1) HT_
    apply pu 2 63 (bq 6 5) HT_
    apply tu 1 62 (bq 6 7) HT_ HW_ hHeld
    apply tu 3 64 (bq 6 15) HT_ HW_ hHeld
    refine one_ (i := 4) (N := some 65) (bq 6 31) rfl rfl (kI_ HT_.out (by kernel_rfl)) (by decide) (fun K hK => ?_)
    refine gs Try.func41 #[.agg #[.int .i64 id, .int .i64 m, .int .i64 u, .int .i64 b, .int .i64 c, .int .i64 z, .int .i64 s, .int .i64 me, .int .i64 o, .int .i64 a, .int .i64 l]] ?_
    refine (HSZ.out _).mono ?_
    rintro e w5 ⟨rfl, hb⟩
    refine ⟨_, rfl, ?_⟩
    have Kf := hid (jb_ (jd_ (jv_ (jv_ Ke.out q0p _) q0p _)) hb); have Gf := hid (jb_ (jd_ (jv_ (jv_ Ge.out q1p _) q1p _)) hb); have Xf := hid (jb_ (jd_ (js_ (cs := #[.int .i64 1, .int .i64 p, .int .i64 gen]) (js_ (cs := #[.int .i64 st, .int .i64 p, .int .i64 gen]) Xe.out 0 _ rfl) 1 _ rfl)) hb); have Tf := hid (jb_ (jd_ (jv_ (jv_ Te.out n4 _) n4 _)) hb); have HBf := hid (jc_ (jC_ (jx_ (jx_ HBe.out (by have := HB1.out.size; omega)) (by have := HB1.out.size; omega))) hb); have HTf := hid (xw_ (TabD_drew (yF_ (yF_ HTe.out hgx) hgx)) hb); clear hb
    refine hK.out _ _ (vb_ Kf.out Xf.out) (fun hHeld => ?_)
    clear hK K
    apply nm 0
    apply pu 5 66 (bq 6 63) HT_
    refine kk_ (jF_ HT_.out (by kernel_rfl)) ?_
    obtain ⟨xf0, xf1, xf2, xf3, xf4, xf5, xf6, xf7, xf8, xf9, xf10, xf11⟩ := cz12 Kf.out
    obtain ⟨xff0, xff1, xff2, xff3, xff4, xff5, xff6, xff7, xff8, xff9, xff10, xff11⟩ := fz12 Kf.out
    obtain ⟨yf0, yf1, yf2, yf3, yf4, yf5, yf6, yf7, yf8, yf9, yf10, yf11⟩ := cz12 Gf.out
    obtain ⟨yff0, yff1, yff2, yff3, yff4, yff5, yff6, yff7, yff8, yff9, yff10, yff11⟩ := fz12 Gf.out
    obtain ⟨rf0, rf1, rf2⟩ := cz3 Xf.out
    obtain ⟨rff0, rff1, rff2⟩ := fz3 Xf.out
    obtain ⟨tf0, tf1, tf2, tf3, tf4, tf5, tf6, tf7, tf8, tf9, tf10, tf11⟩ := cz12 Tf.out
    go_wp2_with first
     | (go_at_call 86; obtain ⟨hle1, hC1⟩ := TabD_C HTf.out (Hn.out ▸ Kd.C_below HR.out HBf.out) (Hn.out ▸ hc0); refine (xn_ id m u b c z s me o a l A1 k1 L1 i ⟨1, Y, gen⟩ _ hC1 hle1 hl1 i0 i1L).mono ?_; rintro e w2 ⟨v, rfl, hR2, hb2⟩; rw [HSS.out] at hR2; obtain ⟨A2, c2, rfl⟩ := Kd.R_slice hR2; simp only [List.length_set] at hR2; have G3 := hid (jb_ Gf.out hb2); have HB3 := hid (jc_ HBf.out hb2); have HR2 := hid (Kd.R_lower hR2 HBf.out.size); clear hR2 hb2; obtain ⟨z0, z1, z2, z3, z4, z5, z6, z7, z8, z9, z10, z11⟩ := cz12 G3.out; obtain ⟨zf0, zf1, zf2, zf3, zf4, zf5, zf6, zf7, zf8, zf9, zf10, zf11⟩ := fz12 G3.out)
    refine bodyPost_ret (jj_ rfl _ _ (w.heap.size + 1) 35 #[.int .i64 id, .int .i64 m, .int .i64 u, .int .i64 b, .int .i64 c, .int .i64 z, .int .i64 s, .int .i64 me, .int .i64 o, .int .i64 a, .int .i64 l, .slice A2 _ c2] (0, 0) _ rfl (ko_ G3.out) Try.underlying35 rfl (by kernel_rfl)) rfl ?_
    exact ⟨_, rfl, .inl (.inr ⟨_, _, rfl, rfl, R12 HR2.out G3.out (by decide)⟩), bl12 HB3.out hge⟩
  ·
   have hv : V = (none, e2) := by rw [hV, if_pos h9]
   subst hv
   have eb2 : (e2 == 0) = false := beq_eq_false_iff_ne.mpr h9
   simp only [ne_eq, if_pos h9, h9, not_false_eq_true, if_true] at hO
   rw [<- hn] at hO
   have HO := hid hO; clear hO hop hlL hz
   rw [<- hn] at hM hr0 hc0 i1 ⊢
   have HR := hid hr0; have HM := hid hM; have Hn := hid hn; clear hr0 hM hV hn
   have H := al2 w (jI_ id m u b c z s me o a l (.slice A0 n c0)) (jI_ 0 0 0 0 0 0 0 0 0 0 0 (.slice none 0 0))
   have H0 := hid H.1; have H1 := hid H.2.1; have HB0 := hid H.2.2; clear H
   obtain ⟨t0, t1, t2, t3, t4, t5, t6, t7, t8, t9, t10, t11⟩ := cz12 H0.out
   have hge : w.heap.size <= w.heap.size + 1 := by omega
   go_enter Try.func62, Try.ntmps62
   go_wp2_with first
    | (go_at_call 105; with_reducible refine (HM.out _ (Kd.C_below HR.out HB0.out)).mono ?_; rintro e w1 ⟨rfl, hb1⟩; have hs := hb1.size; rw [sz2] at hs; have HB1 := hid (jc_ HB0.out hb1); have K1 := hid (jb_ H0.out hb1); have G1 := hid (jb_ H1.out hb1); clear hb1; have q0 : w1.heap.size ≠ w.heap.size := (by omega); have q0p : w.heap.size ≠ w1.heap.size := (by omega); have q1 : w1.heap.size ≠ w.heap.size + 1 := (by omega); have q1p : w.heap.size + 1 ≠ w1.heap.size := (by omega); obtain ⟨k0, k1, k2, k3, k4, k5, k6, k7, k8, k9, k10, k11⟩ := cz12 K1.out; obtain ⟨kf0, kf1, kf2, kf3, kf4, kf5, kf6, kf7, kf8, kf9, kf10, kf11⟩ := fz12 K1.out; obtain ⟨ad, ea, u0, u1, u2⟩ := kn_ (Kd.C_below HR.out HB1.out) i i0 i1; rw [<- HXX.out] at u0 u1 u2; subst ea; have Xa := hid (ju_ w1 (zoO st p gen)); have Ka := hid (ja_ K1.out (zoO st p gen)); have Ga := hid (ja_ G1.out (zoO st p gen)); have HBa := hid (jg_ HB1.out (zoO st p gen)); obtain ⟨xa0, xa1, xa2, xa3, xa4, xa5, xa6, xa7, xa8, xa9, xa10, xa11⟩ := cz12 Ka.out; obtain ⟨ya0, ya1, ya2, ya3, ya4, ya5, ya6, ya7, ya8, ya9, ya10, ya11⟩ := cz12 Ga.out; obtain ⟨yfa0, yfa1, yfa2, yfa3, yfa4, yfa5, yfa6, yfa7, yfa8, yfa9, yfa10, yfa11⟩ := fz12 Ga.out; obtain ⟨ra0, ra1, ra2⟩ := cz3 Xa.out; obtain ⟨rfa0, rfa1, rfa2⟩ := fz3 Xa.out)
    | (go_at_call 41; refine (HSZ.out _).mono ?_; rintro e w3 ⟨rfl, hb3⟩; have hgx : w1.heap.size < w3.heap.size := jX_ (jb_ Xa.out hb3); have Kc := hid (jb_ Ka.out hb3); have Gc := hid (jb_ Ga.out hb3); have Xc := hid (jb_ Xa.out hb3); have HBc := hid (jc_ HBa.out hb3); clear hb3; obtain ⟨xc0, xc1, xc2, xc3, xc4, xc5, xc6, xc7, xc8, xc9, xc10, xc11⟩ := cz12 Kc.out; obtain ⟨yc0, yc1, yc2, yc3, yc4, yc5, yc6, yc7, yc8, yc9, yc10, yc11⟩ := cz12 Gc.out; obtain ⟨yfc0, yfc1, yfc2, yfc3, yfc4, yfc5, yfc6, yfc7, yfc8, yfc9, yfc10, yfc11⟩ := fz12 Gc.out; obtain ⟨rc0, rc1, rc2⟩ := cz3 Xc.out; obtain ⟨rfc0, rfc1, rfc2⟩ := fz3 Xc.out)
    | (go_at_call 66; refine (HO.out _ (Kd.C_below HR.out HBc.out)).mono ?_; rintro e w4 ⟨v, rfl, hT, hb4⟩; obtain ⟨q0, q1, q2, q3, q4, q5, q6, q7, q8, q9, q10, A1, n1, k1, rfl⟩ := TabD_open hT; have Ge := hid (ja_ (jb_ Gc.out hb4) (jI_ q0 q1 q2 q3 q4 q5 q6 q7 q8 q9 q10 (.slice A1 n1 k1))); have HBe := hid (jg_ (jc_ HBc.out hb4) (jI_ q0 q1 q2 q3 q4 q5 q6 q7 q8 q9 q10 (.slice A1 n1 k1))); clear hT hb4; obtain ⟨ye0, ye1, ye2, ye3, ye4, ye5, ye6, ye7, ye8, ye9, ye10, ye11⟩ := cz12 Ge.out; obtain ⟨yef0, yef1, yef2, yef3, yef4, yef5, yef6, yef7, yef8, yef9, yef10, yef11⟩ := fz12 Ge.out)
   refine bodyPost_ret (jj_ rfl _ _ (w.heap.size + 1) 35 #[.int .i64 0, .int .i64 0, .int .i64 0, .int .i64 0, .int .i64 0, .int .i64 0, .int .i64 0, .int .i64 0, .int .i64 0, .int .i64 0, .int .i64 0, .slice none 0 0] (0, 0) _ rfl (ko_ Ge.out) Try.underlying35 rfl (by kernel_rfl)) rfl ?_
   exact ⟨_, rfl, .inl (.inl ⟨rfl, rfl⟩), bl12 HBe.out hge⟩
 ·
  have hv : V = (none, e0) := by rw [hV, if_pos he]
  subst hv
  have eb : (e0 == 0) = false := beq_eq_false_iff_ne.mpr he
  clear hok hO
  rw [<- hn] at hM hr0 hc0 ⊢
  have HR := hid hr0; have HM := hid hM; have Hn := hid hn; clear hr0 hM hV hn
  have H := al2 w (jI_ id m u b c z s me o a l (.slice A0 n c0)) (jI_ 0 0 0 0 0 0 0 0 0 0 0 (.slice none 0 0))
  have H0 := hid H.1; have H1 := hid H.2.1; have HB0 := hid H.2.2; clear H
  obtain ⟨t0, t1, t2, t3, t4, t5, t6, t7, t8, t9, t10, t11⟩ := cz12 H0.out
  have hge : w.heap.size <= w.heap.size + 1 := by omega
  go_enter Try.func62, Try.ntmps62
  go_wp2_with first
   | (go_at_call 105; with_reducible refine (HM.out _ (Kd.C_below HR.out HB0.out)).mono ?_; rintro e w1 ⟨rfl, hb1⟩; have HB1 := hid (jc_ HB0.out hb1); have K1 := hid (jb_ H0.out hb1); have G1 := hid (jb_ H1.out hb1); clear hb1; obtain ⟨k0, k1, k2, k3, k4, k5, k6, k7, k8, k9, k10, k11⟩ := cz12 K1.out)
   | (go_at_call 105; with_reducible refine (HM.out _ (Kd.C_below HR.out HB1.out)).mono ?_; rintro e w2 ⟨rfl, hb2⟩; have HB2 := hid (jc_ HB1.out hb2); have G2 := hid (jb_ G1.out hb2); clear hb2; obtain ⟨g0, g1, g2, g3, g4, g5, g6, g7, g8, g9, g10, g11⟩ := cz12 G2.out; obtain ⟨gf0, gf1, gf2, gf3, gf4, gf5, gf6, gf7, gf8, gf9, gf10, gf11⟩ := fz12 G2.out)
  refine bodyPost_ret (jj_ rfl _ _ (w.heap.size + 1) 35 #[.int .i64 0, .int .i64 0, .int .i64 0, .int .i64 0, .int .i64 0, .int .i64 0, .int .i64 0, .int .i64 0, .int .i64 0, .int .i64 0, .int .i64 0, .slice none 0 0] (0, 0) _ rfl (ko_ G2.out) Try.underlying35 rfl (by kernel_rfl)) rfl ?_
  exact ⟨_, rfl, .inl (.inl ⟨rfl, rfl⟩), bl12 HB2.out hge⟩
end Go.Proofs.Ytgckcaoncjhgbaa
