/- lzone.Right: may a table be? -/
/- lzone.Right: may a table be? With the contracts of conf.Check and conf.Size. -/
/- lzone.at: a zone of a table that may be. -/
/- lzone.opened, rested: a zone that is not full, open; the state of a zone that is not open any more. -/
/- lzone.with: a zone is another one. -/
/- Tables as results of package lzone: what they are; a zone looked up, with its contract. -/
import Derived.Test.YtgckcaoncjhgbaaFLb
import Derived.Test.YtgckcaoncjhgbaaGoodLaw
set_option maxHeartbeats 2000000
set_option maxRecDepth 100000
open Go.Lib (hid)
namespace Go.Proofs.Ytgckcaoncjhgbaa
open Go.RowKit Go.Proofs.Ytgckcaoncjhgbaa.PL Go.Proofs.YtgckcaoncjhgbaaW.PrintWords Go.Proofs.YtgckcaoncjhgbaaW.PrintLast
set_option linter.unusedVariables false
set_option linter.unusedSimpArgs false
def kf_ (id m u b c z s me o a l : Int) (L : List S59) : Bool := decide (jn_ id m u b c z s me o a l = 0) && (decide ((L.length : Int) = z) && L.all (rzP (kg_ m u b c z s me o a l)))
theorem rightZ_gen (id m u b c z s me o a l : Int) (A0 : Option Addr) (c0 : Nat) (L : List S59) (w : World) (hr0 : Kd.C k59 w A0 L.length L) (hc0 : L.length <= c0)
  (hk : ∀ w, Calls Try.prog 52 #[.agg #[.int .i64 id, .int .i64 m, .int .i64 u, .int .i64 b, .int .i64 c, .int .i64 z, .int .i64 s, .int .i64 me, .int .i64 o, .int .i64 a, .int .i64 l]] w fun e w' => e = .returned (.int .i64 (jn_ id m u b c z s me o a l)) /\ Below w.heap.size w w')
  (hs : jn_ id m u b c z s me o a l = 0 -> (0 <= kg_ m u b c z s me o a l /\ kg_ m u b c z s me o a l <= 1000000000) /\ ∀ w, Calls Try.prog 68 #[.agg #[.int .i64 id, .int .i64 m, .int .i64 u, .int .i64 b, .int .i64 c, .int .i64 z, .int .i64 s, .int .i64 me, .int .i64 o, .int .i64 a, .int .i64 l]] w fun e w' => e = .returned (.int .i64 (kg_ m u b c z s me o a l)) /\ Below w.heap.size w w') :
  Calls Try.prog 21 #[.agg #[.int .i64 id, .int .i64 m, .int .i64 u, .int .i64 b, .int .i64 c, .int .i64 z, .int .i64 s, .int .i64 me, .int .i64 o, .int .i64 a, .int .i64 l, .slice A0 L.length c0]] w fun e w' => e = .returned (.bool (kf_ id m u b c z s me o a l L)) /\ Below w.heap.size w w' := by
 obtain ⟨n, hn⟩ : ∃ n, n = L.length := ⟨_, rfl⟩
 obtain ⟨R, hR⟩ : ∃ R, R = kf_ id m u b c z s me o a l L := ⟨_, rfl⟩
 obtain ⟨K, hK⟩ : ∃ K, K = jn_ id m u b c z s me o a l := ⟨_, rfl⟩
 rw [<- hR]; rw [<- hn]
 unfold kf_ at hR
 rw [<- hK] at hk hs hR
 have HR := hid hr0; have Hn := hid hn; have HS := hid hs; have HK := hid hk; have HRR := hid hR
 clear hr0 hn hs hk hR hK
 have hbx := ju_ w (.cells #[.int .i64 id, .int .i64 m, .int .i64 u, .int .i64 b, .int .i64 c, .int .i64 z, .int .i64 s, .int .i64 me, .int .i64 o, .int .i64 a, .int .i64 l, .slice A0 n c0] 27)
 have HB0 := hid (jg_ (Below.refl _ w) (.cells #[.int .i64 id, .int .i64 m, .int .i64 u, .int .i64 b, .int .i64 c, .int .i64 z, .int .i64 s, .int .i64 me, .int .i64 o, .int .i64 a, .int .i64 l, .slice A0 n c0] 27))
 obtain ⟨x0, x1, x2, x3, x4, x5, x6, x7, x8, x9, x10, x11⟩ := cz12 hbx
 have HBX := hid hbx; clear hbx
 by_cases k0 : K = 0
 ·
  subst k0
  have hsz := HS.out rfl
  obtain ⟨⟨s0, s1⟩, hsz⟩ := hsz
  obtain ⟨Z, hZ⟩ : ∃ Z, Z = kg_ m u b c z s me o a l := ⟨_, rfl⟩
  rw [<- hZ] at s0 s1 hsz
  have HZ := hid hZ; have HSZ := hid hsz; clear hZ hsz HS
  by_cases c1 : (n : Int) = z
  ·
   have cb : ((n : Int) != z) = false := bne_eq_false_iff_eq.mpr c1
   have hr : R = !(L.any (fun x => !rzP Z x)) := by rw [HRR.out, decide_eq_true rfl, decide_eq_true (by rw [<- Hn.out]; exact c1), <- HZ.out, List.all_eq_not_any_not]; rfl
   have hct : ∀ (B : Nat) (W : World), W.heap[B]? = some (.cells #[.int .i64 Z] 3 (0, 0)) -> Kd.C k59 W A0 L.length L -> Calls Try.prog 69 #[.slice A0 n c0, .func (.func 70) #[] #[.pointer (some ⟨B, 0, none⟩)]] W fun e w' => e = .returned (.bool (L.any (fun x => !rzP Z x))) /\ Below W.heap.size W w' := by
    intro B W hB hC
    have := contains_any A0 c0 L Z s0 s1 B W hB hC hc0
    rw [<- Hn.out] at this
    exact this
   have HCT := hid hct; have HRV := hid hr; clear hct hr c1
   generalize L.any (fun x => !rzP Z x) = y at HCT HRV
   go_enter Try.func21, Try.ntmps21
   go_wp2_with first
    | (go_at_call 52; refine (HK.out _).mono ?_; rintro e w1 ⟨rfl, hb1⟩; have HB1 := hid (jc_ HB0.out hb1); have HX1 := hid (jb_ HBX.out hb1); obtain ⟨y0, y1, y2, y3, y4, y5, y6, y7, y8, y9, y10, y11⟩ := cz12 HX1.out; clear hb1)
    | (go_at_call 68; refine (HSZ.out _).mono ?_; rintro e w2 ⟨rfl, hb2⟩; have HB2 := hid (jc_ HB1.out hb2); have HX2 := hid (jb_ HX1.out hb2); obtain ⟨z0, z1, z2, z3, z4, z5, z6, z7, z8, z9, z10, z11⟩ := cz12 (ja_ HX2.out (.cells #[.int .i64 Z] 3)); clear hb2)
    | (go_at_call 69; refine (HCT.out w2.heap.size _ (ju_ w2 _) (Kd.C_alloc (Kd.C_below HR.out HB2.out) _)).mono ?_; rintro e w3 ⟨rfl, hb3⟩; have HB3 := hid (jc_ (jg_ HB2.out _) hb3); clear hb3)
   go_ret
   exact ⟨by rw [HRV.out]; rfl, HB3.out⟩
  ·
   have cb : ((n : Int) != z) = true := bne_iff_ne.mpr c1
   have hr : R = false := by rw [HRR.out, decide_eq_true rfl, decide_eq_false (by rw [<- Hn.out]; exact c1)]; rfl
   subst hr
   go_enter Try.func21, Try.ntmps21
   go_wp2_with (go_at_call 52; refine (HK.out _).mono ?_; rintro e w1 ⟨rfl, hb1⟩; have HB1 := hid (jc_ HB0.out hb1); have HX1 := hid (jb_ HBX.out hb1); obtain ⟨y0, y1, y2, y3, y4, y5, y6, y7, y8, y9, y10, y11⟩ := cz12 HX1.out; clear hb1)
   go_ret
   exact ⟨rfl, HB1.out⟩
 ·
  have hr : R = false := by rw [HRR.out, decide_eq_false k0]; rfl
  have cb : (K == 0) = false := beq_eq_false_iff_ne.mpr k0
  subst hr
  go_enter Try.func21, Try.ntmps21
  go_wp2_with (go_at_call 52; refine (HK.out _).mono ?_; rintro e w1 ⟨rfl, hb1⟩; have HB1 := hid (jc_ HB0.out hb1); have HX1 := hid (jb_ HBX.out hb1); obtain ⟨y0, y1, y2, y3, y4, y5, y6, y7, y8, y9, y10, y11⟩ := cz12 HX1.out; clear hb1)
  go_ret
  exact ⟨rfl, HB1.out⟩
theorem vy_ {id m u b c z s me o a l : Int} (h : jn_ id m u b c z s me o a l = 0) : 2 <= kg_ m u b c z s me o a l /\ kg_ m u b c z s me o a l <= 3932160 := by
 obtain ⟨g, hr, hs, hd, hz⟩ := Geo.good h
 rw [hz]; have := g.Z1; have := g.Z2; have := g.R1; omega
theorem ky_ (id m u b c z s me o a l : Int) (A0 : Option Addr) (c0 : Nat) (L : List S59) (w : World) (hr0 : Kd.C k59 w A0 L.length L) (hc0 : L.length <= c0) :
  Calls Try.prog 21 #[.agg #[.int .i64 id, .int .i64 m, .int .i64 u, .int .i64 b, .int .i64 c, .int .i64 z, .int .i64 s, .int .i64 me, .int .i64 o, .int .i64 a, .int .i64 l, .slice A0 L.length c0]] w fun e w' => e = .returned (.bool (kf_ id m u b c z s me o a l L)) /\ Below w.heap.size w w' :=
 rightZ_gen id m u b c z s me o a l A0 c0 L w hr0 hc0 (fun w => zT_ id m u b c z s me o a l w) fun h => ⟨by have := vy_ h; omega, fun w => conf_Size.calls id m u b c z s me o a l _ w (Geo.size_eq id m u b c z s me o a l h)⟩
def atZ (id m u b c z s me o a l : Int) (L : List S59) (i : Int) : S59 × Int := if kf_ id m u b c z s me o a l L then (if i < 0 then (⟨0, 0, 0⟩, 2) else if (L.length : Int) <= i then (⟨0, 0, 0⟩, 2) else (jl_ L i, 0)) else (⟨0, 0, 0⟩, 1)
theorem atZ_gen (id m u b c z s me o a l : Int) (A0 : Option Addr) (c0 : Nat) (L : List S59) (i : Int) (w : World) (hr0 : Kd.C k59 w A0 L.length L) (hc0 : L.length <= c0)
  (hk : ∀ w, Kd.C k59 w A0 L.length L -> Calls Try.prog 21 #[tabV id m u b c z s me o a l (.slice A0 L.length c0)] w fun e w' => e = .returned (.bool (kf_ id m u b c z s me o a l L)) /\ Below w.heap.size w w') :
  Calls Try.prog 101 #[tabV id m u b c z s me o a l (.slice A0 L.length c0), .int .i64 i] w fun e w' => e = .returned (.tuple #[zoV (atZ id m u b c z s me o a l L i).1, .int .i64 (atZ id m u b c z s me o a l L i).2]) /\ Below w.heap.size w w' := by
 obtain ⟨n, hn⟩ : ∃ n, n = L.length := ⟨_, rfl⟩
 obtain ⟨V, hV⟩ : ∃ V, V = atZ id m u b c z s me o a l L i := ⟨_, rfl⟩
 rw [<- hV]; unfold atZ at hV
 generalize kf_ id m u b c z s me o a l L = R at hk hV
 have HR := hid hr0
 rw [<- hn] at hk hc0 hV ⊢
 have HK := hid (fun W (h : Kd.C k59 W A0 L.length L) => hk W (hn ▸ h)); have HV := hid hV; have Hn := hid hn
 clear hr0 hk hV hn
 have H := al2 w (tabO id m u b c z s me o a l (.slice A0 n c0)) (zoO 0 0 0)
 have H0 := hid H.1; have H1 := hid H.2.1; have HB0 := hid H.2.2; clear H
 obtain ⟨x0, x1, x2, x3, x4, x5, x6, x7, x8, x9, x10, x11⟩ := cz12 H0.out
 have hge : w.heap.size <= w.heap.size + 1 := Nat.le_succ _
 cases R
 ·
  have hv : V = (⟨0, 0, 0⟩, 1) := HV.out
  subst hv
  go_enter Try.func101, Try.ntmps101
  go_wp2_with (go_at_call 21; refine (HK.out _ (Kd.C_below HR.out HB0.out)).mono ?_; rintro e w1 ⟨rfl, hb1⟩; have HB1 := hid (jc_ HB0.out hb1); have G1 := hid (jb_ H1.out hb1); have K1 := hid (jb_ H0.out hb1); obtain ⟨y0, y1, y2, y3, y4, y5, y6, y7, y8, y9, y10, y11⟩ := cz12 K1.out; obtain ⟨z0, z1, z2⟩ := cz3 G1.out; obtain ⟨f0, f1, f2⟩ := fz3 G1.out; clear hb1)
  refine bodyPost_ret (jj_ rfl _ _ (w.heap.size + 1) 59 #[.int .i64 0, .int .i64 0, .int .i64 0] (0, 0) _ rfl (put3 G1.out) Try.underlying59 rfl (by kernel_rfl)) rfl ?_
  exact ⟨rfl, bl3 HB1.out hge⟩
 ·
  by_cases i0 : i < 0
  ·
   have hv : V = (⟨0, 0, 0⟩, 2) := by have := HV.out; rw [if_pos rfl, if_pos i0] at this; exact this
   subst hv
   go_enter Try.func101, Try.ntmps101
   go_wp2_with (go_at_call 21; refine (HK.out _ (Kd.C_below HR.out HB0.out)).mono ?_; rintro e w1 ⟨rfl, hb1⟩; have HB1 := hid (jc_ HB0.out hb1); have G1 := hid (jb_ H1.out hb1); have K1 := hid (jb_ H0.out hb1); obtain ⟨y0, y1, y2, y3, y4, y5, y6, y7, y8, y9, y10, y11⟩ := cz12 K1.out; obtain ⟨z0, z1, z2⟩ := cz3 G1.out; obtain ⟨f0, f1, f2⟩ := fz3 G1.out; clear hb1)
   refine bodyPost_ret (jj_ rfl _ _ (w.heap.size + 1) 59 #[.int .i64 0, .int .i64 0, .int .i64 0] (0, 0) _ rfl (put3 G1.out) Try.underlying59 rfl (by kernel_rfl)) rfl ?_
   exact ⟨rfl, bl3 HB1.out hge⟩
  ·
   by_cases i1 : (n : Int) <= i
   ·
    have hv : V = (⟨0, 0, 0⟩, 2) := by have := HV.out; rw [if_pos rfl, if_neg i0, if_pos i1] at this; exact this
    subst hv
    go_enter Try.func101, Try.ntmps101
    go_wp2_with (go_at_call 21; refine (HK.out _ (Kd.C_below HR.out HB0.out)).mono ?_; rintro e w1 ⟨rfl, hb1⟩; have HB1 := hid (jc_ HB0.out hb1); have G1 := hid (jb_ H1.out hb1); have K1 := hid (jb_ H0.out hb1); obtain ⟨y0, y1, y2, y3, y4, y5, y6, y7, y8, y9, y10, y11⟩ := cz12 K1.out; obtain ⟨z0, z1, z2⟩ := cz3 G1.out; obtain ⟨f0, f1, f2⟩ := fz3 G1.out; clear hb1)
    refine bodyPost_ret (jj_ rfl _ _ (w.heap.size + 1) 59 #[.int .i64 0, .int .i64 0, .int .i64 0] (0, 0) _ rfl (put3 G1.out) Try.underlying59 rfl (by kernel_rfl)) rfl ?_
    exact ⟨rfl, bl3 HB1.out hge⟩
   ·
    have hv : V = (jl_ L i, 0) := by have := HV.out; rw [if_pos rfl, if_neg i0, if_neg i1] at this; exact this
    subst hv
    have j0 : 0 <= i := by omega
    have j1 : i < (n : Int) := by omega
    obtain ⟨x, hx⟩ : ∃ x, x = jl_ L i := ⟨_, rfl⟩
    rw [<- hx]; have HX := hid hx; clear hx
    go_enter Try.func101, Try.ntmps101
    go_wp2_with (go_at_call 21; refine (HK.out _ (Kd.C_below HR.out HB0.out)).mono ?_; rintro e w1 ⟨rfl, hb1⟩; have HB1 := hid (jc_ HB0.out hb1); have G1 := hid (jb_ H1.out hb1); have K1 := hid (jb_ H0.out hb1); obtain ⟨y0, y1, y2, y3, y4, y5, y6, y7, y8, y9, y10, y11⟩ := cz12 K1.out; obtain ⟨z0, z1, z2⟩ := cz3 G1.out; obtain ⟨f0, f1, f2⟩ := fz3 G1.out; clear hb1; obtain ⟨ad, e, u0, u1, u2⟩ := kn_ (Kd.C_below HR.out HB1.out) i j0 (by rw [<- Hn.out]; exact j1); rw [<- HX.out] at u0 u1 u2; subst e)
    refine bodyPost_ret (jj_ rfl _ _ (w.heap.size + 1) 59 #[.int .i64 x.f0, .int .i64 x.f1, .int .i64 x.f2] (0, 0) _ rfl (put3 G1.out) Try.underlying59 rfl (by kernel_rfl)) rfl ?_
    exact ⟨rfl, bl3 HB1.out hge⟩
def jP_ (a o : Int) (L : List S59) (x : S59) : S59 × Int :=
 if x.f0 = 1 then (x, 0) else if x.f0 = 0 /\ a <= cntZ 1 2 L then (x, 8) else if o <= cntZ 1 1 L then (x, 7) else (⟨1, x.f1, x.f2⟩, 0)
theorem opened_any (id m u b c z s me o a l : Int) (A0 : Option Addr) (c0 : Nat) (L : List S59) (x : S59) (w : World) (hr0 : Kd.C k59 w A0 L.length L) (hc0 : L.length <= c0) :
  Calls Try.prog 102 #[tabV id m u b c z s me o a l (.slice A0 L.length c0), zoV x] w fun e w' => e = .returned (.tuple #[zoV (jP_ a o L x).1, .int .i64 (jP_ a o L x).2]) /\ Below w.heap.size w w' := by
 obtain ⟨n, hn⟩ : ∃ n, n = L.length := ⟨_, rfl⟩
 obtain ⟨V, hV⟩ : ∃ V, V = jP_ a o L x := ⟨_, rfl⟩
 rw [<- hV]; unfold jP_ at hV
 have HK := hid (fun W h => counts_any id m u b c z s me o a l A0 c0 L W h hc0)
 rw [<- hn] at HK hr0 hc0 ⊢
 generalize cntZ 1 1 L = p1 at HK hV; generalize cntZ 1 2 L = p2 at HK hV
 have HR := hid hr0; have HV := hid hV; have Hn := hid hn; clear hr0 hV hn
 obtain ⟨st, wp, gen⟩ := x
 have H := al3 w (tabO id m u b c z s me o a l (.slice A0 n c0)) (zoO st wp gen) (zoO 0 0 0)
 have H0 := hid H.1; have H1 := hid H.2.1; have H2 := hid H.2.2.1; have HB0 := hid H.2.2.2; clear H
 obtain ⟨x0, x1, x2, x3, x4, x5, x6, x7, x8, x9, x10, x11⟩ := cz12 H0.out
 have hge : w.heap.size <= w.heap.size + 1 + 1 := by omega
 have hgf : w.heap.size <= w.heap.size + 1 := by omega
 by_cases s1 : st = 1
 ·
  have hv : V = (⟨st, wp, gen⟩, 0) := by have t := HV.out; rw [if_pos s1] at t; exact t
  subst hv; subst s1
  go_enter Try.func102, Try.ntmps102
  go_wp2_with (go_at_call 18; refine (HK.out _ (Kd.C_below HR.out HB0.out)).mono ?_; rintro e w1 ⟨rfl, hb1⟩; have HB1 := hid (jc_ HB0.out hb1); have G1 := hid (jb_ H1.out hb1); have G2 := hid (jb_ H2.out hb1); have K1 := hid (jb_ H0.out hb1); obtain ⟨y0, y1, y2, y3, y4, y5, y6, y7, y8, y9, y10, y11⟩ := cz12 K1.out; obtain ⟨z0, z1, z2⟩ := cz3 G1.out; obtain ⟨f0, f1, f2⟩ := fz3 G1.out; obtain ⟨v0, v1, v2⟩ := cz3 G2.out; obtain ⟨g0, g1, g2⟩ := fz3 G2.out; clear hb1)
  refine bodyPost_ret (jj_ rfl _ _ (w.heap.size + 1 + 1) 59 #[.int .i64 1, .int .i64 wp, .int .i64 gen] (0, 0) _ rfl (put3 G2.out) Try.underlying59 rfl (by kernel_rfl)) rfl ?_
  exact ⟨rfl, bl3 HB1.out hge⟩
 ·
  have s1b : (st == 1) = false := beq_eq_false_iff_ne.mpr s1
  by_cases s0 : st = 0
  ·
   by_cases s2 : a <= p2
   ·
    have hv : V = (⟨st, wp, gen⟩, 8) := by have t := HV.out; rw [if_neg s1, if_pos ⟨s0, s2⟩] at t; exact t
    subst hv; subst s0
    go_enter Try.func102, Try.ntmps102
    go_wp2_with (go_at_call 18; refine (HK.out _ (Kd.C_below HR.out HB0.out)).mono ?_; rintro e w1 ⟨rfl, hb1⟩; have HB1 := hid (jc_ HB0.out hb1); have G1 := hid (jb_ H1.out hb1); have G2 := hid (jb_ H2.out hb1); have K1 := hid (jb_ H0.out hb1); obtain ⟨y0, y1, y2, y3, y4, y5, y6, y7, y8, y9, y10, y11⟩ := cz12 K1.out; obtain ⟨z0, z1, z2⟩ := cz3 G1.out; obtain ⟨f0, f1, f2⟩ := fz3 G1.out; obtain ⟨v0, v1, v2⟩ := cz3 G2.out; obtain ⟨g0, g1, g2⟩ := fz3 G2.out; clear hb1)
    refine bodyPost_ret (jj_ rfl _ _ (w.heap.size + 1 + 1) 59 #[.int .i64 0, .int .i64 wp, .int .i64 gen] (0, 0) _ rfl (put3 G2.out) Try.underlying59 rfl (by kernel_rfl)) rfl ?_
    exact ⟨rfl, bl3 HB1.out hge⟩
   ·
    have hV2 : V = (if o <= p1 then (⟨st, wp, gen⟩, 7) else (⟨1, wp, gen⟩, 0)) := by have t := HV.out; rw [if_neg s1, if_neg (fun h => s2 h.2)] at t; exact t
    have HV := hid hV2; clear hV2
    subst s0
    by_cases s3 : o <= p1
    ·
     have hv : V = (⟨0, wp, gen⟩, 7) := by have t := HV.out; rw [if_pos s3] at t; exact t
     subst hv
     go_enter Try.func102, Try.ntmps102
     go_wp2_with (go_at_call 18; refine (HK.out _ (Kd.C_below HR.out HB0.out)).mono ?_; rintro e w1 ⟨rfl, hb1⟩; have HB1 := hid (jc_ HB0.out hb1); have G1 := hid (jb_ H1.out hb1); have G2 := hid (jb_ H2.out hb1); have K1 := hid (jb_ H0.out hb1); obtain ⟨y0, y1, y2, y3, y4, y5, y6, y7, y8, y9, y10, y11⟩ := cz12 K1.out; obtain ⟨z0, z1, z2⟩ := cz3 G1.out; obtain ⟨f0, f1, f2⟩ := fz3 G1.out; obtain ⟨v0, v1, v2⟩ := cz3 G2.out; obtain ⟨g0, g1, g2⟩ := fz3 G2.out; clear hb1)
     refine bodyPost_ret (jj_ rfl _ _ (w.heap.size + 1 + 1) 59 #[.int .i64 0, .int .i64 wp, .int .i64 gen] (0, 0) _ rfl (put3 G2.out) Try.underlying59 rfl (by kernel_rfl)) rfl ?_
     exact ⟨rfl, bl3 HB1.out hge⟩
    ·
     have hv : V = (⟨1, wp, gen⟩, 0) := by have t := HV.out; rw [if_neg s3] at t; exact t
     subst hv
     go_enter Try.func102, Try.ntmps102
     go_wp2_with (go_at_call 18; refine (HK.out _ (Kd.C_below HR.out HB0.out)).mono ?_; rintro e w1 ⟨rfl, hb1⟩; have HB1 := hid (jc_ HB0.out hb1); have G1 := hid (jb_ H1.out hb1); have G2 := hid (jb_ H2.out hb1); have K1 := hid (jb_ H0.out hb1); obtain ⟨y0, y1, y2, y3, y4, y5, y6, y7, y8, y9, y10, y11⟩ := cz12 K1.out; obtain ⟨z0, z1, z2⟩ := cz3 G1.out; obtain ⟨f0, f1, f2⟩ := fz3 G1.out; obtain ⟨v0, v1, v2⟩ := cz3 G2.out; obtain ⟨g0, g1, g2⟩ := fz3 G2.out; clear hb1)
     refine bodyPost_ret (jj_ rfl _ _ (w.heap.size + 1 + 1) 59 #[.int .i64 1, .int .i64 wp, .int .i64 gen] (0, 0) _ rfl (put3 (jv_ G2.out (by omega : w.heap.size + 1 + 1 ≠ w.heap.size + 1) _)) Try.underlying59 rfl (by kernel_rfl)) rfl ?_
     exact ⟨rfl, bl3 (jx_ HB1.out hgf) hge⟩
  ·
   have s0b : (st == 0) = false := beq_eq_false_iff_ne.mpr s0
   have hV2 : V = (if o <= p1 then (⟨st, wp, gen⟩, 7) else (⟨1, wp, gen⟩, 0)) := by have t := HV.out; rw [if_neg s1, if_neg (fun h => s0 h.1)] at t; exact t
   have HV := hid hV2; clear hV2
   by_cases s3 : o <= p1
   ·
    have hv : V = (⟨st, wp, gen⟩, 7) := by have t := HV.out; rw [if_pos s3] at t; exact t
    subst hv
    go_enter Try.func102, Try.ntmps102
    go_wp2_with (go_at_call 18; refine (HK.out _ (Kd.C_below HR.out HB0.out)).mono ?_; rintro e w1 ⟨rfl, hb1⟩; have HB1 := hid (jc_ HB0.out hb1); have G1 := hid (jb_ H1.out hb1); have G2 := hid (jb_ H2.out hb1); have K1 := hid (jb_ H0.out hb1); obtain ⟨y0, y1, y2, y3, y4, y5, y6, y7, y8, y9, y10, y11⟩ := cz12 K1.out; obtain ⟨z0, z1, z2⟩ := cz3 G1.out; obtain ⟨f0, f1, f2⟩ := fz3 G1.out; obtain ⟨v0, v1, v2⟩ := cz3 G2.out; obtain ⟨g0, g1, g2⟩ := fz3 G2.out; clear hb1)
    refine bodyPost_ret (jj_ rfl _ _ (w.heap.size + 1 + 1) 59 #[.int .i64 st, .int .i64 wp, .int .i64 gen] (0, 0) _ rfl (put3 G2.out) Try.underlying59 rfl (by kernel_rfl)) rfl ?_
    exact ⟨rfl, bl3 HB1.out hge⟩
   ·
    have hv : V = (⟨1, wp, gen⟩, 0) := by have t := HV.out; rw [if_neg s3] at t; exact t
    subst hv
    go_enter Try.func102, Try.ntmps102
    go_wp2_with (go_at_call 18; refine (HK.out _ (Kd.C_below HR.out HB0.out)).mono ?_; rintro e w1 ⟨rfl, hb1⟩; have HB1 := hid (jc_ HB0.out hb1); have G1 := hid (jb_ H1.out hb1); have G2 := hid (jb_ H2.out hb1); have K1 := hid (jb_ H0.out hb1); obtain ⟨y0, y1, y2, y3, y4, y5, y6, y7, y8, y9, y10, y11⟩ := cz12 K1.out; obtain ⟨z0, z1, z2⟩ := cz3 G1.out; obtain ⟨f0, f1, f2⟩ := fz3 G1.out; obtain ⟨v0, v1, v2⟩ := cz3 G2.out; obtain ⟨g0, g1, g2⟩ := fz3 G2.out; clear hb1)
    refine bodyPost_ret (jj_ rfl _ _ (w.heap.size + 1 + 1) 59 #[.int .i64 1, .int .i64 wp, .int .i64 gen] (0, 0) _ rfl (put3 (jv_ G2.out (by omega : w.heap.size + 1 + 1 ≠ w.heap.size + 1) _)) Try.underlying59 rfl (by kernel_rfl)) rfl ?_
    exact ⟨rfl, bl3 (jx_ HB1.out hgf) hge⟩
theorem rested_any (x : S59) (w : World) :
  Calls Try.prog 104 #[zoV x] w fun e w' => e = .returned (.int .i64 (if x.f1 = 0 then 0 else 2)) /\ Below w.heap.size w w' := by
 obtain ⟨st, wp, gen⟩ := x
 have H := al1 w (zoO st wp gen)
 obtain ⟨x0, x1, x2⟩ := cz3 H.1
 by_cases h : wp = 0
 ·
  rw [if_pos h]; subst h
  go_enter Try.func104, Try.ntmps104
  go_wp2
  go_ret
  exact ⟨rfl, H.2⟩
 ·
  have hb : (wp == 0) = false := beq_eq_false_iff_ne.mpr h
  rw [if_neg h]
  go_enter Try.func104, Try.ntmps104
  go_wp2
  go_ret
  exact ⟨rfl, H.2⟩
theorem kx_ (id m u b c z s me o a l : Int) (A0 : Option Addr) (c0 : Nat) (L : List S59) (i : Int) (x : S59) (w : World) (hr0 : Kd.C k59 w A0 L.length L) (hc0 : L.length <= c0) (hl : L.length < 1000000000) (i0 : 0 <= i) (i1 : i < (L.length : Int)) :
  Calls Try.prog 103 #[tabV id m u b c z s me o a l (.slice A0 L.length c0), .int .i64 i, zoV x] w fun e w' => ∃ v : Value, e = .returned (tabV id m u b c z s me o a l v) /\ Kd.R k59 59 w' w.heap.size (fun _ => True) v (L.set i.toNat x) /\ Below w.heap.size w w' := by
 have HK := hid (fun W h => cloneZ_any A0 c0 L W h hc0 hl)
 have hpos : 0 < L.length := by omega
 obtain ⟨n, hn⟩ : ∃ n, n = L.length := ⟨_, rfl⟩
 have hf := fun (base : Nat) (ok : Nat -> Prop) (W : World) (v : Value) (h : Kd.R k59 59 W base ok v L) => Kd.R_form h hpos
 rw [<- hn] at HK hr0 hc0 hl i1 hf ⊢
 have HR := hid hr0; have HF := hid hf; have Hn := hid hn; clear hr0 hn hf
 obtain ⟨st, wp, gen⟩ := x
 have hsz := sz3 w (tabO id m u b c z s me o a l (.slice A0 n c0)) (zoO st wp gen) (tabO 0 0 0 0 0 0 0 0 0 0 0 (.slice none 0 0))
 have H := al3 w (tabO id m u b c z s me o a l (.slice A0 n c0)) (zoO st wp gen) (tabO 0 0 0 0 0 0 0 0 0 0 0 (.slice none 0 0))
 have H0 := hid H.1; have H1 := hid H.2.1; have H2 := hid H.2.2.1; have HB0 := hid H.2.2.2; have HSZ := hid hsz; clear H hsz
 obtain ⟨x0, x1, x2, x3, x4, x5, x6, x7, x8, x9, x10, x11⟩ := cz12 H0.out
 have hge : w.heap.size <= w.heap.size + 1 + 1 := by omega
 have hgf : w.heap.size <= w.heap.size + 1 := by omega
 go_enter Try.func103, Try.ntmps103
 go_wp2_with (go_at_call 84; refine (HK.out _ (Kd.C_below HR.out HB0.out)).mono ?_; rintro e w1 ⟨v, rfl, hR, hb1⟩; obtain ⟨g, cp, rfl, hgb, hgl, -⟩ := HF.out _ _ _ _ hR; rw [HSZ.out] at hgb; have HB1 := hid (jc_ HB0.out hb1); have K1 := hid (jb_ H0.out hb1); have G1 := hid (jb_ H1.out hb1); have G2 := hid (jb_ H2.out hb1); clear hb1; have n0 : g ≠ w.heap.size := (by omega); have n0' : w.heap.size ≠ g := (by omega); have n1 : g ≠ w.heap.size + 1 := (by omega); have n1' : w.heap.size + 1 ≠ g := (by omega); have n2 : g ≠ w.heap.size + 1 + 1 := (by omega); have n2' : w.heap.size + 1 + 1 ≠ g := (by omega); obtain ⟨y0, y1, y2, y3, y4, y5, y6, y7, y8, y9, y10, y11⟩ := cz12 K1.out; obtain ⟨yf0, yf1, yf2, yf3, yf4, yf5, yf6, yf7, yf8, yf9, yf10, yf11⟩ := fz12 K1.out; obtain ⟨u0, u1, u2⟩ := cz3 G1.out; obtain ⟨v0, v1, v2, v3, v4, v5, v6, v7, v8, v9, v10, v11⟩ := cz12 G2.out; obtain ⟨vf0, vf1, vf2, vf3, vf4, vf5, vf6, vf7, vf8, vf9, vf10, vf11⟩ := fz12 G2.out; have hR2 := Kd.R_set hR K1.out (by decide) 11 (.slice (some ⟨g, 0, none⟩) n cp); obtain ⟨⟨e0, e1, e2⟩, ⟨ef0, ef1, ef2⟩, hR3⟩ := R_zone hR2 i i0 i1; have HR3 := hid hR3; clear hR hR2 hR3)
 have F2 := fun (u0 u1 u2 : Value) => far_zone (i := i.toNat * 3) (u0 := u0) (u1 := u1) (u2 := u2) (jv_ G2.out (by omega : w.heap.size + 1 + 1 ≠ w.heap.size) (p := ⟨w.heap.size, 11, none⟩) (.slice (some ⟨g, 0, none⟩) n cp)) n2'
 refine bodyPost_ret (results_cell_row rfl _ _ (w.heap.size + 1 + 1) 27 #[.int .i64 id, .int .i64 m, .int .i64 u, .int .i64 b, .int .i64 c, .int .i64 z, .int .i64 s, .int .i64 me, .int .i64 o, .int .i64 a, .int .i64 l, .slice (some ⟨g, 0, none⟩) n cp] (0, 0) _ rfl (ko_ (F2 _ _ _)) Try.underlying27 rfl (by kernel_rfl)) rfl ?_
 refine ⟨_, rfl, ?_, bl12 (bl_zone (jx_ HB1.out (Nat.le_refl _)) (by omega)) hge⟩
 exact Kd.R_lower (R12 (Kd.R_mono (HR3.out ⟨st, wp, gen⟩) (fun _ _ => trivial)) (F2 _ _ _) (by decide)) (by rw [HSZ.out]; omega)
def TabR (id m u b c z s me o a l : Int) (r : Option (List S59)) (base : Nat) (W : World) (v : Value) : Prop :=
 (r = none /\ v = tabV 0 0 0 0 0 0 0 0 0 0 0 (.slice none 0 0)) \/ ∃ (L : List S59) (y : Value), r = some L /\ v = tabV id m u b c z s me o a l y /\ Kd.R k59 59 W base (fun _ => True) y L
theorem yX_ (id m u b c z s me o a l : Int) (A0 : Option Addr) (c0 : Nat) (L : List S59) (i : Int) (w : World) (hr0 : Kd.C k59 w A0 L.length L) (hc0 : L.length <= c0) :
  Calls Try.prog 101 #[tabV id m u b c z s me o a l (.slice A0 L.length c0), .int .i64 i] w fun e w' => e = .returned (.tuple #[zoV (atZ id m u b c z s me o a l L i).1, .int .i64 (atZ id m u b c z s me o a l L i).2]) /\ Below w.heap.size w w' :=
 atZ_gen id m u b c z s me o a l A0 c0 L i w hr0 hc0 fun W h => ky_ id m u b c z s me o a l A0 c0 L W h hc0
theorem ka_ {id m u b c z s me o a l : Int} {L : List S59} (h : kf_ id m u b c z s me o a l L = true) : jn_ id m u b c z s me o a l = 0 /\ (L.length : Int) = z /\ L.length <= 64 /\ L.all (rzP (kg_ m u b c z s me o a l)) = true := by
 simp only [kf_, Bool.and_eq_true, decide_eq_true_eq] at h
 have := kB_ (kM_ h.1).1
 exact ⟨h.1, h.2.1, by omega, h.2.2⟩
theorem vc_ {id m u b c z s me o a l : Int} {L : List S59} {i : Int} (h : (atZ id m u b c z s me o a l L i).2 = 0) : 0 <= i /\ i < (L.length : Int) /\ L.length <= 64 /\ (atZ id m u b c z s me o a l L i).1 = jl_ L i /\ kf_ id m u b c z s me o a l L = true := by
 unfold atZ at h ⊢
 by_cases h0 : kf_ id m u b c z s me o a l L = true
 ·
  rw [if_pos h0] at h ⊢
  by_cases h1 : i < 0
  · rw [if_pos h1] at h; exact absurd h (by decide)
  ·
   rw [if_neg h1] at h ⊢
   by_cases h2 : (L.length : Int) <= i
   · rw [if_pos h2] at h; exact absurd h (by decide)
   · rw [if_neg h2]; have := ka_ h0; exact ⟨by omega, by omega, this.2.2.1, rfl, h0⟩
 · rw [if_neg h0] at h; exact absurd h (by decide)
end Go.Proofs.Ytgckcaoncjhgbaa
