/- lzone: Read, Write. -/
import Derived.Test.YtgckcaoncjhgbaaFLa
set_option maxHeartbeats 4000000
set_option maxRecDepth 100000
open Go.Lib (hid)
namespace Go.Proofs.Ytgckcaoncjhgbaa
open Go.RowKit Go.Proofs.Ytgckcaoncjhgbaa.PL Go.Proofs.YtgckcaoncjhgbaaW.PrintWords Go.Proofs.YtgckcaoncjhgbaaW.PrintLast
set_option linter.unusedVariables false
set_option linter.unusedSimpArgs false
def xo_ (id m u b c z s me o a l : Int) (L : List S59) (i p k : Int) : Int := if (atZ id m u b c z s me o a l L i).2 ≠ 0 then (atZ id m u b c z s me o a l L i).2 else if k < 1 then 3 else if p < 0 then 4 else if (atZ id m u b c z s me o a l L i).1.f1 < p then 4 else if wrap64 ((atZ id m u b c z s me o a l L i).1.f1 - p) < k then 4 else 0
theorem read_any (id m u b c z s me o a l : Int) (A0 : Option Addr) (c0 : Nat) (L : List S59) (i p k : Int) (w : World) (hr0 : Kd.C k59 w A0 L.length L) (hc0 : L.length <= c0) :
  Calls Try.prog 57 #[tabV id m u b c z s me o a l (.slice A0 L.length c0), .int .i64 i, .int .i64 p, .int .i64 k] w fun e w' => e = .returned (.int .i64 (xo_ id m u b c z s me o a l L i p k)) /\ Below w.heap.size w w' := by
 obtain ⟨n, hn⟩ : ∃ n, n = L.length := ⟨_, rfl⟩
 obtain ⟨V, hV⟩ : ∃ V, V = xo_ id m u b c z s me o a l L i p k := ⟨_, rfl⟩
 rw [<- hV]; unfold xo_ at hV
 have hA := fun W h => yX_ id m u b c z s me o a l A0 c0 L i W h hc0
 have hok := @vc_ id m u b c z s me o a l L i
 generalize atZ id m u b c z s me o a l L i = q at hA hok hV
 obtain ⟨⟨st, wp, gen⟩, e0⟩ := q
 dsimp only at hA hok hV
 by_cases he : e0 = 0
 ·
  by_cases h2 : k < 1
  ·
   have hv : V = 3 := by rw [hV, if_neg (by simp [he]), if_pos h2]
   subst hv; subst he
   clear hok
   rw [<- hn] at hA hr0 hc0 ⊢
   have HR := hid hr0; have HA := hid hA; have HV := hid hV; have Hn := hid hn; clear hr0 hA hV hn
   have H := al1 w (tabO id m u b c z s me o a l (.slice A0 n c0))
   have H0 := hid H.1; have HB0 := hid H.2; clear H
   obtain ⟨t0, t1, t2, t3, t4, t5, t6, t7, t8, t9, t10, t11⟩ := cz12 H0.out
   go_enter Try.func57, Try.ntmps57
   go_wp2_with first
    | (go_at_call 101; refine (HA.out _ (Kd.C_below HR.out HB0.out)).mono ?_; rintro e w1 ⟨rfl, hb1⟩; have HB1 := hid (jc_ HB0.out hb1); clear hb1; have X1 := hid (ju_ w1 (zoO st wp gen)); have HB2 := hid (jg_ HB1.out (zoO st wp gen)); obtain ⟨r0, r1, r2⟩ := cz3 X1.out; obtain ⟨rf0, rf1, rf2⟩ := fz3 X1.out)
   go_ret
   exact ⟨rfl, HB2.out⟩
  ·
   by_cases h4 : p < 0
   ·
    have hv : V = 4 := by rw [hV, if_neg (by simp [he]), if_neg h2, if_pos h4]
    subst hv; subst he
    clear hok
    rw [<- hn] at hA hr0 hc0 ⊢
    have HR := hid hr0; have HA := hid hA; have HV := hid hV; have Hn := hid hn; clear hr0 hA hV hn
    have H := al1 w (tabO id m u b c z s me o a l (.slice A0 n c0))
    have H0 := hid H.1; have HB0 := hid H.2; clear H
    obtain ⟨t0, t1, t2, t3, t4, t5, t6, t7, t8, t9, t10, t11⟩ := cz12 H0.out
    go_enter Try.func57, Try.ntmps57
    go_wp2_with first
     | (go_at_call 101; refine (HA.out _ (Kd.C_below HR.out HB0.out)).mono ?_; rintro e w1 ⟨rfl, hb1⟩; have HB1 := hid (jc_ HB0.out hb1); clear hb1; have X1 := hid (ju_ w1 (zoO st wp gen)); have HB2 := hid (jg_ HB1.out (zoO st wp gen)); obtain ⟨r0, r1, r2⟩ := cz3 X1.out; obtain ⟨rf0, rf1, rf2⟩ := fz3 X1.out)
    go_ret
    exact ⟨rfl, HB2.out⟩
   ·
    by_cases h6 : wp < p
    ·
     have hv : V = 4 := by rw [hV, if_neg (by simp [he]), if_neg h2, if_neg h4, if_pos h6]
     subst hv; subst he
     clear hok
     rw [<- hn] at hA hr0 hc0 ⊢
     have HR := hid hr0; have HA := hid hA; have HV := hid hV; have Hn := hid hn; clear hr0 hA hV hn
     have H := al1 w (tabO id m u b c z s me o a l (.slice A0 n c0))
     have H0 := hid H.1; have HB0 := hid H.2; clear H
     obtain ⟨t0, t1, t2, t3, t4, t5, t6, t7, t8, t9, t10, t11⟩ := cz12 H0.out
     go_enter Try.func57, Try.ntmps57
     go_wp2_with first
      | (go_at_call 101; refine (HA.out _ (Kd.C_below HR.out HB0.out)).mono ?_; rintro e w1 ⟨rfl, hb1⟩; have HB1 := hid (jc_ HB0.out hb1); clear hb1; have X1 := hid (ju_ w1 (zoO st wp gen)); have HB2 := hid (jg_ HB1.out (zoO st wp gen)); obtain ⟨r0, r1, r2⟩ := cz3 X1.out; obtain ⟨rf0, rf1, rf2⟩ := fz3 X1.out)
     go_ret
     exact ⟨rfl, HB2.out⟩
    ·
     by_cases h8 : wrap64 (wp - p) < k
     ·
      have hv : V = 4 := by rw [hV, if_neg (by simp [he]), if_neg h2, if_neg h4, if_neg h6, if_pos h8]
      subst hv; subst he
      clear hok
      rw [<- hn] at hA hr0 hc0 ⊢
      have HR := hid hr0; have HA := hid hA; have HV := hid hV; have Hn := hid hn; clear hr0 hA hV hn
      have H := al1 w (tabO id m u b c z s me o a l (.slice A0 n c0))
      have H0 := hid H.1; have HB0 := hid H.2; clear H
      obtain ⟨t0, t1, t2, t3, t4, t5, t6, t7, t8, t9, t10, t11⟩ := cz12 H0.out
      go_enter Try.func57, Try.ntmps57
      go_wp2_with first
       | (go_at_call 101; refine (HA.out _ (Kd.C_below HR.out HB0.out)).mono ?_; rintro e w1 ⟨rfl, hb1⟩; have HB1 := hid (jc_ HB0.out hb1); clear hb1; have X1 := hid (ju_ w1 (zoO st wp gen)); have HB2 := hid (jg_ HB1.out (zoO st wp gen)); obtain ⟨r0, r1, r2⟩ := cz3 X1.out; obtain ⟨rf0, rf1, rf2⟩ := fz3 X1.out)
      go_ret
      exact ⟨rfl, HB2.out⟩
     ·
      have hv : V = 0 := by rw [hV, if_neg (by simp [he]), if_neg h2, if_neg h4, if_neg h6, if_neg h8]
      subst hv; subst he
      clear hok
      rw [<- hn] at hA hr0 hc0 ⊢
      have HR := hid hr0; have HA := hid hA; have HV := hid hV; have Hn := hid hn; clear hr0 hA hV hn
      have H := al1 w (tabO id m u b c z s me o a l (.slice A0 n c0))
      have H0 := hid H.1; have HB0 := hid H.2; clear H
      obtain ⟨t0, t1, t2, t3, t4, t5, t6, t7, t8, t9, t10, t11⟩ := cz12 H0.out
      go_enter Try.func57, Try.ntmps57
      go_wp2_with first
       | (go_at_call 101; refine (HA.out _ (Kd.C_below HR.out HB0.out)).mono ?_; rintro e w1 ⟨rfl, hb1⟩; have HB1 := hid (jc_ HB0.out hb1); clear hb1; have X1 := hid (ju_ w1 (zoO st wp gen)); have HB2 := hid (jg_ HB1.out (zoO st wp gen)); obtain ⟨r0, r1, r2⟩ := cz3 X1.out; obtain ⟨rf0, rf1, rf2⟩ := fz3 X1.out)
      go_ret
      exact ⟨rfl, HB2.out⟩
 ·
  have hv : V = e0 := by rw [hV, if_pos he]
  subst hv
  have eb : (V == 0) = false := beq_eq_false_iff_ne.mpr he
  clear hok
  rw [<- hn] at hA hr0 hc0 ⊢
  have HR := hid hr0; have HA := hid hA; have HV := hid hV; have Hn := hid hn; clear hr0 hA hV hn
  have H := al1 w (tabO id m u b c z s me o a l (.slice A0 n c0))
  have H0 := hid H.1; have HB0 := hid H.2; clear H
  obtain ⟨t0, t1, t2, t3, t4, t5, t6, t7, t8, t9, t10, t11⟩ := cz12 H0.out
  go_enter Try.func57, Try.ntmps57
  go_wp2_with first
   | (go_at_call 101; refine (HA.out _ (Kd.C_below HR.out HB0.out)).mono ?_; rintro e w1 ⟨rfl, hb1⟩; have HB1 := hid (jc_ HB0.out hb1); clear hb1; have X1 := hid (ju_ w1 (zoO st wp gen)); have HB2 := hid (jg_ HB1.out (zoO st wp gen)); obtain ⟨r0, r1, r2⟩ := cz3 X1.out; obtain ⟨rf0, rf1, rf2⟩ := fz3 X1.out)
  go_ret
  exact ⟨rfl, HB2.out⟩
abbrev tcS (g x : Nat) (id m u b c z s me o a l : Int) (v : Value) (st wp gen : Int) (W : World) : Prop := W.cell? ⟨g, 0, none⟩ = some (.int .i64 id) /\ W.cell? ⟨g, 1, none⟩ = some (.int .i64 m) /\ W.cell? ⟨g, 2, none⟩ = some (.int .i64 u) /\ W.cell? ⟨g, 3, none⟩ = some (.int .i64 b) /\ W.cell? ⟨g, 4, none⟩ = some (.int .i64 c) /\ W.cell? ⟨g, 5, none⟩ = some (.int .i64 z) /\ W.cell? ⟨g, 6, none⟩ = some (.int .i64 s) /\ W.cell? ⟨g, 7, none⟩ = some (.int .i64 me) /\ W.cell? ⟨g, 8, none⟩ = some (.int .i64 o) /\ W.cell? ⟨g, 9, none⟩ = some (.int .i64 a) /\ W.cell? ⟨g, 10, none⟩ = some (.int .i64 l) /\ W.cell? ⟨g, 11, none⟩ = some v /\ W.cell? ⟨x, 0, none⟩ = some (.int .i64 st) /\ W.cell? ⟨x, 1, none⟩ = some (.int .i64 wp) /\ W.cell? ⟨x, 2, none⟩ = some (.int .i64 gen)
theorem xH_ {g x : Nat} {id m u b c z s me o a l : Int} {v : Value} {st wp gen : Int} {W : World} (h : W.heap[g]? = some (tabO id m u b c z s me o a l v)) (k : W.heap[x]? = some (zoO st wp gen)) : tcS g x id m u b c z s me o a l v st wp gen W :=
 ⟨(je_ h 0).trans rfl, (je_ h 1).trans rfl, (je_ h 2).trans rfl, (je_ h 3).trans rfl, (je_ h 4).trans rfl, (je_ h 5).trans rfl, (je_ h 6).trans rfl, (je_ h 7).trans rfl, (je_ h 8).trans rfl, (je_ h 9).trans rfl, (je_ h 10).trans rfl, (je_ h 11).trans rfl, (je_ k 0).trans rfl, (je_ k 1).trans rfl, (je_ k 2).trans rfl⟩
def T22_10 : Bool × List (List Nat × List Nat) := (true, [([], []), ([], []), ([1], [1]), ([2], [2]), ([], []), ([4], [4]), ([3, 5], [3, 5]), ([0, 6], [0, 6]), ([7, 3], [7])])
theorem zq_ : rtab .any (kT_ Try.f56 10) = T22_10 := by kernel_rfl
theorem yE_ : jO_ T22_10.2 [0, 0, 2, 6, 0, 16, 62, 127, 255] = true := by kernel_rfl
def T22_16 : Bool × List (List Nat × List Nat) := (true, [([], []), ([0], [0]), ([], []), ([2], [2]), ([3], [3]), ([1, 4], [1, 4])])
theorem tab22_16 : rtab .any (kT_ Try.f56 16) = T22_16 := by kernel_rfl
theorem bits22_16 : jO_ T22_16.2 [0, 1, 0, 4, 12, 31] = true := by kernel_rfl
def ke_ (id m u b c z s me o a l : Int) (L : List S59) (i p k : Int) : Option (List S59) × Int := if (atZ id m u b c z s me o a l L i).2 ≠ 0 then (none, (atZ id m u b c z s me o a l L i).2) else if k < 1 then (none, 3) else if (atZ id m u b c z s me o a l L i).1.f0 = 3 then (none, 6) else if p ≠ (atZ id m u b c z s me o a l L i).1.f1 then (none, 5) else
 if wrap64 (kg_ m u b c z s me o a l - (atZ id m u b c z s me o a l L i).1.f1) < k then (none, 4) else if (jP_ a o L (atZ id m u b c z s me o a l L i).1).2 ≠ 0 then (none, (jP_ a o L (atZ id m u b c z s me o a l L i).1).2) else
 (some (L.set i.toNat ⟨if wrap64 ((jP_ a o L (atZ id m u b c z s me o a l L i).1).1.f1 + k) = kg_ m u b c z s me o a l then 3 else (jP_ a o L (atZ id m u b c z s me o a l L i).1).1.f0, wrap64 ((jP_ a o L (atZ id m u b c z s me o a l L i).1).1.f1 + k), (jP_ a o L (atZ id m u b c z s me o a l L i).1).1.f2⟩), 0)
theorem xJ_ (id m u b c z s me o a l : Int) (A0 : Option Addr) (c0 : Nat) (L : List S59) (i p k : Int) (w : World) (hr0 : Kd.C k59 w A0 L.length L) (hc0 : L.length <= c0) :
  Calls Try.prog 56 #[tabV id m u b c z s me o a l (.slice A0 L.length c0), .int .i64 i, .int .i64 p, .int .i64 k] w fun e w' => ∃ v, e = .returned (.tuple #[v, .int .i64 (ke_ id m u b c z s me o a l L i p k).2]) /\ TabR id m u b c z s me o a l (ke_ id m u b c z s me o a l L i p k).1 w.heap.size w' v /\ Below w.heap.size w w' := by
 obtain ⟨n, hn⟩ : ∃ n, n = L.length := ⟨_, rfl⟩
 obtain ⟨V, hV⟩ : ∃ V, V = ke_ id m u b c z s me o a l L i p k := ⟨_, rfl⟩
 rw [<- hV]; unfold ke_ at hV
 have hA := fun W h => yX_ id m u b c z s me o a l A0 c0 L i W h hc0
 have hok := @vc_ id m u b c z s me o a l L i
 generalize atZ id m u b c z s me o a l L i = q at hA hok hV
 obtain ⟨⟨st, wp, gen⟩, e0⟩ := q
 dsimp only at hA hok hV
 by_cases he : e0 = 0
 ·
  subst he
  have hsz := fun W => conf_Size.calls id m u b c z s me o a l _ W (Geo.size_eq id m u b c z s me o a l (ka_ (hok rfl).2.2.2.2).1)
  generalize kg_ m u b c z s me o a l = Z at hsz hV
  have HSZ := hid hsz; clear hsz
  by_cases h2 : k < 1
  ·
   have hv : V = (none, 3) := by rw [hV, if_neg (by simp), if_pos h2]
   subst hv
   obtain ⟨hi0, hi1, hl, hz, hrt⟩ := hok rfl
   have hW := fun x W h => kx_ id m u b c z s me o a l A0 c0 L i x W h hc0 (by omega) hi0 hi1
   rw [<- hn] at hW
   have HW := hid hW; clear hW hok hi0 hi1 hl hz hrt
   rw [<- hn] at hA hr0 hc0 ⊢
   have HR := hid hr0; have HA := hid hA; have HV := hid hV; have Hn := hid hn; clear hr0 hA hV hn
   have H := al2 w (tabO id m u b c z s me o a l (.slice A0 n c0)) (tabO 0 0 0 0 0 0 0 0 0 0 0 (.slice none 0 0))
   have H0 := hid H.1; have H1 := hid H.2.1; have HB0 := hid H.2.2; clear H
   obtain ⟨t0, t1, t2, t3, t4, t5, t6, t7, t8, t9, t10, t11⟩ := cz12 H0.out
   have hge : w.heap.size <= w.heap.size + 1 := by omega
   go_enter Try.func56, Try.ntmps56
   go_wp2_with first
    | (go_at_call 101; refine (HA.out _ (Kd.C_below HR.out HB0.out)).mono ?_; rintro e w1 ⟨rfl, hb1⟩; have hs := hb1.size; rw [sz2] at hs; have HB1 := hid (jc_ HB0.out hb1); have K1 := hid (jb_ H0.out hb1); have G1 := hid (jb_ H1.out hb1); clear hb1; have q0 : w1.heap.size ≠ w.heap.size := (by omega); have q0p : w.heap.size ≠ w1.heap.size := (by omega); have q1 : w1.heap.size ≠ w.heap.size + 1 := (by omega); have q1p : w.heap.size + 1 ≠ w1.heap.size := (by omega); have Xa := hid (ju_ w1 (zoO st wp gen)); have Ka := hid (ja_ K1.out (zoO st wp gen)); have Ga := hid (ja_ G1.out (zoO st wp gen)); have HBa := hid (jg_ HB1.out (zoO st wp gen)); obtain ⟨xa0, xa1, xa2, xa3, xa4, xa5, xa6, xa7, xa8, xa9, xa10, xa11⟩ := cz12 Ka.out; obtain ⟨ya0, ya1, ya2, ya3, ya4, ya5, ya6, ya7, ya8, ya9, ya10, ya11⟩ := cz12 Ga.out; obtain ⟨yfa0, yfa1, yfa2, yfa3, yfa4, yfa5, yfa6, yfa7, yfa8, yfa9, yfa10, yfa11⟩ := fz12 Ga.out; obtain ⟨ra0, ra1, ra2⟩ := cz3 Xa.out; obtain ⟨rfa0, rfa1, rfa2⟩ := fz3 Xa.out)
   refine bodyPost_ret (jj_ rfl _ _ (w.heap.size + 1) 27 #[.int .i64 0, .int .i64 0, .int .i64 0, .int .i64 0, .int .i64 0, .int .i64 0, .int .i64 0, .int .i64 0, .int .i64 0, .int .i64 0, .int .i64 0, .slice none 0 0] (0, 0) _ rfl (ko_ Ga.out) Try.underlying27 rfl (by kernel_rfl)) rfl ?_
   exact ⟨_, rfl, .inl ⟨rfl, rfl⟩, bl12 HBa.out hge⟩
  ·
   skip
   by_cases h4 : st = 3
   ·
    have hv : V = (none, 6) := by rw [hV, if_neg (by simp), if_neg h2, if_pos h4]
    subst hv
    subst h4
    obtain ⟨hi0, hi1, hl, hz, hrt⟩ := hok rfl
    have hW := fun x W h => kx_ id m u b c z s me o a l A0 c0 L i x W h hc0 (by omega) hi0 hi1
    rw [<- hn] at hW
    have HW := hid hW; clear hW hok hi0 hi1 hl hz hrt
    rw [<- hn] at hA hr0 hc0 ⊢
    have HR := hid hr0; have HA := hid hA; have HV := hid hV; have Hn := hid hn; clear hr0 hA hV hn
    have H := al2 w (tabO id m u b c z s me o a l (.slice A0 n c0)) (tabO 0 0 0 0 0 0 0 0 0 0 0 (.slice none 0 0))
    have H0 := hid H.1; have H1 := hid H.2.1; have HB0 := hid H.2.2; clear H
    obtain ⟨t0, t1, t2, t3, t4, t5, t6, t7, t8, t9, t10, t11⟩ := cz12 H0.out
    have hge : w.heap.size <= w.heap.size + 1 := by omega
    go_enter Try.func56, Try.ntmps56
    go_wp2_with first
     | (go_at_call 101; refine (HA.out _ (Kd.C_below HR.out HB0.out)).mono ?_; rintro e w1 ⟨rfl, hb1⟩; have hs := hb1.size; rw [sz2] at hs; have HB1 := hid (jc_ HB0.out hb1); have K1 := hid (jb_ H0.out hb1); have G1 := hid (jb_ H1.out hb1); clear hb1; have q0 : w1.heap.size ≠ w.heap.size := (by omega); have q0p : w.heap.size ≠ w1.heap.size := (by omega); have q1 : w1.heap.size ≠ w.heap.size + 1 := (by omega); have q1p : w.heap.size + 1 ≠ w1.heap.size := (by omega); have Xa := hid (ju_ w1 (zoO 3 wp gen)); have Ka := hid (ja_ K1.out (zoO 3 wp gen)); have Ga := hid (ja_ G1.out (zoO 3 wp gen)); have HBa := hid (jg_ HB1.out (zoO 3 wp gen)); obtain ⟨xa0, xa1, xa2, xa3, xa4, xa5, xa6, xa7, xa8, xa9, xa10, xa11⟩ := cz12 Ka.out; obtain ⟨ya0, ya1, ya2, ya3, ya4, ya5, ya6, ya7, ya8, ya9, ya10, ya11⟩ := cz12 Ga.out; obtain ⟨yfa0, yfa1, yfa2, yfa3, yfa4, yfa5, yfa6, yfa7, yfa8, yfa9, yfa10, yfa11⟩ := fz12 Ga.out; obtain ⟨ra0, ra1, ra2⟩ := cz3 Xa.out; obtain ⟨rfa0, rfa1, rfa2⟩ := fz3 Xa.out)
    refine bodyPost_ret (jj_ rfl _ _ (w.heap.size + 1) 27 #[.int .i64 0, .int .i64 0, .int .i64 0, .int .i64 0, .int .i64 0, .int .i64 0, .int .i64 0, .int .i64 0, .int .i64 0, .int .i64 0, .int .i64 0, .slice none 0 0] (0, 0) _ rfl (ko_ Ga.out) Try.underlying27 rfl (by kernel_rfl)) rfl ?_
    exact ⟨_, rfl, .inl ⟨rfl, rfl⟩, bl12 HBa.out hge⟩
   ·
    have sb3 : (st == 3) = false := beq_eq_false_iff_ne.mpr h4
    by_cases h6 : ¬ p = wp
    ·
     have hv : V = (none, 5) := by rw [hV, if_neg (by simp), if_neg h2, if_neg h4, if_pos h6]
     subst hv
     have pb : (p == wp) = false := beq_eq_false_iff_ne.mpr h6
     obtain ⟨hi0, hi1, hl, hz, hrt⟩ := hok rfl
     have hW := fun x W h => kx_ id m u b c z s me o a l A0 c0 L i x W h hc0 (by omega) hi0 hi1
     rw [<- hn] at hW
     have HW := hid hW; clear hW hok hi0 hi1 hl hz hrt
     rw [<- hn] at hA hr0 hc0 ⊢
     have HR := hid hr0; have HA := hid hA; have HV := hid hV; have Hn := hid hn; clear hr0 hA hV hn
     have H := al2 w (tabO id m u b c z s me o a l (.slice A0 n c0)) (tabO 0 0 0 0 0 0 0 0 0 0 0 (.slice none 0 0))
     have H0 := hid H.1; have H1 := hid H.2.1; have HB0 := hid H.2.2; clear H
     obtain ⟨t0, t1, t2, t3, t4, t5, t6, t7, t8, t9, t10, t11⟩ := cz12 H0.out
     have hge : w.heap.size <= w.heap.size + 1 := by omega
     go_enter Try.func56, Try.ntmps56
     go_wp2_with first
      | (go_at_call 101; refine (HA.out _ (Kd.C_below HR.out HB0.out)).mono ?_; rintro e w1 ⟨rfl, hb1⟩; have hs := hb1.size; rw [sz2] at hs; have HB1 := hid (jc_ HB0.out hb1); have K1 := hid (jb_ H0.out hb1); have G1 := hid (jb_ H1.out hb1); clear hb1; have q0 : w1.heap.size ≠ w.heap.size := (by omega); have q0p : w.heap.size ≠ w1.heap.size := (by omega); have q1 : w1.heap.size ≠ w.heap.size + 1 := (by omega); have q1p : w.heap.size + 1 ≠ w1.heap.size := (by omega); have Xa := hid (ju_ w1 (zoO st wp gen)); have Ka := hid (ja_ K1.out (zoO st wp gen)); have Ga := hid (ja_ G1.out (zoO st wp gen)); have HBa := hid (jg_ HB1.out (zoO st wp gen)); obtain ⟨xa0, xa1, xa2, xa3, xa4, xa5, xa6, xa7, xa8, xa9, xa10, xa11⟩ := cz12 Ka.out; obtain ⟨ya0, ya1, ya2, ya3, ya4, ya5, ya6, ya7, ya8, ya9, ya10, ya11⟩ := cz12 Ga.out; obtain ⟨yfa0, yfa1, yfa2, yfa3, yfa4, yfa5, yfa6, yfa7, yfa8, yfa9, yfa10, yfa11⟩ := fz12 Ga.out; obtain ⟨ra0, ra1, ra2⟩ := cz3 Xa.out; obtain ⟨rfa0, rfa1, rfa2⟩ := fz3 Xa.out)
     refine bodyPost_ret (jj_ rfl _ _ (w.heap.size + 1) 27 #[.int .i64 0, .int .i64 0, .int .i64 0, .int .i64 0, .int .i64 0, .int .i64 0, .int .i64 0, .int .i64 0, .int .i64 0, .int .i64 0, .int .i64 0, .slice none 0 0] (0, 0) _ rfl (ko_ Ga.out) Try.underlying27 rfl (by kernel_rfl)) rfl ?_
     exact ⟨_, rfl, .inl ⟨rfl, rfl⟩, bl12 HBa.out hge⟩
    ·
     have pe : p = wp := Classical.byContradiction (fun q => h6 q)
     have pb : (p == wp) = true := beq_iff_eq.mpr pe
     by_cases h8 : wrap64 (Z - wp) < k
     ·
      have hv : V = (none, 4) := by rw [hV, if_neg (by simp), if_neg h2, if_neg h4, if_neg h6, if_pos h8]
      subst hv
      obtain ⟨hi0, hi1, hl, hz, hrt⟩ := hok rfl
      have hW := fun x W h => kx_ id m u b c z s me o a l A0 c0 L i x W h hc0 (by omega) hi0 hi1
      rw [<- hn] at hW
      have HW := hid hW; clear hW hok hi0 hi1 hl hz hrt
      rw [<- hn] at hA hr0 hc0 ⊢
      have HR := hid hr0; have HA := hid hA; have HV := hid hV; have Hn := hid hn; clear hr0 hA hV hn
      have H := al2 w (tabO id m u b c z s me o a l (.slice A0 n c0)) (tabO 0 0 0 0 0 0 0 0 0 0 0 (.slice none 0 0))
      have H0 := hid H.1; have H1 := hid H.2.1; have HB0 := hid H.2.2; clear H
      obtain ⟨t0, t1, t2, t3, t4, t5, t6, t7, t8, t9, t10, t11⟩ := cz12 H0.out
      have hge : w.heap.size <= w.heap.size + 1 := by omega
      go_enter Try.func56, Try.ntmps56
      go_wp2_with first
       | (go_at_call 101; refine (HA.out _ (Kd.C_below HR.out HB0.out)).mono ?_; rintro e w1 ⟨rfl, hb1⟩; have hs := hb1.size; rw [sz2] at hs; have HB1 := hid (jc_ HB0.out hb1); have K1 := hid (jb_ H0.out hb1); have G1 := hid (jb_ H1.out hb1); clear hb1; have q0 : w1.heap.size ≠ w.heap.size := (by omega); have q0p : w.heap.size ≠ w1.heap.size := (by omega); have q1 : w1.heap.size ≠ w.heap.size + 1 := (by omega); have q1p : w.heap.size + 1 ≠ w1.heap.size := (by omega); have Xa := hid (ju_ w1 (zoO st wp gen)); have Ka := hid (ja_ K1.out (zoO st wp gen)); have Ga := hid (ja_ G1.out (zoO st wp gen)); have HBa := hid (jg_ HB1.out (zoO st wp gen)); obtain ⟨xa0, xa1, xa2, xa3, xa4, xa5, xa6, xa7, xa8, xa9, xa10, xa11⟩ := cz12 Ka.out; obtain ⟨ya0, ya1, ya2, ya3, ya4, ya5, ya6, ya7, ya8, ya9, ya10, ya11⟩ := cz12 Ga.out; obtain ⟨yfa0, yfa1, yfa2, yfa3, yfa4, yfa5, yfa6, yfa7, yfa8, yfa9, yfa10, yfa11⟩ := fz12 Ga.out; obtain ⟨ra0, ra1, ra2⟩ := cz3 Xa.out; obtain ⟨rfa0, rfa1, rfa2⟩ := fz3 Xa.out)
      refine jN_ (n := 9) (S := (tcS w.heap.size w1.heap.size id m u b c z s me o a l (.slice A0 n c0) st wp gen)) (ds := []) (bq 9 0) (by kernel_rfl) rfl (by kernel_rfl) (xH_ (jd_ Ka.out) (jd_ Xa.out)) (fun hHeld => ?_)
      refine jw_ zq_ yE_ (fun HT_ HW_ => ?_)
      apply pu 0 39 (bq 9 1) HT_
      apply pu 1 40 (bq 9 3) HT_
      apply pu 4 43 (bq 9 19) HT_
      apply tu 2 41 (bq 9 23) HT_ HW_ hHeld
      apply tu 5 44 (bq 9 55) HT_ HW_ hHeld
      refine one_ (i := 3) (N := some 42) (bq 9 63) rfl rfl (kI_ HT_.out (by kernel_rfl)) (by decide) (fun K hK => ?_)
      refine gs Try.func68 #[.agg #[.int .i64 id, .int .i64 m, .int .i64 u, .int .i64 b, .int .i64 c, .int .i64 z, .int .i64 s, .int .i64 me, .int .i64 o, .int .i64 a, .int .i64 l]] ?_
      refine (HSZ.out _).mono ?_
      rintro e w3 ⟨rfl, hb⟩
      refine ⟨_, rfl, ?_⟩
      have Kc := hid (jb_ (jd_ Ka.out) hb); have Gc := hid (jb_ (jd_ Ga.out) hb); have Xc := hid (jb_ (jd_ Xa.out) hb); have HBc := hid (jc_ (jC_ HBa.out) hb); clear hb
      refine hK.out _ _ (xH_ Kc.out Xc.out) (fun hHeld => ?_)
      clear hK K
      apply nm 0
      apply pu 6 45 (bq 9 127) HT_
      apply pu 7 46 (bq 9 255) HT_
      apply pu 8 38 (bq 9 511) HT_
      refine kk_ (jF_ HT_.out (by kernel_rfl)) ?_
      obtain ⟨xc0, xc1, xc2, xc3, xc4, xc5, xc6, xc7, xc8, xc9, xc10, xc11⟩ := cz12 Kc.out; obtain ⟨yc0, yc1, yc2, yc3, yc4, yc5, yc6, yc7, yc8, yc9, yc10, yc11⟩ := cz12 Gc.out; obtain ⟨yfc0, yfc1, yfc2, yfc3, yfc4, yfc5, yfc6, yfc7, yfc8, yfc9, yfc10, yfc11⟩ := fz12 Gc.out; obtain ⟨rc0, rc1, rc2⟩ := cz3 Xc.out; obtain ⟨rfc0, rfc1, rfc2⟩ := fz3 Xc.out
      go_wp2
      refine bodyPost_ret (jj_ rfl _ _ (w.heap.size + 1) 27 #[.int .i64 0, .int .i64 0, .int .i64 0, .int .i64 0, .int .i64 0, .int .i64 0, .int .i64 0, .int .i64 0, .int .i64 0, .int .i64 0, .int .i64 0, .slice none 0 0] (0, 0) _ rfl (ko_ Gc.out) Try.underlying27 rfl (by kernel_rfl)) rfl ?_
      exact ⟨_, rfl, .inl ⟨rfl, rfl⟩, bl12 HBc.out hge⟩
     ·
      rw [if_neg (by simp), if_neg h2, if_neg h4, if_neg h6, if_neg h8] at hV
      have hO := fun W h => opened_any id m u b c z s me o a l A0 c0 L ⟨st, wp, gen⟩ W h hc0
      generalize jP_ a o L ⟨st, wp, gen⟩ = y at hO hV
      obtain ⟨⟨st2, wp2, gen2⟩, e2⟩ := y
      dsimp only at hO hV
      rw [<- hn] at hO
      have HO := hid hO; clear hO
      generalize hY : wrap64 (wp2 + k) = Y at hV
      by_cases h9 : e2 = 0
      ·
       subst h9
       by_cases h10 : Y = Z
       ·
        have hv : V = (some (L.set i.toNat ⟨3, Y, gen2⟩), 0) := by rw [hV, if_neg (by simp), if_pos h10]
        subst hv
        have yb : (Y == Z) = true := beq_iff_eq.mpr h10
        have H10 := hid h10; clear h10
        obtain ⟨hi0, hi1, hl, hz, hrt⟩ := hok rfl
        have hW := fun x W h => kx_ id m u b c z s me o a l A0 c0 L i x W h hc0 (by omega) hi0 hi1
        rw [<- hn] at hW
        have HW := hid hW; clear hW hok hi0 hi1 hl hz hrt
        rw [<- hn] at hA hr0 hc0 ⊢
        have HR := hid hr0; have HA := hid hA; have HV := hid hV; have Hn := hid hn; clear hr0 hA hV hn
        have H := al2 w (tabO id m u b c z s me o a l (.slice A0 n c0)) (tabO 0 0 0 0 0 0 0 0 0 0 0 (.slice none 0 0))
        have H0 := hid H.1; have H1 := hid H.2.1; have HB0 := hid H.2.2; clear H
        obtain ⟨t0, t1, t2, t3, t4, t5, t6, t7, t8, t9, t10, t11⟩ := cz12 H0.out
        have hge : w.heap.size <= w.heap.size + 1 := by omega
        go_enter Try.func56, Try.ntmps56
        go_wp2_with first
         | (go_at_call 101; refine (HA.out _ (Kd.C_below HR.out HB0.out)).mono ?_; rintro e w1 ⟨rfl, hb1⟩; have hs := hb1.size; rw [sz2] at hs; have HB1 := hid (jc_ HB0.out hb1); have K1 := hid (jb_ H0.out hb1); have G1 := hid (jb_ H1.out hb1); clear hb1; have q0 : w1.heap.size ≠ w.heap.size := (by omega); have q0p : w.heap.size ≠ w1.heap.size := (by omega); have q1 : w1.heap.size ≠ w.heap.size + 1 := (by omega); have q1p : w.heap.size + 1 ≠ w1.heap.size := (by omega); have Xa := hid (ju_ w1 (zoO st wp gen)); have Ka := hid (ja_ K1.out (zoO st wp gen)); have Ga := hid (ja_ G1.out (zoO st wp gen)); have HBa := hid (jg_ HB1.out (zoO st wp gen)); obtain ⟨xa0, xa1, xa2, xa3, xa4, xa5, xa6, xa7, xa8, xa9, xa10, xa11⟩ := cz12 Ka.out; obtain ⟨ya0, ya1, ya2, ya3, ya4, ya5, ya6, ya7, ya8, ya9, ya10, ya11⟩ := cz12 Ga.out; obtain ⟨yfa0, yfa1, yfa2, yfa3, yfa4, yfa5, yfa6, yfa7, yfa8, yfa9, yfa10, yfa11⟩ := fz12 Ga.out; obtain ⟨ra0, ra1, ra2⟩ := cz3 Xa.out; obtain ⟨rfa0, rfa1, rfa2⟩ := fz3 Xa.out)
        refine jN_ (n := 9) (S := (tcS w.heap.size w1.heap.size id m u b c z s me o a l (.slice A0 n c0) st wp gen)) (ds := []) (bq 9 0) (by kernel_rfl) rfl (by kernel_rfl) (xH_ (jd_ Ka.out) (jd_ Xa.out)) (fun hHeld => ?_)
        refine jw_ zq_ yE_ (fun HT_ HW_ => ?_)
        apply pu 0 39 (bq 9 1) HT_
        apply pu 1 40 (bq 9 3) HT_
        apply pu 4 43 (bq 9 19) HT_
        apply tu 2 41 (bq 9 23) HT_ HW_ hHeld
        apply tu 5 44 (bq 9 55) HT_ HW_ hHeld
        refine one_ (i := 3) (N := some 42) (bq 9 63) rfl rfl (kI_ HT_.out (by kernel_rfl)) (by decide) (fun K hK => ?_)
        refine gs Try.func68 #[.agg #[.int .i64 id, .int .i64 m, .int .i64 u, .int .i64 b, .int .i64 c, .int .i64 z, .int .i64 s, .int .i64 me, .int .i64 o, .int .i64 a, .int .i64 l]] ?_
        refine (HSZ.out _).mono ?_
        rintro e w3 ⟨rfl, hb⟩
        refine ⟨_, rfl, ?_⟩
        have Kc := hid (jb_ (jd_ Ka.out) hb); have Gc := hid (jb_ (jd_ Ga.out) hb); have Xc := hid (jb_ (jd_ Xa.out) hb); have HBc := hid (jc_ (jC_ HBa.out) hb); clear hb
        refine hK.out _ _ (xH_ Kc.out Xc.out) (fun hHeld => ?_)
        clear hK K
        apply nm 0
        apply pu 6 45 (bq 9 127) HT_
        apply pu 7 46 (bq 9 255) HT_
        apply pu 8 38 (bq 9 511) HT_
        refine kk_ (jF_ HT_.out (by kernel_rfl)) ?_
        obtain ⟨xc0, xc1, xc2, xc3, xc4, xc5, xc6, xc7, xc8, xc9, xc10, xc11⟩ := cz12 Kc.out; obtain ⟨yc0, yc1, yc2, yc3, yc4, yc5, yc6, yc7, yc8, yc9, yc10, yc11⟩ := cz12 Gc.out; obtain ⟨yfc0, yfc1, yfc2, yfc3, yfc4, yfc5, yfc6, yfc7, yfc8, yfc9, yfc10, yfc11⟩ := fz12 Gc.out; obtain ⟨rc0, rc1, rc2⟩ := cz3 Xc.out; obtain ⟨rfc0, rfc1, rfc2⟩ := fz3 Xc.out
        go_wp2_with first
         | (go_at_call 102; refine (HO.out _ (Kd.C_below HR.out HBc.out)).mono ?_; rintro e w3 ⟨rfl, hb3⟩; have Ke := hid (jb_ Kc.out hb3); have Ge := hid (jb_ Gc.out hb3); have Xe := hid (jb_ Xc.out hb3); have HBe := hid (jc_ HBc.out hb3); clear hb3; obtain ⟨xe0, xe1, xe2, xe3, xe4, xe5, xe6, xe7, xe8, xe9, xe10, xe11⟩ := cz12 Ke.out; obtain ⟨ye0, ye1, ye2, ye3, ye4, ye5, ye6, ye7, ye8, ye9, ye10, ye11⟩ := cz12 Ge.out; obtain ⟨yfe0, yfe1, yfe2, yfe3, yfe4, yfe5, yfe6, yfe7, yfe8, yfe9, yfe10, yfe11⟩ := fz12 Ge.out; obtain ⟨re0, re1, re2⟩ := cz3 Xe.out; obtain ⟨rfe0, rfe1, rfe2⟩ := fz3 Xe.out)
        rw [hY]
        refine jN_ (n := 6) (S := (tcS w.heap.size w1.heap.size id m u b c z s me o a l (.slice A0 n c0) st2 Y gen2)) (ds := []) (bq 6 0) (by kernel_rfl) rfl (by kernel_rfl) (xH_ (jd_ (jv_ (far3 Ke.out q0p) q0p _)) (jd_ (js_ (cs := #[.int .i64 st2, .int .i64 wp2, .int .i64 gen2]) (put3 Xe.out) 1 _ rfl))) (fun hHeld => ?_)
        refine jw_ tab22_16 bits22_16 (fun HT_ HW_ => ?_)
        apply pu 0 63 (bq 6 1) HT_
        apply pu 2 65 (bq 6 5) HT_
        apply tu 1 64 (bq 6 7) HT_ HW_ hHeld
        apply tu 3 66 (bq 6 15) HT_ HW_ hHeld
        refine one_ (i := 4) (N := some 67) (bq 6 31) rfl rfl (kI_ HT_.out (by kernel_rfl)) (by decide) (fun K hK => ?_)
        refine gs Try.func68 #[.agg #[.int .i64 id, .int .i64 m, .int .i64 u, .int .i64 b, .int .i64 c, .int .i64 z, .int .i64 s, .int .i64 me, .int .i64 o, .int .i64 a, .int .i64 l]] ?_
        refine (HSZ.out _).mono ?_
        rintro e w5 ⟨rfl, hb⟩
        refine ⟨_, rfl, ?_⟩
        have Kf := hid (jb_ (jd_ (jv_ (far3 Ke.out q0p) q0p _)) hb); have Gf := hid (jb_ (jd_ (jv_ (far3 Ge.out q1p) q1p _)) hb); have Xf := hid (jb_ (jd_ (js_ (cs := #[.int .i64 st2, .int .i64 wp2, .int .i64 gen2]) (put3 Xe.out) 1 _ rfl)) hb); have HBf := hid (jc_ (jC_ (jx_ (bl3 HBe.out (by have := HB1.out.size; omega)) (by have := HB1.out.size; omega))) hb); clear hb
        refine hK.out _ _ (xH_ Kf.out Xf.out) (fun hHeld => ?_)
        clear hK K
        apply nm 0
        apply pu 5 68 (bq 6 63) HT_
        refine kk_ (jF_ HT_.out (by kernel_rfl)) ?_
        obtain ⟨xf0, xf1, xf2, xf3, xf4, xf5, xf6, xf7, xf8, xf9, xf10, xf11⟩ := cz12 Kf.out; obtain ⟨yf0, yf1, yf2, yf3, yf4, yf5, yf6, yf7, yf8, yf9, yf10, yf11⟩ := cz12 Gf.out; obtain ⟨yff0, yff1, yff2, yff3, yff4, yff5, yff6, yff7, yff8, yff9, yff10, yff11⟩ := fz12 Gf.out; obtain ⟨rf0, rf1, rf2⟩ := cz3 Xf.out; obtain ⟨rff0, rff1, rff2⟩ := fz3 Xf.out
        go_wp2_with first
         | (go_at_call 103; refine (HW.out ⟨3, Y, gen2⟩ _ (Kd.C_below HR.out (jx_ HBf.out (by have := HB1.out.size; omega)))).mono ?_; rintro e w2 ⟨v, rfl, hR2, hb2⟩; obtain ⟨A2, c2, rfl⟩ := Kd.R_slice hR2; simp only [List.length_set] at hR2; have G3 := hid (jb_ (jv_ Gf.out q1p _) hb2); have HB3 := hid (jc_ (jx_ HBf.out (by have := HB1.out.size; omega)) hb2); have HR2 := hid (Kd.R_lower hR2 (jx_ HBf.out (by have := HB1.out.size; omega)).size); clear hR2 hb2; obtain ⟨z0, z1, z2, z3, z4, z5, z6, z7, z8, z9, z10, z11⟩ := cz12 G3.out; obtain ⟨zf0, zf1, zf2, zf3, zf4, zf5, zf6, zf7, zf8, zf9, zf10, zf11⟩ := fz12 G3.out)
        refine bodyPost_ret (jj_ rfl _ _ (w.heap.size + 1) 27 #[.int .i64 id, .int .i64 m, .int .i64 u, .int .i64 b, .int .i64 c, .int .i64 z, .int .i64 s, .int .i64 me, .int .i64 o, .int .i64 a, .int .i64 l, .slice A2 _ c2] (0, 0) _ rfl (ko_ G3.out) Try.underlying27 rfl (by kernel_rfl)) rfl ?_
        exact ⟨_, rfl, .inr ⟨_, _, rfl, rfl, R12 HR2.out G3.out (by decide)⟩, bl12 HB3.out hge⟩
       ·
        have hv : V = (some (L.set i.toNat ⟨st2, Y, gen2⟩), 0) := by rw [hV, if_neg (by simp), if_neg h10]
        subst hv
        have yb : (Y == Z) = false := beq_eq_false_iff_ne.mpr h10
        have H10 := hid h10; clear h10
        obtain ⟨hi0, hi1, hl, hz, hrt⟩ := hok rfl
        have hW := fun x W h => kx_ id m u b c z s me o a l A0 c0 L i x W h hc0 (by omega) hi0 hi1
        rw [<- hn] at hW
        have HW := hid hW; clear hW hok hi0 hi1 hl hz hrt
        rw [<- hn] at hA hr0 hc0 ⊢
        have HR := hid hr0; have HA := hid hA; have HV := hid hV; have Hn := hid hn; clear hr0 hA hV hn
        have H := al2 w (tabO id m u b c z s me o a l (.slice A0 n c0)) (tabO 0 0 0 0 0 0 0 0 0 0 0 (.slice none 0 0))
        have H0 := hid H.1; have H1 := hid H.2.1; have HB0 := hid H.2.2; clear H
        obtain ⟨t0, t1, t2, t3, t4, t5, t6, t7, t8, t9, t10, t11⟩ := cz12 H0.out
        have hge : w.heap.size <= w.heap.size + 1 := by omega
        go_enter Try.func56, Try.ntmps56
        go_wp2_with first
         | (go_at_call 101; refine (HA.out _ (Kd.C_below HR.out HB0.out)).mono ?_; rintro e w1 ⟨rfl, hb1⟩; have hs := hb1.size; rw [sz2] at hs; have HB1 := hid (jc_ HB0.out hb1); have K1 := hid (jb_ H0.out hb1); have G1 := hid (jb_ H1.out hb1); clear hb1; have q0 : w1.heap.size ≠ w.heap.size := (by omega); have q0p : w.heap.size ≠ w1.heap.size := (by omega); have q1 : w1.heap.size ≠ w.heap.size + 1 := (by omega); have q1p : w.heap.size + 1 ≠ w1.heap.size := (by omega); have Xa := hid (ju_ w1 (zoO st wp gen)); have Ka := hid (ja_ K1.out (zoO st wp gen)); have Ga := hid (ja_ G1.out (zoO st wp gen)); have HBa := hid (jg_ HB1.out (zoO st wp gen)); obtain ⟨xa0, xa1, xa2, xa3, xa4, xa5, xa6, xa7, xa8, xa9, xa10, xa11⟩ := cz12 Ka.out; obtain ⟨ya0, ya1, ya2, ya3, ya4, ya5, ya6, ya7, ya8, ya9, ya10, ya11⟩ := cz12 Ga.out; obtain ⟨yfa0, yfa1, yfa2, yfa3, yfa4, yfa5, yfa6, yfa7, yfa8, yfa9, yfa10, yfa11⟩ := fz12 Ga.out; obtain ⟨ra0, ra1, ra2⟩ := cz3 Xa.out; obtain ⟨rfa0, rfa1, rfa2⟩ := fz3 Xa.out)
        refine jN_ (n := 9) (S := (tcS w.heap.size w1.heap.size id m u b c z s me o a l (.slice A0 n c0) st wp gen)) (ds := []) (bq 9 0) (by kernel_rfl) rfl (by kernel_rfl) (xH_ (jd_ Ka.out) (jd_ Xa.out)) (fun hHeld => ?_)
        refine jw_ zq_ yE_ (fun HT_ HW_ => ?_)
        apply pu 0 39 (bq 9 1) HT_
        apply pu 1 40 (bq 9 3) HT_
        apply pu 4 43 (bq 9 19) HT_
        apply tu 2 41 (bq 9 23) HT_ HW_ hHeld
        apply tu 5 44 (bq 9 55) HT_ HW_ hHeld
        refine one_ (i := 3) (N := some 42) (bq 9 63) rfl rfl (kI_ HT_.out (by kernel_rfl)) (by decide) (fun K hK => ?_)
        refine gs Try.func68 #[.agg #[.int .i64 id, .int .i64 m, .int .i64 u, .int .i64 b, .int .i64 c, .int .i64 z, .int .i64 s, .int .i64 me, .int .i64 o, .int .i64 a, .int .i64 l]] ?_
        refine (HSZ.out _).mono ?_
        rintro e w3 ⟨rfl, hb⟩
        refine ⟨_, rfl, ?_⟩
        have Kc := hid (jb_ (jd_ Ka.out) hb); have Gc := hid (jb_ (jd_ Ga.out) hb); have Xc := hid (jb_ (jd_ Xa.out) hb); have HBc := hid (jc_ (jC_ HBa.out) hb); clear hb
        refine hK.out _ _ (xH_ Kc.out Xc.out) (fun hHeld => ?_)
        clear hK K
        apply nm 0
        apply pu 6 45 (bq 9 127) HT_
        apply pu 7 46 (bq 9 255) HT_
        apply pu 8 38 (bq 9 511) HT_
        refine kk_ (jF_ HT_.out (by kernel_rfl)) ?_
        obtain ⟨xc0, xc1, xc2, xc3, xc4, xc5, xc6, xc7, xc8, xc9, xc10, xc11⟩ := cz12 Kc.out; obtain ⟨yc0, yc1, yc2, yc3, yc4, yc5, yc6, yc7, yc8, yc9, yc10, yc11⟩ := cz12 Gc.out; obtain ⟨yfc0, yfc1, yfc2, yfc3, yfc4, yfc5, yfc6, yfc7, yfc8, yfc9, yfc10, yfc11⟩ := fz12 Gc.out; obtain ⟨rc0, rc1, rc2⟩ := cz3 Xc.out; obtain ⟨rfc0, rfc1, rfc2⟩ := fz3 Xc.out
        go_wp2_with first
         | (go_at_call 102; refine (HO.out _ (Kd.C_below HR.out HBc.out)).mono ?_; rintro e w3 ⟨rfl, hb3⟩; have Ke := hid (jb_ Kc.out hb3); have Ge := hid (jb_ Gc.out hb3); have Xe := hid (jb_ Xc.out hb3); have HBe := hid (jc_ HBc.out hb3); clear hb3; obtain ⟨xe0, xe1, xe2, xe3, xe4, xe5, xe6, xe7, xe8, xe9, xe10, xe11⟩ := cz12 Ke.out; obtain ⟨ye0, ye1, ye2, ye3, ye4, ye5, ye6, ye7, ye8, ye9, ye10, ye11⟩ := cz12 Ge.out; obtain ⟨yfe0, yfe1, yfe2, yfe3, yfe4, yfe5, yfe6, yfe7, yfe8, yfe9, yfe10, yfe11⟩ := fz12 Ge.out; obtain ⟨re0, re1, re2⟩ := cz3 Xe.out; obtain ⟨rfe0, rfe1, rfe2⟩ := fz3 Xe.out)
        rw [hY]
        refine jN_ (n := 6) (S := (tcS w.heap.size w1.heap.size id m u b c z s me o a l (.slice A0 n c0) st2 Y gen2)) (ds := []) (bq 6 0) (by kernel_rfl) rfl (by kernel_rfl) (xH_ (jd_ (jv_ (far3 Ke.out q0p) q0p _)) (jd_ (js_ (cs := #[.int .i64 st2, .int .i64 wp2, .int .i64 gen2]) (put3 Xe.out) 1 _ rfl))) (fun hHeld => ?_)
        refine jw_ tab22_16 bits22_16 (fun HT_ HW_ => ?_)
        apply pu 0 63 (bq 6 1) HT_
        apply pu 2 65 (bq 6 5) HT_
        apply tu 1 64 (bq 6 7) HT_ HW_ hHeld
        apply tu 3 66 (bq 6 15) HT_ HW_ hHeld
        refine one_ (i := 4) (N := some 67) (bq 6 31) rfl rfl (kI_ HT_.out (by kernel_rfl)) (by decide) (fun K hK => ?_)
        refine gs Try.func68 #[.agg #[.int .i64 id, .int .i64 m, .int .i64 u, .int .i64 b, .int .i64 c, .int .i64 z, .int .i64 s, .int .i64 me, .int .i64 o, .int .i64 a, .int .i64 l]] ?_
        refine (HSZ.out _).mono ?_
        rintro e w5 ⟨rfl, hb⟩
        refine ⟨_, rfl, ?_⟩
        have Kf := hid (jb_ (jd_ (jv_ (far3 Ke.out q0p) q0p _)) hb); have Gf := hid (jb_ (jd_ (jv_ (far3 Ge.out q1p) q1p _)) hb); have Xf := hid (jb_ (jd_ (js_ (cs := #[.int .i64 st2, .int .i64 wp2, .int .i64 gen2]) (put3 Xe.out) 1 _ rfl)) hb); have HBf := hid (jc_ (jC_ (jx_ (bl3 HBe.out (by have := HB1.out.size; omega)) (by have := HB1.out.size; omega))) hb); clear hb
        refine hK.out _ _ (xH_ Kf.out Xf.out) (fun hHeld => ?_)
        clear hK K
        apply nm 0
        apply pu 5 68 (bq 6 63) HT_
        refine kk_ (jF_ HT_.out (by kernel_rfl)) ?_
        obtain ⟨xf0, xf1, xf2, xf3, xf4, xf5, xf6, xf7, xf8, xf9, xf10, xf11⟩ := cz12 Kf.out; obtain ⟨yf0, yf1, yf2, yf3, yf4, yf5, yf6, yf7, yf8, yf9, yf10, yf11⟩ := cz12 Gf.out; obtain ⟨yff0, yff1, yff2, yff3, yff4, yff5, yff6, yff7, yff8, yff9, yff10, yff11⟩ := fz12 Gf.out; obtain ⟨rf0, rf1, rf2⟩ := cz3 Xf.out; obtain ⟨rff0, rff1, rff2⟩ := fz3 Xf.out
        go_wp2_with first
         | (go_at_call 103; refine (HW.out ⟨st2, Y, gen2⟩ _ (Kd.C_below HR.out HBf.out)).mono ?_; rintro e w2 ⟨v, rfl, hR2, hb2⟩; obtain ⟨A2, c2, rfl⟩ := Kd.R_slice hR2; simp only [List.length_set] at hR2; have G3 := hid (jb_ Gf.out hb2); have HB3 := hid (jc_ HBf.out hb2); have HR2 := hid (Kd.R_lower hR2 HBf.out.size); clear hR2 hb2; obtain ⟨z0, z1, z2, z3, z4, z5, z6, z7, z8, z9, z10, z11⟩ := cz12 G3.out; obtain ⟨zf0, zf1, zf2, zf3, zf4, zf5, zf6, zf7, zf8, zf9, zf10, zf11⟩ := fz12 G3.out)
        refine bodyPost_ret (jj_ rfl _ _ (w.heap.size + 1) 27 #[.int .i64 id, .int .i64 m, .int .i64 u, .int .i64 b, .int .i64 c, .int .i64 z, .int .i64 s, .int .i64 me, .int .i64 o, .int .i64 a, .int .i64 l, .slice A2 _ c2] (0, 0) _ rfl (ko_ G3.out) Try.underlying27 rfl (by kernel_rfl)) rfl ?_
        exact ⟨_, rfl, .inr ⟨_, _, rfl, rfl, R12 HR2.out G3.out (by decide)⟩, bl12 HB3.out hge⟩
      ·
       have hv : V = (none, e2) := by rw [hV, if_pos h9]
       subst hv
       have eb2 : (e2 == 0) = false := beq_eq_false_iff_ne.mpr h9
       obtain ⟨hi0, hi1, hl, hz, hrt⟩ := hok rfl
       have hW := fun x W h => kx_ id m u b c z s me o a l A0 c0 L i x W h hc0 (by omega) hi0 hi1
       rw [<- hn] at hW
       have HW := hid hW; clear hW hok hi0 hi1 hl hz hrt
       rw [<- hn] at hA hr0 hc0 ⊢
       have HR := hid hr0; have HA := hid hA; have HV := hid hV; have Hn := hid hn; clear hr0 hA hV hn
       have H := al2 w (tabO id m u b c z s me o a l (.slice A0 n c0)) (tabO 0 0 0 0 0 0 0 0 0 0 0 (.slice none 0 0))
       have H0 := hid H.1; have H1 := hid H.2.1; have HB0 := hid H.2.2; clear H
       obtain ⟨t0, t1, t2, t3, t4, t5, t6, t7, t8, t9, t10, t11⟩ := cz12 H0.out
       have hge : w.heap.size <= w.heap.size + 1 := by omega
       go_enter Try.func56, Try.ntmps56
       go_wp2_with first
        | (go_at_call 101; refine (HA.out _ (Kd.C_below HR.out HB0.out)).mono ?_; rintro e w1 ⟨rfl, hb1⟩; have hs := hb1.size; rw [sz2] at hs; have HB1 := hid (jc_ HB0.out hb1); have K1 := hid (jb_ H0.out hb1); have G1 := hid (jb_ H1.out hb1); clear hb1; have q0 : w1.heap.size ≠ w.heap.size := (by omega); have q0p : w.heap.size ≠ w1.heap.size := (by omega); have q1 : w1.heap.size ≠ w.heap.size + 1 := (by omega); have q1p : w.heap.size + 1 ≠ w1.heap.size := (by omega); have Xa := hid (ju_ w1 (zoO st wp gen)); have Ka := hid (ja_ K1.out (zoO st wp gen)); have Ga := hid (ja_ G1.out (zoO st wp gen)); have HBa := hid (jg_ HB1.out (zoO st wp gen)); obtain ⟨xa0, xa1, xa2, xa3, xa4, xa5, xa6, xa7, xa8, xa9, xa10, xa11⟩ := cz12 Ka.out; obtain ⟨ya0, ya1, ya2, ya3, ya4, ya5, ya6, ya7, ya8, ya9, ya10, ya11⟩ := cz12 Ga.out; obtain ⟨yfa0, yfa1, yfa2, yfa3, yfa4, yfa5, yfa6, yfa7, yfa8, yfa9, yfa10, yfa11⟩ := fz12 Ga.out; obtain ⟨ra0, ra1, ra2⟩ := cz3 Xa.out; obtain ⟨rfa0, rfa1, rfa2⟩ := fz3 Xa.out)
       refine jN_ (n := 9) (S := (tcS w.heap.size w1.heap.size id m u b c z s me o a l (.slice A0 n c0) st wp gen)) (ds := []) (bq 9 0) (by kernel_rfl) rfl (by kernel_rfl) (xH_ (jd_ Ka.out) (jd_ Xa.out)) (fun hHeld => ?_)
       refine jw_ zq_ yE_ (fun HT_ HW_ => ?_)
       apply pu 0 39 (bq 9 1) HT_
       apply pu 1 40 (bq 9 3) HT_
       apply pu 4 43 (bq 9 19) HT_
       apply tu 2 41 (bq 9 23) HT_ HW_ hHeld
       apply tu 5 44 (bq 9 55) HT_ HW_ hHeld
       refine one_ (i := 3) (N := some 42) (bq 9 63) rfl rfl (kI_ HT_.out (by kernel_rfl)) (by decide) (fun K hK => ?_)
       refine gs Try.func68 #[.agg #[.int .i64 id, .int .i64 m, .int .i64 u, .int .i64 b, .int .i64 c, .int .i64 z, .int .i64 s, .int .i64 me, .int .i64 o, .int .i64 a, .int .i64 l]] ?_
       refine (HSZ.out _).mono ?_
       rintro e w3 ⟨rfl, hb⟩
       refine ⟨_, rfl, ?_⟩
       have Kc := hid (jb_ (jd_ Ka.out) hb); have Gc := hid (jb_ (jd_ Ga.out) hb); have Xc := hid (jb_ (jd_ Xa.out) hb); have HBc := hid (jc_ (jC_ HBa.out) hb); clear hb
       refine hK.out _ _ (xH_ Kc.out Xc.out) (fun hHeld => ?_)
       clear hK K
       apply nm 0
       apply pu 6 45 (bq 9 127) HT_
       apply pu 7 46 (bq 9 255) HT_
       apply pu 8 38 (bq 9 511) HT_
       refine kk_ (jF_ HT_.out (by kernel_rfl)) ?_
       obtain ⟨xc0, xc1, xc2, xc3, xc4, xc5, xc6, xc7, xc8, xc9, xc10, xc11⟩ := cz12 Kc.out; obtain ⟨yc0, yc1, yc2, yc3, yc4, yc5, yc6, yc7, yc8, yc9, yc10, yc11⟩ := cz12 Gc.out; obtain ⟨yfc0, yfc1, yfc2, yfc3, yfc4, yfc5, yfc6, yfc7, yfc8, yfc9, yfc10, yfc11⟩ := fz12 Gc.out; obtain ⟨rc0, rc1, rc2⟩ := cz3 Xc.out; obtain ⟨rfc0, rfc1, rfc2⟩ := fz3 Xc.out
       go_wp2_with first
        | (go_at_call 102; refine (HO.out _ (Kd.C_below HR.out HBc.out)).mono ?_; rintro e w3 ⟨rfl, hb3⟩; have Ke := hid (jb_ Kc.out hb3); have Ge := hid (jb_ Gc.out hb3); have Xe := hid (jb_ Xc.out hb3); have HBe := hid (jc_ HBc.out hb3); clear hb3; obtain ⟨xe0, xe1, xe2, xe3, xe4, xe5, xe6, xe7, xe8, xe9, xe10, xe11⟩ := cz12 Ke.out; obtain ⟨ye0, ye1, ye2, ye3, ye4, ye5, ye6, ye7, ye8, ye9, ye10, ye11⟩ := cz12 Ge.out; obtain ⟨yfe0, yfe1, yfe2, yfe3, yfe4, yfe5, yfe6, yfe7, yfe8, yfe9, yfe10, yfe11⟩ := fz12 Ge.out; obtain ⟨re0, re1, re2⟩ := cz3 Xe.out; obtain ⟨rfe0, rfe1, rfe2⟩ := fz3 Xe.out)
       refine bodyPost_ret (jj_ rfl _ _ (w.heap.size + 1) 27 #[.int .i64 0, .int .i64 0, .int .i64 0, .int .i64 0, .int .i64 0, .int .i64 0, .int .i64 0, .int .i64 0, .int .i64 0, .int .i64 0, .int .i64 0, .slice none 0 0] (0, 0) _ rfl (ko_ (far3 Ge.out q1p)) Try.underlying27 rfl (by kernel_rfl)) rfl ?_
       exact ⟨_, rfl, .inl ⟨rfl, rfl⟩, bl12 (bl3 HBe.out (by have := HB1.out.size; omega)) hge⟩
 ·
  have hv : V = (none, e0) := by rw [hV, if_pos he]
  subst hv
  have eb : (e0 == 0) = false := beq_eq_false_iff_ne.mpr he
  clear hok
  rw [<- hn] at hA hr0 hc0 ⊢
  have HR := hid hr0; have HA := hid hA; have HV := hid hV; have Hn := hid hn; clear hr0 hA hV hn
  have H := al2 w (tabO id m u b c z s me o a l (.slice A0 n c0)) (tabO 0 0 0 0 0 0 0 0 0 0 0 (.slice none 0 0))
  have H0 := hid H.1; have H1 := hid H.2.1; have HB0 := hid H.2.2; clear H
  obtain ⟨t0, t1, t2, t3, t4, t5, t6, t7, t8, t9, t10, t11⟩ := cz12 H0.out
  have hge : w.heap.size <= w.heap.size + 1 := by omega
  go_enter Try.func56, Try.ntmps56
  go_wp2_with first
   | (go_at_call 101; refine (HA.out _ (Kd.C_below HR.out HB0.out)).mono ?_; rintro e w1 ⟨rfl, hb1⟩; have hs := hb1.size; rw [sz2] at hs; have HB1 := hid (jc_ HB0.out hb1); have K1 := hid (jb_ H0.out hb1); have G1 := hid (jb_ H1.out hb1); clear hb1; have q0 : w1.heap.size ≠ w.heap.size := (by omega); have q0p : w.heap.size ≠ w1.heap.size := (by omega); have q1 : w1.heap.size ≠ w.heap.size + 1 := (by omega); have q1p : w.heap.size + 1 ≠ w1.heap.size := (by omega); have Xa := hid (ju_ w1 (zoO st wp gen)); have Ka := hid (ja_ K1.out (zoO st wp gen)); have Ga := hid (ja_ G1.out (zoO st wp gen)); have HBa := hid (jg_ HB1.out (zoO st wp gen)); obtain ⟨xa0, xa1, xa2, xa3, xa4, xa5, xa6, xa7, xa8, xa9, xa10, xa11⟩ := cz12 Ka.out; obtain ⟨ya0, ya1, ya2, ya3, ya4, ya5, ya6, ya7, ya8, ya9, ya10, ya11⟩ := cz12 Ga.out; obtain ⟨yfa0, yfa1, yfa2, yfa3, yfa4, yfa5, yfa6, yfa7, yfa8, yfa9, yfa10, yfa11⟩ := fz12 Ga.out; obtain ⟨ra0, ra1, ra2⟩ := cz3 Xa.out; obtain ⟨rfa0, rfa1, rfa2⟩ := fz3 Xa.out)
  refine bodyPost_ret (jj_ rfl _ _ (w.heap.size + 1) 27 #[.int .i64 0, .int .i64 0, .int .i64 0, .int .i64 0, .int .i64 0, .int .i64 0, .int .i64 0, .int .i64 0, .int .i64 0, .int .i64 0, .int .i64 0, .slice none 0 0] (0, 0) _ rfl (ko_ Ga.out) Try.underlying27 rfl (by kernel_rfl)) rfl ?_
  exact ⟨_, rfl, .inl ⟨rfl, rfl⟩, bl12 HBa.out hge⟩
end Go.Proofs.Ytgckcaoncjhgbaa
