/- The walk of revetmentlaw44.LoadsOf: it answers true, whatever the input. -/
/- revetmentlaw44.LoadsOf answers true: for all settings, ranges and commands. No condition. -/
import Derived.Test.YtgckcaoncjhgbaaLdPlay
import Derived.Test.YtgckcaoncjhgbaaFLr
set_option maxHeartbeats 4000000
set_option maxRecDepth 100000
open Go.Lib (hid)
namespace Go.Proofs.Ytgckcaoncjhgbaa
open Go.RowKit Go.Proofs.Ytgckcaoncjhgbaa.PL Go.Proofs.YtgckcaoncjhgbaaW.PrintWords Go.Proofs.YtgckcaoncjhgbaaW.PrintLast
open Go.Proofs.Ytgckcaoncjhgbaa.Geo
open Go.Proofs.Ytgckcaoncjhgbaa.PG (S134 k134 xZ_ vD_ xf_ S143 k143 kt_ xN_)
set_option linter.unusedVariables false
set_option linter.unusedSimpArgs false
attribute [local go_sem] List.getElem?_toArray List.getElem?_cons_succ List.getElem?_cons_zero mL tL cL xL rL oL
def kR_ : Bool × List (List Nat × List Nat) := (true, [([], []), ([], []), ([], []), ([0, 1, 2], [0, 1, 2]), ([], []), ([], []), ([], []), ([4, 5, 6, 3], [4, 5, 6]), ([3, 7, 7], [3, 7]), ([8], [8])])
theorem kH_ : rtab .any (kT_ Try.f10 3) = kR_ := by kernel_rfl
theorem kE_ : jO_ kR_.2 [0, 0, 0, 7, 0, 0, 0, 127, 255, 511] = true := by kernel_rfl
def kQ_ : Bool × List (List Nat × List Nat) := (true, [([], []), ([], []), ([0, 1], [0, 1]), ([], []), ([], []), ([3, 4, 2], [3, 4]), ([2, 5, 5], [2, 5]), ([6, 6], [6]), ([7, 7], [7]), ([7, 8], [7, 8]), ([9, 8, 0, 1, 2, 3, 4, 5, 6, 7, 8, 9], [9])])
theorem vG_ : rtab .any (kT_ Try.f10 7) = kQ_ := by kernel_rfl
theorem vE_ : jO_ kQ_.2 [0, 0, 3, 0, 0, 31, 63, 127, 255, 511, 1023] = true := by kernel_rfl
theorem law44_much (id m u b c z s me o a l : Int) (at1 n1 : Int) (Aa : Option Addr) (ca : Nat) (xs : List S65) (w : World) (hr : Kd.C k65 w Aa xs.length xs) (hc : xs.length <= ca) (hm : ∀ (W' : World), Below w.heap.size w W' -> Calls Try.prog 24 #[.agg #[.int .i64 id, .int .i64 m, .int .i64 u, .int .i64 b, .int .i64 c, .int .i64 z, .int .i64 s, .int .i64 me, .int .i64 o, .int .i64 a, .int .i64 l], .slice Aa xs.length ca] W' fun e w' => e = .returned (.bool true) /\ Below W'.heap.size W' w') :
  Calls Try.prog 10 #[.agg #[.int .i64 id, .int .i64 m, .int .i64 u, .int .i64 b, .int .i64 c, .int .i64 z, .int .i64 s, .int .i64 me, .int .i64 o, .int .i64 a, .int .i64 l], .int .i64 at1, .int .i64 n1, .slice Aa xs.length ca] w fun e w' => e = .returned (.bool true) /\ Below w.heap.size w w' := by
 have H := hid (Pk.start w)
 have HM := hid hm; clear hm hr
 go_enter Try.func10, Try.ntmps10
 go_wp2_with first
  | (apply bh H 4 (cL id m u b c z s me o a l) 23; clear H; intro gC W1 H; obtain ⟨-, cC⟩ := n1_ H)
  | (go_at_call 24; refine (HM.out _ H.out.below).mono ?_; rintro e W2 ⟨rfl, hb⟩; clear cC; replace H := pc H hb; clear hb; obtain ⟨-, cC⟩ := n1_ H)
  | (go_at_call 46; refine (xX_ _).mono ?_; rintro e W3 ⟨rfl, hb⟩; clear cC; replace H := pc H hb; clear hb; obtain ⟨-, cC⟩ := n1_ H)
 go_ret
 exact ⟨rfl, H.out.below⟩
theorem law44_many (id m u b c z s me o a l : Int) (at1 n1 : Int) (Aa : Option Addr) (ca : Nat) (xs : List S65) (w : World) (hr : Kd.C k65 w Aa xs.length xs) (hc : xs.length <= ca) (hm : ∀ (W' : World), Below w.heap.size w W' -> Calls Try.prog 24 #[.agg #[.int .i64 id, .int .i64 m, .int .i64 u, .int .i64 b, .int .i64 c, .int .i64 z, .int .i64 s, .int .i64 me, .int .i64 o, .int .i64 a, .int .i64 l], .slice Aa xs.length ca] W' fun e w' => e = .returned (.bool false) /\ Below W'.heap.size W' w') (hmm : (20 : Int) < m) :
  Calls Try.prog 10 #[.agg #[.int .i64 id, .int .i64 m, .int .i64 u, .int .i64 b, .int .i64 c, .int .i64 z, .int .i64 s, .int .i64 me, .int .i64 o, .int .i64 a, .int .i64 l], .int .i64 at1, .int .i64 n1, .slice Aa xs.length ca] w fun e w' => e = .returned (.bool true) /\ Below w.heap.size w w' := by
 have H := hid (Pk.start w)
 have HM := hid hm; clear hm hr
 go_enter Try.func10, Try.ntmps10
 go_wp2_with first
  | (apply bh H 4 (cL id m u b c z s me o a l) 23; clear H; intro gC W1 H; obtain ⟨-, cC⟩ := n1_ H)
  | (go_at_call 24; refine (HM.out _ H.out.below).mono ?_; rintro e W2 ⟨rfl, hb⟩; clear cC; replace H := pc H hb; clear hb; obtain ⟨-, cC⟩ := n1_ H)
  | (go_at_call 46; refine (xX_ _).mono ?_; rintro e W3 ⟨rfl, hb⟩; clear cC; replace H := pc H hb; clear hb; obtain ⟨-, cC⟩ := n1_ H)
 go_ret
 exact ⟨rfl, H.out.below⟩
theorem law44_no (id m u b c z s me o a l : Int) (at1 n1 : Int) (Aa : Option Addr) (ca : Nat) (xs : List S65) (w : World) (hr : Kd.C k65 w Aa xs.length xs) (hc : xs.length <= ca) (hm : ∀ (W' : World), Below w.heap.size w W' -> Calls Try.prog 24 #[.agg #[.int .i64 id, .int .i64 m, .int .i64 u, .int .i64 b, .int .i64 c, .int .i64 z, .int .i64 s, .int .i64 me, .int .i64 o, .int .i64 a, .int .i64 l], .slice Aa xs.length ca] W' fun e w' => e = .returned (.bool false) /\ Below W'.heap.size W' w') (hmm : ¬ (20 : Int) < m) (hk : ¬ jn_ id m u b c z s me o a l = 0) :
  Calls Try.prog 10 #[.agg #[.int .i64 id, .int .i64 m, .int .i64 u, .int .i64 b, .int .i64 c, .int .i64 z, .int .i64 s, .int .i64 me, .int .i64 o, .int .i64 a, .int .i64 l], .int .i64 at1, .int .i64 n1, .slice Aa xs.length ca] w fun e w' => e = .returned (.bool true) /\ Below w.heap.size w w' := by
 have H := hid (Pk.start w)
 have HM := hid hm; have HX := hid hr; clear hm
 have hof := fun W => yl_ id m u b c z s me o a l at1 n1 W
 have hrf := fun W => rof_any id m u b c z s me o a l at1 n1 W
 have hll := zL_ id m u b c z s me o a l at1 n1
 generalize loadsOf id m u b c z s me o a l at1 n1 = LL at hof hrf hll
 have HLL := hid (show LL.length < 1000000 by omega)
 have HOF := hid hof; have HRF := hid hrf; clear hof hrf hll
 have hck := fun W => PG.revetmentref07_Check.calls id m u b c z s me o a l _ W (by unfold PG.revetmentref07_Check.f; rfl)
 have hpl := fun (W : World) (h : Kd.C k65 W Aa xs.length xs) => lplay_no id m u b c z s me o a l Aa ca xs W h hc hk
 generalize jn_ id m u b c z s me o a l = E at hck hk
 have kb : (E == 0) = false := beq_eq_false_iff_ne.mpr hk; have kb2 : (E != 0) = true := bne_iff_ne.mpr hk
 have HCK := hid hck; have HPL := hid hpl; clear hck hpl hk hr
 go_enter Try.func10, Try.ntmps10
 go_wp2_with first
  | (apply bh H 4 (cL id m u b c z s me o a l) 23; clear H; intro gC W1 H; obtain ⟨-, cC⟩ := n1_ H)
  | (go_at_call 24; refine (HM.out _ H.out.below).mono ?_; rintro e W2 ⟨rfl, hb⟩; clear cC; replace H := pc H hb; clear hb; obtain ⟨-, cC⟩ := n1_ H)
 clear cC
 refine jN_ (n := 10) (S := fun W => bW W gC (cL id m u b c z s me o a l)) (ds := []) (bq 10 0) (by kernel_rfl) rfl (by kernel_rfl) (H.out.drew.cell 0 rfl) (fun hHeld => ?_)
 refine jw_ kH_ kE_ (fun HT_ HW_ => ?_)
 have zH := H.out.drew
 generalize W2.drew = W3 at zH hHeld ⊢
 replace H := hid zH; clear zH
 apply tw 0 18 (bq 10 1) HT_ HW_ hHeld
 apply pu 1 19 (bq 10 3) HT_
 apply pu 2 20 (bq 10 7) HT_
 apply tw 4 22 (bq 10 23) HT_ HW_ hHeld
 apply pu 5 23 (bq 10 55) HT_
 apply pu 6 24 (bq 10 119) HT_
 apply on 3 (some 21) (bq 10 127) HT_; intro K hK
 refine gs Try.func48 #[.agg #[.int .i64 id, .int .i64 m, .int .i64 u, .int .i64 b, .int .i64 c, .int .i64 z, .int .i64 s, .int .i64 me, .int .i64 o, .int .i64 a, .int .i64 l], .int .i64 at1, .int .i64 n1] ?_
 refine (HOF.out _).mono ?_
 rintro e W4 ⟨v0_, rfl, hR, hb⟩
 refine ⟨_, rfl, ?_⟩
 obtain ⟨A1_, k1_, rfl⟩ := Kd.R_slice hR
 replace H := pr H hb hR
 clear hR
 clear hb
 refine hK.out _ _ (H.out.cell 0 rfl) (fun hHeld => ?_)
 clear hK K
 apply nm 0
 apply on 7 (some 25) (bq 10 255) HT_; intro K hK
 refine gs Try.func49 #[.agg #[.int .i64 id, .int .i64 m, .int .i64 u, .int .i64 b, .int .i64 c, .int .i64 z, .int .i64 s, .int .i64 me, .int .i64 o, .int .i64 a, .int .i64 l], .int .i64 at1, .int .i64 n1] ?_
 refine (HRF.out _).mono ?_
 rintro e W5 ⟨v0_, rfl, hR, hb⟩
 refine ⟨_, rfl, ?_⟩
 obtain ⟨A2_, k2_, rfl⟩ := Kd.R_slice hR
 replace H := pr H hb hR
 clear hR
 clear hb
 refine hK.out _ _ (H.out.cell 0 rfl) (fun hHeld => ?_)
 clear hK K
 apply nm 0
 apply on 8 (some 26) (bq 10 511) HT_; intro K hK
 refine gs Try.func47 #[.slice A1_ LL.length k1_, .slice A2_ LL.length k2_] ?_
 refine (yO_ A1_ A2_ k1_ k2_ LL _ (Kd.R_reads' (H.out.fact 1 rfl)).2.2 (Kd.R_reads' (H.out.fact 0 rfl)).2.2 HLL.out).mono ?_
 rintro e W6 ⟨rfl, hb⟩
 refine ⟨_, rfl, ?_⟩
 replace H := pc H hb
 clear hb
 refine hK.out _ _ (H.out.cell 0 rfl) (fun hHeld => ?_)
 clear hK K
 apply nm 0
 apply pu 9 27 (bq 10 1023) HT_
 refine kk_ (jF_ HT_.out (by kernel_rfl)) ?_
 obtain ⟨-, cC⟩ := n1_ H
 go_wp2_with first
  | (go_at_call 13; refine (HCK.out _).mono ?_; rintro e W7 ⟨rfl, hb⟩; clear cC; replace H := pc H hb; clear hb; obtain ⟨-, cC⟩ := n1_ H)
  | (go_at_call 50; refine (HPL.out _ (Kd.C_below HX.out H.out.below)).mono ?_; rintro e W8 ⟨rfl, hb⟩; clear cC; replace H := pc H hb; clear hb; obtain ⟨-, cC⟩ := n1_ H)
  | (go_at_call 46; refine (xX_ _).mono ?_; rintro e W9 ⟨rfl, hb⟩; clear cC; replace H := pc H hb; clear hb; obtain ⟨-, cC⟩ := n1_ H)
 go_ret
 exact ⟨rfl, H.out.below⟩
theorem law44_yes (id m u b c z s me o a l : Int) (at1 n1 : Int) (Aa : Option Addr) (ca : Nat) (xs : List S65) (w : World) (hr : Kd.C k65 w Aa xs.length xs) (hc : xs.length <= ca) (hm : ∀ (W' : World), Below w.heap.size w W' -> Calls Try.prog 24 #[.agg #[.int .i64 id, .int .i64 m, .int .i64 u, .int .i64 b, .int .i64 c, .int .i64 z, .int .i64 s, .int .i64 me, .int .i64 o, .int .i64 a, .int .i64 l], .slice Aa xs.length ca] W' fun e w' => e = .returned (.bool false) /\ Below W'.heap.size W' w') (hmm : ¬ (20 : Int) < m) (hk : jn_ id m u b c z s me o a l = 0) :
  Calls Try.prog 10 #[.agg #[.int .i64 id, .int .i64 m, .int .i64 u, .int .i64 b, .int .i64 c, .int .i64 z, .int .i64 s, .int .i64 me, .int .i64 o, .int .i64 a, .int .i64 l], .int .i64 at1, .int .i64 n1, .slice Aa xs.length ca] w fun e w' => e = .returned (.bool true) /\ Below w.heap.size w w' := by
 have H := hid (Pk.start w)
 have HM := hid hm; have HX := hid hr; clear hm
 have hof := fun W => yl_ id m u b c z s me o a l at1 n1 W
 have hrf := fun W => rof_any id m u b c z s me o a l at1 n1 W
 have hll := zL_ id m u b c z s me o a l at1 n1
 generalize loadsOf id m u b c z s me o a l at1 n1 = LL at hof hrf hll
 have HLL := hid (show LL.length < 1000000 by omega)
 have HOF := hid hof; have HRF := hid hrf; clear hof hrf hll
 have hck := fun W => PG.revetmentref07_Check.calls id m u b c z s me o a l 0 W (by unfold PG.revetmentref07_Check.f; rw [hk])
 have hpl := fun (W : World) (h : Kd.C k65 W Aa xs.length xs) => lplay_yes id m u b c z s me o a l Aa ca xs W h hc hk
 have hrp := fun (W : World) (h : Kd.C k65 W Aa xs.length xs) => rplay_yes id m u b c z s me o a l Aa ca xs W h hc hk
 rw [<- plays_same hk xs (⟨⟨List.replicate z.toNat z59, List.replicate z.toNat ByteArray.empty, List.replicate z.toNat 0⟩, List.replicate m.toNat ⟨0, 0⟩⟩ : Mdl × List S134) (ld0_inv m)] at hrp
 have hlp := (plays_inv hk xs (⟨⟨List.replicate z.toNat z59, List.replicate z.toNat ByteArray.empty, List.replicate z.toNat 0⟩, List.replicate m.toNat ⟨0, 0⟩⟩ : Mdl × List S134) (ld0_inv m)).1
 have m2 := (good hk).1.m2
 generalize (xs.foldl (qe_ id m u b c z s me o a l) (⟨⟨List.replicate z.toNat z59, List.replicate z.toNat ByteArray.empty, List.replicate z.toNat 0⟩, List.replicate m.toNat ⟨0, 0⟩⟩ : Mdl × List S134)).2 = LP at hpl hrp hlp
 have HLP := hid (show LP.length < 1000000 by omega)
 have HCK := hid hck; have HPL := hid hpl; have HRP := hid hrp; clear hck hpl hrp hlp m2 hk hr
 go_enter Try.func10, Try.ntmps10
 go_wp2_with first
  | (apply bh H 4 (cL id m u b c z s me o a l) 23; clear H; intro gC W1 H; obtain ⟨-, cC⟩ := n1_ H)
  | (go_at_call 24; refine (HM.out _ H.out.below).mono ?_; rintro e W2 ⟨rfl, hb⟩; clear cC; replace H := pc H hb; clear hb; obtain ⟨-, cC⟩ := n1_ H)
 clear cC
 refine jN_ (n := 10) (S := fun W => bW W gC (cL id m u b c z s me o a l)) (ds := []) (bq 10 0) (by kernel_rfl) rfl (by kernel_rfl) (H.out.drew.cell 0 rfl) (fun hHeld => ?_)
 refine jw_ kH_ kE_ (fun HT_ HW_ => ?_)
 have zH := H.out.drew
 generalize W2.drew = W3 at zH hHeld ⊢
 replace H := hid zH; clear zH
 apply tw 0 18 (bq 10 1) HT_ HW_ hHeld
 apply pu 1 19 (bq 10 3) HT_
 apply pu 2 20 (bq 10 7) HT_
 apply tw 4 22 (bq 10 23) HT_ HW_ hHeld
 apply pu 5 23 (bq 10 55) HT_
 apply pu 6 24 (bq 10 119) HT_
 apply on 3 (some 21) (bq 10 127) HT_; intro K hK
 refine gs Try.func48 #[.agg #[.int .i64 id, .int .i64 m, .int .i64 u, .int .i64 b, .int .i64 c, .int .i64 z, .int .i64 s, .int .i64 me, .int .i64 o, .int .i64 a, .int .i64 l], .int .i64 at1, .int .i64 n1] ?_
 refine (HOF.out _).mono ?_
 rintro e W4 ⟨v0_, rfl, hR, hb⟩
 refine ⟨_, rfl, ?_⟩
 obtain ⟨A1_, k1_, rfl⟩ := Kd.R_slice hR
 replace H := pr H hb hR
 clear hR
 clear hb
 refine hK.out _ _ (H.out.cell 0 rfl) (fun hHeld => ?_)
 clear hK K
 apply nm 0
 apply on 7 (some 25) (bq 10 255) HT_; intro K hK
 refine gs Try.func49 #[.agg #[.int .i64 id, .int .i64 m, .int .i64 u, .int .i64 b, .int .i64 c, .int .i64 z, .int .i64 s, .int .i64 me, .int .i64 o, .int .i64 a, .int .i64 l], .int .i64 at1, .int .i64 n1] ?_
 refine (HRF.out _).mono ?_
 rintro e W5 ⟨v0_, rfl, hR, hb⟩
 refine ⟨_, rfl, ?_⟩
 obtain ⟨A2_, k2_, rfl⟩ := Kd.R_slice hR
 replace H := pr H hb hR
 clear hR
 clear hb
 refine hK.out _ _ (H.out.cell 0 rfl) (fun hHeld => ?_)
 clear hK K
 apply nm 0
 apply on 8 (some 26) (bq 10 511) HT_; intro K hK
 refine gs Try.func47 #[.slice A1_ LL.length k1_, .slice A2_ LL.length k2_] ?_
 refine (yO_ A1_ A2_ k1_ k2_ LL _ (Kd.R_reads' (H.out.fact 1 rfl)).2.2 (Kd.R_reads' (H.out.fact 0 rfl)).2.2 HLL.out).mono ?_
 rintro e W6 ⟨rfl, hb⟩
 refine ⟨_, rfl, ?_⟩
 replace H := pc H hb
 clear hb
 refine hK.out _ _ (H.out.cell 0 rfl) (fun hHeld => ?_)
 clear hK K
 apply nm 0
 apply pu 9 27 (bq 10 1023) HT_
 refine kk_ (jF_ HT_.out (by kernel_rfl)) ?_
 obtain ⟨-, cC⟩ := n1_ H
 go_wp2_with first
  | (go_at_call 13; refine (HCK.out _).mono ?_; rintro e W7 ⟨rfl, hb⟩; clear cC; replace H := pc H hb; clear hb; obtain ⟨-, cC⟩ := n1_ H)
 clear cC
 refine jN_ (n := 11) (S := fun W => bW W gC (cL id m u b c z s me o a l)) (ds := []) (bq 11 0) (by kernel_rfl) rfl (by kernel_rfl) (H.out.drew.cell 0 rfl) (fun hHeld => ?_)
 refine jw_ vG_ vE_ (fun HT_ HW_ => ?_)
 have zH := H.out.drew
 generalize W7.drew = W8 at zH hHeld ⊢
 replace H := hid zH; clear zH
 apply tw 0 39 (bq 11 1) HT_ HW_ hHeld
 apply pu 1 40 (bq 11 3) HT_
 apply tw 3 42 (bq 11 11) HT_ HW_ hHeld
 apply pu 4 43 (bq 11 27) HT_
 apply on 2 (some 41) (bq 11 31) HT_; intro K hK
 refine gs Try.func50 #[.agg #[.int .i64 id, .int .i64 m, .int .i64 u, .int .i64 b, .int .i64 c, .int .i64 z, .int .i64 s, .int .i64 me, .int .i64 o, .int .i64 a, .int .i64 l], .slice Aa xs.length ca] ?_
 refine (HPL.out _ (Kd.C_below HX.out H.out.below)).mono ?_
 rintro e W9 ⟨v0_, rfl, hR, hb⟩
 refine ⟨_, rfl, ?_⟩
 obtain ⟨A3_, k3_, rfl⟩ := Kd.R_slice hR
 replace H := pr H hb hR
 clear hR
 clear hb
 refine hK.out _ _ (H.out.cell 0 rfl) (fun hHeld => ?_)
 clear hK K
 apply nm 0
 apply on 5 (some 44) (bq 11 63) HT_; intro K hK
 refine gs Try.func51 #[.agg #[.int .i64 id, .int .i64 m, .int .i64 u, .int .i64 b, .int .i64 c, .int .i64 z, .int .i64 s, .int .i64 me, .int .i64 o, .int .i64 a, .int .i64 l], .slice Aa xs.length ca] ?_
 refine (HRP.out _ (Kd.C_below HX.out H.out.below)).mono ?_
 rintro e W10 ⟨v0_, rfl, hR, hb⟩
 refine ⟨_, rfl, ?_⟩
 obtain ⟨A4_, k4_, rfl⟩ := Kd.R_slice hR
 replace H := pr H hb hR
 clear hR
 clear hb
 refine hK.out _ _ (H.out.cell 0 rfl) (fun hHeld => ?_)
 clear hK K
 apply nm 0
 apply on 6 (some 45) (bq 11 127) HT_; intro K hK
 refine gs Try.func47 #[.slice A3_ LP.length k3_, .slice A4_ LP.length k4_] ?_
 refine (yO_ A3_ A4_ k3_ k4_ LP _ (Kd.R_reads' (H.out.fact 1 rfl)).2.2 (Kd.R_reads' (H.out.fact 0 rfl)).2.2 HLP.out).mono ?_
 rintro e W11 ⟨rfl, hb⟩
 refine ⟨_, rfl, ?_⟩
 replace H := pc H hb
 clear hb
 refine hK.out _ _ (H.out.cell 0 rfl) (fun hHeld => ?_)
 clear hK K
 apply nm 0
 apply pu 7 46 (bq 11 255) HT_
 apply on 8 (some 47) (bq 11 511) HT_; intro K hK
 refine gs Try.func46 #[] ?_
 refine (xX_ _).mono ?_
 rintro e W12 ⟨rfl, hb⟩
 refine ⟨_, rfl, ?_⟩
 replace H := pc H hb
 clear hb
 refine hK.out _ _ (H.out.cell 0 rfl) (fun hHeld => ?_)
 clear hK K
 apply nm 0
 apply pu 9 48 (bq 11 1023) HT_
 apply pu 10 8 (bq 11 2047) HT_
 refine kk_ (jF_ HT_.out (by kernel_rfl)) ?_
 obtain ⟨-, cC⟩ := n1_ H
 go_wp2
 go_ret
 exact ⟨rfl, H.out.below⟩
theorem law44_any (id m u b c z s me o a l : Int) (at1 n1 : Int) (Aa : Option Addr) (ca : Nat) (xs : List S65) (w : World) (hr : Kd.C k65 w Aa xs.length xs) (hc : xs.length <= ca) :
  Calls Try.prog 10 #[.agg #[.int .i64 id, .int .i64 m, .int .i64 u, .int .i64 b, .int .i64 c, .int .i64 z, .int .i64 s, .int .i64 me, .int .i64 o, .int .i64 a, .int .i64 l], .int .i64 at1, .int .i64 n1, .slice Aa xs.length ca] w fun e w' => e = .returned (.bool true) /\ Below w.heap.size w w' := by
 obtain ⟨B, -, hm⟩ := much_any id m u b c z s me o a l Aa ca xs w hr hc
 cases B
 ·
  by_cases hmm : (20 : Int) < m
  · exact law44_many id m u b c z s me o a l at1 n1 Aa ca xs w hr hc hm hmm
  ·
   by_cases hk : jn_ id m u b c z s me o a l = 0
   · exact law44_yes id m u b c z s me o a l at1 n1 Aa ca xs w hr hc hm hmm hk
   · exact law44_no id m u b c z s me o a l at1 n1 Aa ca xs w hr hc hm hmm hk
 · exact law44_much id m u b c z s me o a l at1 n1 Aa ca xs w hr hc hm
end Go.Proofs.Ytgckcaoncjhgbaa
namespace Go.Proofs.Ytgckcaoncjhgbaa
open Go.RowKit Go.Proofs.Ytgckcaoncjhgbaa.PL Go.Proofs.YtgckcaoncjhgbaaW.PrintWords Go.Proofs.YtgckcaoncjhgbaaW.PrintLast
set_option linter.unusedVariables false
set_option linter.unusedSimpArgs false
namespace PL
def revetmentlaw44_LoadsOf.f (id m u b c z s me o a l : Int) (at1 n1 : Int) (xs : List S65) : Option Bool := some true
theorem revetmentlaw44_LoadsOf.calls (id m u b c z s me o a l : Int) (at1 n1 : Int) (A3 : Option Addr) (c3 : Nat) (xs : List S65) (w : World) (hr3 : Kd.C k65 w A3 xs.length xs) (hc3 : xs.length <= c3) (h : revetmentlaw44_LoadsOf.f id m u b c z s me o a l at1 n1 xs = some true) :
  Calls Try.prog 10 #[.agg #[.int .i64 id, .int .i64 m, .int .i64 u, .int .i64 b, .int .i64 c, .int .i64 z, .int .i64 s, .int .i64 me, .int .i64 o, .int .i64 a, .int .i64 l], .int .i64 at1, .int .i64 n1, .slice A3 xs.length c3] w fun e w' => e = .returned (.bool true) /\ Below w.heap.size w w' :=
 law44_any id m u b c z s me o a l at1 n1 A3 c3 xs w hr3 hc3
end PL
theorem Geo.loadsOf_true (id m u b c z s me o a l : Int) (at1 n1 : Int) (xs : List S65) : revetmentlaw44_LoadsOf.f id m u b c z s me o a l at1 n1 xs = some true := rfl
end Go.Proofs.Ytgckcaoncjhgbaa
