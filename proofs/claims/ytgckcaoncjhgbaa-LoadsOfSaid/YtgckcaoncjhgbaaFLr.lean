/- revetmentref18.Do, over the same plain model. -/
/- revetmentref17.New, revetmentref18.New. -/
/- The walk of revetmentref44.Play. -/
import Derived.Test.YtgckcaoncjhgbaaRmDoA
import Derived.Test.YtgckcaoncjhgbaaRmDoB
import Derived.Test.YtgckcaoncjhgbaaRmDoC
import Derived.Test.YtgckcaoncjhgbaaRmDoD
import Derived.Test.YtgckcaoncjhgbaaFMe
import Derived.Test.YtgckcaoncjhgbaaFLl
set_option maxHeartbeats 16000000
set_option maxRecDepth 100000
open Go.Lib (hid)
namespace Go.Proofs.Ytgckcaoncjhgbaa
open Go.RowKit Go.Proofs.Ytgckcaoncjhgbaa.PL Go.Proofs.YtgckcaoncjhgbaaW.PrintWords Go.Proofs.YtgckcaoncjhgbaaW.PrintLast
set_option linter.unusedVariables false
set_option linter.unusedSimpArgs false
attribute [local go_sem] List.getElem?_toArray List.getElem?_cons_succ List.getElem?_cons_zero mL tL cL xL rL oL
theorem rdo_any (id m u b c z s me o a l : Int) (x y q : Value) (D : Mdl) (kd : Int) (i p n : Int) (Ad : Option Addr) (kdd : Nat) (d : List Int) (f : Bool) (w : World) (h : MC w x y q D) (hi : MInv id m u b c z s me o a l D) (hd : Kd.C (Kd.int .u8) w Ad d.length d) (hdk : d.length <= kdd) :
  Calls Try.prog 28 #[modV id m u b c z s me o a l x y q, cmdV kd i p n (.slice Ad d.length kdd) f] w (RsP id m u b c z s me o a l x y q D (doM id m u b c z s me o a l D (⟨kd, i, p, n, d, f⟩ : S65)) w) := by
 by_cases k0_ : kd = 0
 ·
  subst k0_
  by_cases hin : ¬ (0 <= i /\ i < (D.T.length : Int))
  · exact rdo_write_a id m u b c z s me o a l x y q D i p n Ad kdd d f w h hi hd hdk hin
  have hin := Decidable.not_not.mp hin
  by_cases hal : ¬ (d.length : Int) % b = 0
  · exact rdo_write_b id m u b c z s me o a l x y q D i p n Ad kdd d f w h hi hd hdk hin hal
  have hal := Decidable.not_not.mp hal
  by_cases he : ¬ (ke_ id m u b c z s me o a l D.L i p ((d.length : Int) / b)).2 = 0
  · exact rdo_write_c id m u b c z s me o a l x y q D i p n Ad kdd d f w h hi hd hdk hin hal he
  have he := Decidable.not_not.mp he
  cases f
  · exact rdo_write_d id m u b c z s me o a l x y q D i p n Ad kdd d w h hi hd hdk hin hal he
  · exact rdo_write_e id m u b c z s me o a l x y q D i p n Ad kdd d w h hi hd hdk hin hal he
 by_cases k1_ : kd = 1
 ·
  subst k1_
  by_cases he : xo_ id m u b c z s me o a l D.L i p n = 0
  · exact rdo_read_ok id m u b c z s me o a l x y q D i p n Ad kdd d f w h hi hd hdk he
  · exact rdo_read_err id m u b c z s me o a l x y q D i p n Ad kdd d f w h hi hd hdk he
 by_cases k2_ : kd = 2
 · subst k2_; exact rdo_flush id m u b c z s me o a l x y q D i p n Ad kdd d f w h hi hd hdk
 by_cases k3_ : kd = 3
 ·
  subst k3_
  by_cases he : (jT_ id m u b c z s me o a l D.L i).2 = 0
  · exact rdo_reset_ok id m u b c z s me o a l x y q D i p n Ad kdd d f w h hi hd hdk he
  · exact rdo_reset_err id m u b c z s me o a l x y q D i p n Ad kdd d f w h hi hd hdk he
 by_cases k4_ : kd = 4
 ·
  subst k4_
  by_cases he : (jL_ id m u b c z s me o a l D.L i).2 = 0
  · exact rdo_finish_ok id m u b c z s me o a l x y q D i p n Ad kdd d f w h hi hd hdk he
  · exact qd_ id m u b c z s me o a l x y q D i p n Ad kdd d f w h hi hd hdk he
 by_cases k5_ : kd = 5
 ·
  subst k5_
  by_cases he : (kv_ id m u b c z s me o a l D.L i).2 = 0
  · exact rdo_open_ok id m u b c z s me o a l x y q D i p n Ad kdd d f w h hi hd hdk he
  · exact rdo_open_err id m u b c z s me o a l x y q D i p n Ad kdd d f w h hi hd hdk he
 by_cases k6_ : kd = 6
 ·
  subst k6_
  by_cases he : (jV_ id m u b c z s me o a l D.L i).2 = 0
  · exact rdo_close_ok id m u b c z s me o a l x y q D i p n Ad kdd d f w h hi hd hdk he
  · exact rdo_close_err id m u b c z s me o a l x y q D i p n Ad kdd d f w h hi hd hdk he
 by_cases k7_ : kd = 7
 ·
  subst k7_
  by_cases hin : 0 <= i /\ i < (D.T.length : Int)
  · exact rdo_zone id m u b c z s me o a l x y q D i p n Ad kdd d f w h hi hd hdk hin
  · exact rdo_nozone id m u b c z s me o a l x y q D i p n Ad kdd d f w h hi hd hdk hin
 exact rdo_other id m u b c z s me o a l x y q D kd i p n Ad kdd d f w h hi hd hdk k0_ k1_ k2_ k3_ k4_ k5_ k6_ k7_
def vs_ : Bool × List (List Nat × List Nat) := (true, [([], []), ([], []), ([1], [1]), ([2, 2], [2]), ([0, 3], [0, 3]), ([4, 0, 1, 2, 3, 4], [4])])
theorem xl_ : rtab .any (kT_ Try.f15 1) = vs_ := by kernel_rfl
theorem xe_ : jO_ vs_.2 [0, 0, 2, 6, 15, 31] = true := by kernel_rfl
theorem rnew_any (id m u b c z s me o a l : Int) (w : World) (z0 : 0 <= z) (z1 : z <= 64) :
  Calls Try.prog 15 #[.agg #[.int .i64 id, .int .i64 m, .int .i64 u, .int .i64 b, .int .i64 c, .int .i64 z, .int .i64 s, .int .i64 me, .int .i64 o, .int .i64 a, .int .i64 l]] w fun e w' => ∃ (A2 : Option Addr) (k2 : Nat), e = .returned (tabV id m u b c z s me o a l (.slice A2 z.toNat k2)) /\ Kd.R k59 59 w' w.heap.size (fun _ => True) (.slice A2 z.toNat k2) (List.replicate z.toNat z59) /\ Below w.heap.size w w' := by
 have H := hid (Pk.start w)
 have hln : z.toNat * 24 <= 281474976710656 := by omega
 go_enter Try.func15, Try.ntmps15
 go_wp2_with first
  | (apply bh H 1 (cL id m u b c z s me o a l) 23; clear H; intro gC W1 H; obtain ⟨-, cC⟩ := n1_ H)
  | (apply bh H 2 (tL 0 0 0 0 0 0 0 0 0 0 0 nil_) 35; clear H cC; intro gR W2 H; obtain ⟨-, cR, cC⟩ := n2_ H)
 clear cR cC
 refine jN_ (n := 6) (S := fun W => bW W gC (cL id m u b c z s me o a l)) (ds := []) (bq 6 0) (by kernel_rfl) rfl (by kernel_rfl) (H.out.drew.cell 1 rfl) (fun hHeld => ?_)
 refine jw_ xl_ xe_ (fun HT_ HW_ => ?_)
 have zH := H.out.drew
 generalize W2.drew = W3 at zH hHeld ⊢
 replace H := hid zH; clear zH
 apply tw 0 3 (bq 6 1) HT_ HW_ hHeld
 apply pu 1 4 (bq 6 3) HT_
 apply tw 2 5 (bq 6 7) HT_ HW_ hHeld
 apply on 3 (some 6) (bq 6 15) HT_; intro K hK
 obtain ⟨-, cR, cC⟩ := n2_ H
 refine Kd.R_make_step k59 w.heap.size 59 (by rfl) (N := 6) rfl 25 _ _ rfl z rfl rfl Try.underlying25 (.agg #[(.int .i64 0), (.int .i64 0), (.int .i64 0)]) 24 info59 rfl (by decide) (by omega) z59 (ok := fun _ => True) (okp := fun _ => True) (k59_mkM _ _ _ z59) (fun _ hk => hk) trivial (z0) (hln) H.out.below H.out.below.size ?_
 intro v_ W4 hR hB_ hgr_ hnew_
 obtain ⟨AL, kL, rfl⟩ := Kd.R_slice hR
 simp only [List.length_replicate] at hR ⊢
 clear cR cC
 have hb := jR_ hgr_
 replace H := hid ((H.out.called hb).row (RowF k59 59 w.heap.size (.slice AL z.toNat kL) (List.replicate z.toNat z59)) hR)
 clear hb hR hB_ hgr_ hnew_
 refine hK.out _ _ (H.out.cell 1 rfl) (fun hHeld => ?_)
 clear hK K
 apply nm 0
 apply pu 4 7 (bq 6 31) HT_
 apply on 5 none (bq 6 63) HT_; intro K hK
 obtain ⟨-, cR, cC⟩ := n2_ H
 apply shs H 0 35 2 gR (tL id m u b c z s me o a l (.slice AL z.toNat kL))
 clear H cR cC
 intro W5 K_
 have H := (n2_ K_).1; clear K_
 refine hK.out _ _ (H.out.cell 1 rfl) (fun hHeld => ?_)
 clear hK K
 refine kk_ (jF_ HT_.out (by kernel_rfl)) ?_
 obtain ⟨-, cR, cC⟩ := n2_ H
 go_wp2
 refine bodyPost_ret (results_cell_row rfl _ _ gR 35 (tL id m u b c z s me o a l (.slice AL z.toNat kL)).toArray (0, 0) _ rfl (H.out.at_ 0 rfl) Try.underlying35 rfl (by kernel_rfl)) rfl ?_
 exact ⟨_, _, rfl, (H.out.fact 0 rfl), H.out.below⟩
def vn_ : Bool × List (List Nat × List Nat) := (true, [([], []), ([0], [0]), ([], []), ([2], [2]), ([3, 3], [3]), ([], []), ([5], [5]), ([6, 6], [6]), ([1, 4, 7], [1, 4, 7]), ([8, 1, 0, 1, 2, 3, 4, 5, 6, 7, 8], [8])])
theorem xh_ : rtab .any (kT_ Try.f27 1) = vn_ := by kernel_rfl
theorem xa_ : jO_ vn_.2 [0, 1, 0, 4, 12, 0, 32, 96, 255, 511] = true := by kernel_rfl
theorem rmnew_any (id m u b c z s me o a l : Int) (w : World) (z0 : 0 <= z) (z1 : z <= 64) :
  Calls Try.prog 27 #[.agg #[.int .i64 id, .int .i64 m, .int .i64 u, .int .i64 b, .int .i64 c, .int .i64 z, .int .i64 s, .int .i64 me, .int .i64 o, .int .i64 a, .int .i64 l]] w fun e w' => ∃ x y q : Value, e = .returned (modV id m u b c z s me o a l x y q) /\ MR w.heap.size w' x y q ⟨List.replicate z.toNat z59, List.replicate z.toNat ByteArray.empty, List.replicate z.toNat 0⟩ /\ Below w.heap.size w w' := by
 have H := hid (Pk.start w)
 have hln : z.toNat * 16 <= 281474976710656 := by omega
 have hln2 : z.toNat * 8 <= 281474976710656 := by omega
 have HN := hid (fun W => rnew_any id m u b c z s me o a l W z0 z1)
 go_enter Try.func27, Try.ntmps27
 go_wp2_with first
  | (apply bh H 1 (cL id m u b c z s me o a l) 23; clear H; intro gC W1 H; obtain ⟨-, cC⟩ := n1_ H)
  | (apply bh H 2 (mL 0 0 0 0 0 0 0 0 0 0 0 nil_ nil_ nil_) 68; clear H cC; intro gR W2 H; obtain ⟨-, cR, cC⟩ := n2_ H)
 clear cR cC
 refine jN_ (n := 10) (S := fun W => bW W gC (cL id m u b c z s me o a l)) (ds := []) (bq 10 0) (by kernel_rfl) rfl (by kernel_rfl) (H.out.drew.cell 1 rfl) (fun hHeld => ?_)
 refine jw_ xh_ xa_ (fun HT_ HW_ => ?_)
 have zH := H.out.drew
 generalize W2.drew = W3 at zH hHeld ⊢
 replace H := hid zH; clear zH
 apply tw 0 3 (bq 10 1) HT_ HW_ hHeld
 apply pu 2 5 (bq 10 5) HT_
 apply tw 3 6 (bq 10 13) HT_ HW_ hHeld
 apply pu 5 8 (bq 10 45) HT_
 apply tw 6 9 (bq 10 109) HT_ HW_ hHeld
 have b0 := hid (Below.refl W3.heap.size W3)
 refine zM_ (σ := Option Addr × Nat × Option Addr × Nat × Option Addr × Nat) 2 (bq 10 255) (fun y => [(4, tabV id m u b c z s me o a l (.slice y.1 z.toNat y.2.1)), (7, (.slice y.2.2.1 z.toNat y.2.2.2.1)), (10, (.slice y.2.2.2.2.1 z.toNat y.2.2.2.2.2))]) (fun y W => (bW W gC (cL id m u b c z s me o a l)) /\ Below W3.heap.size W3 W /\ Kd.R (Kd.int .i64) 3 W w.heap.size (fun _ => True) (.slice y.2.2.2.2.1 z.toNat y.2.2.2.2.2) (List.replicate z.toNat (0 : Int)) /\ Kd.R Kd.string 9 W w.heap.size (fun _ => True) (.slice y.2.2.1 z.toNat y.2.2.2.1) (List.replicate z.toNat ByteArray.empty) /\ Kd.R k59 59 W w.heap.size (fun _ => True) (.slice y.1 z.toNat y.2.1) (List.replicate z.toNat z59)) ?_ ?_
 rotate_left
 ·
  intro hCont
  refine three_ (i := 1) (j := 4) (k := 7) (Ni := some 4) (Nj := some 7) (Nk := some 10) (bq 10 111) (bq 10 125) (bq 10 237) rfl rfl rfl rfl rfl rfl (three_of HT_.out (by kernel_rfl)) (by decide) (by decide) (by decide) (fun K hK => ?_) (fun K hK => ?_) (fun K hK => ?_)
  ·
   refine gs Try.func15 #[.agg #[.int .i64 id, .int .i64 m, .int .i64 u, .int .i64 b, .int .i64 c, .int .i64 z, .int .i64 s, .int .i64 me, .int .i64 o, .int .i64 a, .int .i64 l]] ?_
   refine (HN.out _).mono ?_
   rintro e W4 ⟨A2, k2, rfl, hR, hb⟩
   refine ⟨_, rfl, ?_⟩
   replace H := pr H hb hR
   replace b0 := hid (jc_ b0.out hb)
   clear hR
   clear hb
   refine hK.out _ _ (H.out.cell 1 rfl) (fun hHeld => ?_)
   clear hK K
   apply nm 0
   refine two_ (i := 4) (j := 7) (Ni := some 7) (Nj := some 10) (bq 10 127) (bq 10 239) rfl rfl rfl rfl (vL_ HT_.out (by kernel_rfl)) (by decide) (by decide) (fun K hK => ?_) (fun K hK => ?_)
   ·
    obtain ⟨-, cR, cC⟩ := n2_ H
    refine Kd.R_make_step Kd.string w.heap.size 9 (by rfl) (N := 7) rfl 50 _ _ rfl z rfl rfl Try.underlying50 (.string ⟨#[]⟩) 16 info9 rfl (by decide) (by omega) ByteArray.empty (ok := fun _ => True) (okp := fun _ => True) (rfl) (fun _ hk => hk) trivial (z0) (hln) H.out.below H.out.below.size ?_
    intro v_ W5 hR hB_ hgr_ hnew_
    obtain ⟨AY, kY, rfl⟩ := Kd.R_slice hR
    simp only [List.length_replicate] at hR ⊢
    clear cR cC
    have hb := jR_ hgr_
    replace H := hid ((H.out.called hb).row (RowF Kd.string 9 w.heap.size (.slice AY z.toNat kY) (List.replicate z.toNat ByteArray.empty)) hR)
    replace b0 := hid (jc_ b0.out hb)
    clear hb hR hB_ hgr_ hnew_
    refine hK.out _ _ (H.out.cell 1 rfl) (fun hHeld => ?_)
    clear hK K
    apply nm 0
    apply on 7 (some 10) (bq 10 255) HT_; intro K hK
    obtain ⟨-, cR, cC⟩ := n2_ H
    refine Kd.R_make_step (Kd.int .i64) w.heap.size 3 (by rfl) (N := 10) rfl 51 _ _ rfl z rfl rfl Try.underlying51 (.int .i64 0) 8 zN_ rfl (by decide) (by omega) (0 : Int) (ok := fun _ => True) (okp := fun _ => True) (rfl) (fun _ hk => hk) trivial (z0) (hln2) H.out.below H.out.below.size ?_
    intro v_ W6 hR hB_ hgr_ hnew_
    obtain ⟨AQ, kQ, rfl⟩ := Kd.R_slice hR
    simp only [List.length_replicate] at hR ⊢
    clear cR cC
    have hb := jR_ hgr_
    replace H := hid ((H.out.called hb).row (RowF (Kd.int .i64) 3 w.heap.size (.slice AQ z.toNat kQ) (List.replicate z.toNat (0 : Int))) hR)
    replace b0 := hid (jc_ b0.out hb)
    clear hb hR hB_ hgr_ hnew_
    refine hK.out _ _ (H.out.cell 1 rfl) (fun hHeld => ?_)
    clear hK K
    apply nm 0
    exact kw_ (by simp only [jS_, Act.put, List.setIfInBounds_toArray, List.set_cons_zero, List.set_cons_succ]) (hCont (A2, k2, AY, kY, AQ, kQ) _ ⟨hHeld, b0.out, H.out.fact 0 rfl, H.out.fact 1 rfl, H.out.fact 2 rfl⟩)
   ·
    obtain ⟨-, cR, cC⟩ := n2_ H
    refine Kd.R_make_step (Kd.int .i64) w.heap.size 3 (by rfl) (N := 10) rfl 51 _ _ rfl z rfl rfl Try.underlying51 (.int .i64 0) 8 zN_ rfl (by decide) (by omega) (0 : Int) (ok := fun _ => True) (okp := fun _ => True) (rfl) (fun _ hk => hk) trivial (z0) (hln2) H.out.below H.out.below.size ?_
    intro v_ W5 hR hB_ hgr_ hnew_
    obtain ⟨AQ, kQ, rfl⟩ := Kd.R_slice hR
    simp only [List.length_replicate] at hR ⊢
    clear cR cC
    have hb := jR_ hgr_
    replace H := hid ((H.out.called hb).row (RowF (Kd.int .i64) 3 w.heap.size (.slice AQ z.toNat kQ) (List.replicate z.toNat (0 : Int))) hR)
    replace b0 := hid (jc_ b0.out hb)
    clear hb hR hB_ hgr_ hnew_
    refine hK.out _ _ (H.out.cell 1 rfl) (fun hHeld => ?_)
    clear hK K
    apply nm 0
    apply on 4 (some 7) (bq 10 255) HT_; intro K hK
    obtain ⟨-, cR, cC⟩ := n2_ H
    refine Kd.R_make_step Kd.string w.heap.size 9 (by rfl) (N := 7) rfl 50 _ _ rfl z rfl rfl Try.underlying50 (.string ⟨#[]⟩) 16 info9 rfl (by decide) (by omega) ByteArray.empty (ok := fun _ => True) (okp := fun _ => True) (rfl) (fun _ hk => hk) trivial (z0) (hln) H.out.below H.out.below.size ?_
    intro v_ W6 hR hB_ hgr_ hnew_
    obtain ⟨AY, kY, rfl⟩ := Kd.R_slice hR
    simp only [List.length_replicate] at hR ⊢
    clear cR cC
    have hb := jR_ hgr_
    replace H := hid ((H.out.called hb).row (RowF Kd.string 9 w.heap.size (.slice AY z.toNat kY) (List.replicate z.toNat ByteArray.empty)) hR)
    replace b0 := hid (jc_ b0.out hb)
    clear hb hR hB_ hgr_ hnew_
    refine hK.out _ _ (H.out.cell 1 rfl) (fun hHeld => ?_)
    clear hK K
    apply nm 0
    exact kw_ (by simp only [jS_, Act.put, List.setIfInBounds_toArray, List.set_cons_zero, List.set_cons_succ]) (hCont (A2, k2, AY, kY, AQ, kQ) _ ⟨hHeld, b0.out, H.out.fact 1 rfl, H.out.fact 0 rfl, H.out.fact 2 rfl⟩)
  ·
   obtain ⟨-, cR, cC⟩ := n2_ H
   refine Kd.R_make_step Kd.string w.heap.size 9 (by rfl) (N := 7) rfl 50 _ _ rfl z rfl rfl Try.underlying50 (.string ⟨#[]⟩) 16 info9 rfl (by decide) (by omega) ByteArray.empty (ok := fun _ => True) (okp := fun _ => True) (rfl) (fun _ hk => hk) trivial (z0) (hln) H.out.below H.out.below.size ?_
   intro v_ W4 hR hB_ hgr_ hnew_
   obtain ⟨AY, kY, rfl⟩ := Kd.R_slice hR
   simp only [List.length_replicate] at hR ⊢
   clear cR cC
   have hb := jR_ hgr_
   replace H := hid ((H.out.called hb).row (RowF Kd.string 9 w.heap.size (.slice AY z.toNat kY) (List.replicate z.toNat ByteArray.empty)) hR)
   replace b0 := hid (jc_ b0.out hb)
   clear hb hR hB_ hgr_ hnew_
   refine hK.out _ _ (H.out.cell 1 rfl) (fun hHeld => ?_)
   clear hK K
   apply nm 0
   refine two_ (i := 1) (j := 7) (Ni := some 4) (Nj := some 10) (bq 10 127) (bq 10 253) rfl rfl rfl rfl (vL_ HT_.out (by kernel_rfl)) (by decide) (by decide) (fun K hK => ?_) (fun K hK => ?_)
   ·
    refine gs Try.func15 #[.agg #[.int .i64 id, .int .i64 m, .int .i64 u, .int .i64 b, .int .i64 c, .int .i64 z, .int .i64 s, .int .i64 me, .int .i64 o, .int .i64 a, .int .i64 l]] ?_
    refine (HN.out _).mono ?_
    rintro e W5 ⟨A2, k2, rfl, hR, hb⟩
    refine ⟨_, rfl, ?_⟩
    replace H := pr H hb hR
    replace b0 := hid (jc_ b0.out hb)
    clear hR
    clear hb
    refine hK.out _ _ (H.out.cell 1 rfl) (fun hHeld => ?_)
    clear hK K
    apply nm 0
    apply on 7 (some 10) (bq 10 255) HT_; intro K hK
    obtain ⟨-, cR, cC⟩ := n2_ H
    refine Kd.R_make_step (Kd.int .i64) w.heap.size 3 (by rfl) (N := 10) rfl 51 _ _ rfl z rfl rfl Try.underlying51 (.int .i64 0) 8 zN_ rfl (by decide) (by omega) (0 : Int) (ok := fun _ => True) (okp := fun _ => True) (rfl) (fun _ hk => hk) trivial (z0) (hln2) H.out.below H.out.below.size ?_
    intro v_ W6 hR hB_ hgr_ hnew_
    obtain ⟨AQ, kQ, rfl⟩ := Kd.R_slice hR
    simp only [List.length_replicate] at hR ⊢
    clear cR cC
    have hb := jR_ hgr_
    replace H := hid ((H.out.called hb).row (RowF (Kd.int .i64) 3 w.heap.size (.slice AQ z.toNat kQ) (List.replicate z.toNat (0 : Int))) hR)
    replace b0 := hid (jc_ b0.out hb)
    clear hb hR hB_ hgr_ hnew_
    refine hK.out _ _ (H.out.cell 1 rfl) (fun hHeld => ?_)
    clear hK K
    apply nm 0
    exact kw_ (by simp only [jS_, Act.put, List.setIfInBounds_toArray, List.set_cons_zero, List.set_cons_succ]) (hCont (A2, k2, AY, kY, AQ, kQ) _ ⟨hHeld, b0.out, H.out.fact 0 rfl, H.out.fact 2 rfl, H.out.fact 1 rfl⟩)
   ·
    obtain ⟨-, cR, cC⟩ := n2_ H
    refine Kd.R_make_step (Kd.int .i64) w.heap.size 3 (by rfl) (N := 10) rfl 51 _ _ rfl z rfl rfl Try.underlying51 (.int .i64 0) 8 zN_ rfl (by decide) (by omega) (0 : Int) (ok := fun _ => True) (okp := fun _ => True) (rfl) (fun _ hk => hk) trivial (z0) (hln2) H.out.below H.out.below.size ?_
    intro v_ W5 hR hB_ hgr_ hnew_
    obtain ⟨AQ, kQ, rfl⟩ := Kd.R_slice hR
    simp only [List.length_replicate] at hR ⊢
    clear cR cC
    have hb := jR_ hgr_
    replace H := hid ((H.out.called hb).row (RowF (Kd.int .i64) 3 w.heap.size (.slice AQ z.toNat kQ) (List.replicate z.toNat (0 : Int))) hR)
    replace b0 := hid (jc_ b0.out hb)
    clear hb hR hB_ hgr_ hnew_
    refine hK.out _ _ (H.out.cell 1 rfl) (fun hHeld => ?_)
    clear hK K
    apply nm 0
    apply on 1 (some 4) (bq 10 255) HT_; intro K hK
    refine gs Try.func15 #[.agg #[.int .i64 id, .int .i64 m, .int .i64 u, .int .i64 b, .int .i64 c, .int .i64 z, .int .i64 s, .int .i64 me, .int .i64 o, .int .i64 a, .int .i64 l]] ?_
    refine (HN.out _).mono ?_
    rintro e W6 ⟨A2, k2, rfl, hR, hb⟩
    refine ⟨_, rfl, ?_⟩
    replace H := pr H hb hR
    replace b0 := hid (jc_ b0.out hb)
    clear hR
    clear hb
    refine hK.out _ _ (H.out.cell 1 rfl) (fun hHeld => ?_)
    clear hK K
    apply nm 0
    exact kw_ (by simp only [jS_, Act.put, List.setIfInBounds_toArray, List.set_cons_zero, List.set_cons_succ]) (hCont (A2, k2, AY, kY, AQ, kQ) _ ⟨hHeld, b0.out, H.out.fact 1 rfl, H.out.fact 2 rfl, H.out.fact 0 rfl⟩)
  ·
   obtain ⟨-, cR, cC⟩ := n2_ H
   refine Kd.R_make_step (Kd.int .i64) w.heap.size 3 (by rfl) (N := 10) rfl 51 _ _ rfl z rfl rfl Try.underlying51 (.int .i64 0) 8 zN_ rfl (by decide) (by omega) (0 : Int) (ok := fun _ => True) (okp := fun _ => True) (rfl) (fun _ hk => hk) trivial (z0) (hln2) H.out.below H.out.below.size ?_
   intro v_ W4 hR hB_ hgr_ hnew_
   obtain ⟨AQ, kQ, rfl⟩ := Kd.R_slice hR
   simp only [List.length_replicate] at hR ⊢
   clear cR cC
   have hb := jR_ hgr_
   replace H := hid ((H.out.called hb).row (RowF (Kd.int .i64) 3 w.heap.size (.slice AQ z.toNat kQ) (List.replicate z.toNat (0 : Int))) hR)
   replace b0 := hid (jc_ b0.out hb)
   clear hb hR hB_ hgr_ hnew_
   refine hK.out _ _ (H.out.cell 1 rfl) (fun hHeld => ?_)
   clear hK K
   apply nm 0
   refine two_ (i := 1) (j := 4) (Ni := some 4) (Nj := some 7) (bq 10 239) (bq 10 253) rfl rfl rfl rfl (vL_ HT_.out (by kernel_rfl)) (by decide) (by decide) (fun K hK => ?_) (fun K hK => ?_)
   ·
    refine gs Try.func15 #[.agg #[.int .i64 id, .int .i64 m, .int .i64 u, .int .i64 b, .int .i64 c, .int .i64 z, .int .i64 s, .int .i64 me, .int .i64 o, .int .i64 a, .int .i64 l]] ?_
    refine (HN.out _).mono ?_
    rintro e W5 ⟨A2, k2, rfl, hR, hb⟩
    refine ⟨_, rfl, ?_⟩
    replace H := pr H hb hR
    replace b0 := hid (jc_ b0.out hb)
    clear hR
    clear hb
    refine hK.out _ _ (H.out.cell 1 rfl) (fun hHeld => ?_)
    clear hK K
    apply nm 0
    apply on 4 (some 7) (bq 10 255) HT_; intro K hK
    obtain ⟨-, cR, cC⟩ := n2_ H
    refine Kd.R_make_step Kd.string w.heap.size 9 (by rfl) (N := 7) rfl 50 _ _ rfl z rfl rfl Try.underlying50 (.string ⟨#[]⟩) 16 info9 rfl (by decide) (by omega) ByteArray.empty (ok := fun _ => True) (okp := fun _ => True) (rfl) (fun _ hk => hk) trivial (z0) (hln) H.out.below H.out.below.size ?_
    intro v_ W6 hR hB_ hgr_ hnew_
    obtain ⟨AY, kY, rfl⟩ := Kd.R_slice hR
    simp only [List.length_replicate] at hR ⊢
    clear cR cC
    have hb := jR_ hgr_
    replace H := hid ((H.out.called hb).row (RowF Kd.string 9 w.heap.size (.slice AY z.toNat kY) (List.replicate z.toNat ByteArray.empty)) hR)
    replace b0 := hid (jc_ b0.out hb)
    clear hb hR hB_ hgr_ hnew_
    refine hK.out _ _ (H.out.cell 1 rfl) (fun hHeld => ?_)
    clear hK K
    apply nm 0
    exact kw_ (by simp only [jS_, Act.put, List.setIfInBounds_toArray, List.set_cons_zero, List.set_cons_succ]) (hCont (A2, k2, AY, kY, AQ, kQ) _ ⟨hHeld, b0.out, H.out.fact 2 rfl, H.out.fact 0 rfl, H.out.fact 1 rfl⟩)
   ·
    obtain ⟨-, cR, cC⟩ := n2_ H
    refine Kd.R_make_step Kd.string w.heap.size 9 (by rfl) (N := 7) rfl 50 _ _ rfl z rfl rfl Try.underlying50 (.string ⟨#[]⟩) 16 info9 rfl (by decide) (by omega) ByteArray.empty (ok := fun _ => True) (okp := fun _ => True) (rfl) (fun _ hk => hk) trivial (z0) (hln) H.out.below H.out.below.size ?_
    intro v_ W5 hR hB_ hgr_ hnew_
    obtain ⟨AY, kY, rfl⟩ := Kd.R_slice hR
    simp only [List.length_replicate] at hR ⊢
    clear cR cC
    have hb := jR_ hgr_
    replace H := hid ((H.out.called hb).row (RowF Kd.string 9 w.heap.size (.slice AY z.toNat kY) (List.replicate z.toNat ByteArray.empty)) hR)
    replace b0 := hid (jc_ b0.out hb)
    clear hb hR hB_ hgr_ hnew_
    refine hK.out _ _ (H.out.cell 1 rfl) (fun hHeld => ?_)
    clear hK K
    apply nm 0
    apply on 1 (some 4) (bq 10 255) HT_; intro K hK
    refine gs Try.func15 #[.agg #[.int .i64 id, .int .i64 m, .int .i64 u, .int .i64 b, .int .i64 c, .int .i64 z, .int .i64 s, .int .i64 me, .int .i64 o, .int .i64 a, .int .i64 l]] ?_
    refine (HN.out _).mono ?_
    rintro e W6 ⟨A2, k2, rfl, hR, hb⟩
    refine ⟨_, rfl, ?_⟩
    replace H := pr H hb hR
    replace b0 := hid (jc_ b0.out hb)
    clear hR
    clear hb
    refine hK.out _ _ (H.out.cell 1 rfl) (fun hHeld => ?_)
    clear hK K
    apply nm 0
    exact kw_ (by simp only [jS_, Act.put, List.setIfInBounds_toArray, List.set_cons_zero, List.set_cons_succ]) (hCont (A2, k2, AY, kY, AQ, kQ) _ ⟨hHeld, b0.out, H.out.fact 2 rfl, H.out.fact 1 rfl, H.out.fact 0 rfl⟩)
 rintro ⟨A2, k2, AY, kY, AQ, kQ⟩ W57 ⟨hHeld, hb, hrQ, hrY, hrL⟩
 (try dsimp only at hHeld hrQ hrY hrL ⊢)
 replace H := hid (H.out.called hb)
 replace H := hid (H.out.row (RowF k59 59 w.heap.size (.slice A2 z.toNat k2) (List.replicate z.toNat z59)) hrL)
 replace H := hid (H.out.row (RowF Kd.string 9 w.heap.size (.slice AY z.toNat kY) (List.replicate z.toNat ByteArray.empty)) hrY)
 replace H := hid (H.out.row (RowF (Kd.int .i64) 3 w.heap.size (.slice AQ z.toNat kQ) (List.replicate z.toNat (0 : Int))) hrQ)
 clear b0 hb hrQ hrY hrL
 refine kw_ (a' := ?_) ?_ ?_
 rotate_left
 ·
  simp only [jS_, Act.put, List.setIfInBounds_toArray, List.set_cons_zero, List.set_cons_succ]
  rfl
 apply pu 8 11 (bq 10 511) HT_
 apply on 9 none (bq 10 1023) HT_; intro K hK
 obtain ⟨-, cR, cC⟩ := n2_ H
 apply shs H 0 68 2 gR (mL id m u b c z s me o a l (.slice A2 z.toNat k2) (.slice AY z.toNat kY) (.slice AQ z.toNat kQ))
 clear H cR cC
 intro W58 K_
 have H := (n2_ K_).1; clear K_
 refine hK.out _ _ (H.out.cell 1 rfl) (fun hHeld => ?_)
 clear hK K
 refine kk_ (jF_ HT_.out (by kernel_rfl)) ?_
 obtain ⟨-, cR, cC⟩ := n2_ H
 go_wp2
 refine bodyPost_ret (results_cell_row rfl _ _ gR 68 (mL id m u b c z s me o a l (.slice A2 z.toNat k2) (.slice AY z.toNat kY) (.slice AQ z.toNat kQ)).toArray (0, 0) _ rfl (H.out.at_ 0 rfl) Try.underlying68 rfl (by kernel_rfl)) rfl ?_
 exact ⟨_, _, _, rfl, ⟨(H.out.fact 2 rfl), (H.out.fact 1 rfl), (H.out.fact 0 rfl)⟩, H.out.below⟩
open Go.Proofs.Ytgckcaoncjhgbaa.Geo
open Go.Proofs.Ytgckcaoncjhgbaa.PG (S134 k134 xZ_ vD_ xf_ S143 k143 kt_ xN_)
def vk_ : Bool × List (List Nat × List Nat) := (true, [([], []), ([], []), ([], []), ([1, 2], [1, 2]), ([3], [3]), ([0, 4], [0, 4]), ([5], [5]), ([6], [6]), ([6], [6]), ([6], [6]), ([6], [6]), ([], []), ([], []), ([11, 7, 5, 0, 1, 2, 3, 4, 5, 6, 7, 11, 12], [7, 11]), ([8, 13, 0, 1, 2, 3, 4, 5, 6, 7, 8, 11, 12, 13], [8]), ([9, 14, 0, 1, 2, 3, 4, 5, 6, 7, 8, 9, 11, 12, 13, 14], [9]), ([12, 10, 15, 0, 1, 2, 3, 4, 5, 6, 7, 8, 9, 10, 11, 12, 13, 14, 15], [10, 12])])
theorem vX_ : rtab .any (kT_ Try.f51 6) = vk_ := by kernel_rfl
theorem vR_ : jO_ vk_.2 [0, 0, 0, 6, 14, 31, 63, 127, 127, 127, 127, 0, 0, 6399, 14847, 31743, 65535] = true := by kernel_rfl
def vj_ : Bool × List (List Nat × List Nat) := (true, [([], []), ([], []), ([], []), ([1, 2], [1, 2]), ([3], [3]), ([4], [4]), ([], []), ([], []), ([6, 7], [6, 7]), ([8], [8]), ([9], [9]), ([10], [10]), ([], []), ([12], [12]), ([11, 13], [11, 13]), ([0, 5, 14], [0, 5, 14]), ([15, 15, 0, 1, 2, 3, 4, 5, 6, 7, 8, 9, 10, 11, 12, 13, 14, 15], [15])])
theorem vW_ : rtab .any (kT_ Try.f51 9) = vj_ := by kernel_rfl
theorem vQ_ : jO_ vj_.2 [0, 0, 0, 6, 14, 30, 0, 0, 192, 448, 960, 1984, 0, 4096, 16320, 32767, 65535] = true := by kernel_rfl
def vd_ : Bool × List (List Nat × List Nat) := (true, [([], []), ([], []), ([], []), ([], []), ([2, 3], [2, 3]), ([4], [4]), ([5], [5]), ([], []), ([], []), ([7, 8], [7, 8]), ([9], [9]), ([10], [10]), ([6, 11], [6, 11]), ([], []), ([], []), ([13, 14], [13, 14]), ([15], [15]), ([16], [16]), ([], []), ([], []), ([18, 19], [18, 19]), ([20], [20]), ([21], [21]), ([17, 22], [17, 22]), ([12, 23], [12, 23]), ([0, 1, 0, 1, 2, 3, 4, 5, 6, 7, 8, 9, 10, 11, 12, 13, 14, 15, 16, 17, 18, 19, 20, 21, 22, 23, 24], [0, 1]), ([25, 24, 0, 1, 2, 3, 4, 5, 6, 7, 8, 9, 10, 11, 12, 13, 14, 15, 16, 17, 18, 19, 20, 21, 22, 23, 24], [24, 25])])
theorem vO_ : rtab .any (kT_ Try.f51 13) = vd_ := by kernel_rfl
theorem vM_ : jO_ vd_.2 [0, 0, 0, 0, 12, 28, 60, 0, 0, 384, 896, 1920, 4092, 0, 0, 24576, 57344, 122880, 0, 0, 786432, 1835008, 3932160, 8380416, 16777212, 33554431, 67108863] = true := by kernel_rfl
def FarF (e base g : Nat) (v : Value) (xs : List S134) : Fct where
 P := fun W => Kd.R k134 e W base (fun k => k ≠ g) v xs
 T := e :: k134.E
 below := fun hb h => Kd.R_below h hb
 set := fun hw hb ht h => st_R hw h hb (vJ_ ht)
theorem over_two (L : List S134) (x : S134) : ∀ i : Nat, i < L.length -> over (jH_ L) (i * 2) [.int .i64 x.f0, .int .i64 x.f1] = jH_ (L.set i x) := by
 induction L with
 | nil => intro i h; simp at h
 | cons y L ih =>
  intro i h
  cases i with
  | zero => simp [jH_, over]
  | succ i =>
   have e := ih i (by simpa using h)
   have e1 : (i + 1) * 2 = i * 2 + 1 + 1 := by omega
   rw [e1]
   simp only [jH_, List.flatMap_cons, List.set_cons_succ, List.cons_append, List.nil_append, over] at e ⊢
   rw [e]
theorem row_at {e base M ks : Nat} {ok : Nat -> Prop} {W : World} {sd : Addr} {R : List S134} (h : Kd.R k134 e W base ok (.slice (some sd) M ks) R) (i : Nat) (hi : i < M) : W.cell? (sd.add (i * 2)) = some (.int .i64 (vD_ R i).f0) /\ W.cell? ⟨(sd.add (i * 2)).block, (sd.add (i * 2)).off + 1, none⟩ = some (.int .i64 (vD_ R i).f1) := by
 have h1 := Kd.R_reads' h
 obtain ⟨ad, e, c0, c1⟩ := xf_ h1.2.2 (i : Int) (by omega) (by omega)
 cases e
 rw [Int.toNat_natCast] at c0 c1
 exact ⟨c0, c1⟩
theorem row_some {e base M ks : Nat} {ok : Nat -> Prop} {W : World} {A : Option Addr} {R : List S134} (h : Kd.R k134 e W base ok (.slice A M ks) R) (hi : 0 < M) : ∃ sd, A = some sd := by
 have h1 := Kd.R_reads' h
 obtain ⟨ad, e, c0, c1⟩ := xf_ h1.2.2 0 (by omega) (by omega)
 exact ⟨ad, e⟩
section
variable {P : Program} {ops : Array Oper} {rest : List Oper} {o : Oper} {a : Act} {Q : Exit -> Act -> World -> Prop} {Kc : Act -> World -> Prop} {w W : World} {bs : List Blk} {fs : List Fct} {v : Operand}
theorem spo {base gO : Nat} {vx : Value} {xs : List S134} (H : Hid (Pk w W bs (FarF 135 base gO vx xs :: fs))) (k t p i : Nat) (L : List S134) (x : S134) (hi : i < L.length) (hk : bs[k]? = some ⟨gO, 135, (jH_ L).toArray⟩ := by rfl) (ho : o.op = .store t (.tmp p) v := by rfl) (hgd : Region.wanted o (yielded ops a.tmps) = true := by rfl) (hN : o.dst = none := by rfl) (hrun : (∀ i, W.frozen? ⟨gO, i, none⟩ = false) -> (execOp a.eval o).run P W = .ok .skip (W.setCells gO (i * 2) [.int .i64 x.f0, .int .i64 x.f1]) := by (intro f_; first | (go_simp; done) | (go_simp; rfl))) (hT : fs.all (fun f => !f.T.contains 135) = true := by rfl) (h : ∀ w', Hid (Pk w w' (bs.set k ⟨gO, 135, (jH_ (L.set i x)).toArray⟩) (FarF 135 base gO vx xs :: fs)) -> Kc a w') : if Region.wanted o (yielded ops a.tmps) = true then Oper.wp P o a W Kc Q else Kc (a.put none undef) W :=
 svs t p gO (i * 2) [.int .i64 x.f0, .int .i64 x.f1] ho hgd hN (hrun (H.out.froz k hk)) (fun w' hw => h w' (by
  have hx : Kd.R k134 135 W base (fun k => k ≠ gO) vx xs := H.out.fact 0 rfl
  have h1 : Pk w W bs fs := ⟨H.out.below, H.out.blk, H.out.ne, fun f hf => H.out.fct f (List.mem_cons_of_mem _ hf)⟩
  have h2 := h1.put k hk hw (by have := kz_ L; simp only [List.size_toArray, List.length_cons, List.length_nil]; rw [Nat.ble_eq]; omega) (by rw [show (jH_ L).toArray.toList = jH_ L from rfl, over_two L x i hi]) hT
  exact hid (h2.row (FarF 135 base gO vx xs) (st_RF hw hx (fun k hk => hk)))))
end
theorem row_R5 {w : World} {G base : Nat} (L : List S134) (hG : w.heap[G]? = some (.cells (jH_ L).toArray 135 (0, 0))) (hb : base <= G) (hm : L.length <= maxLen) : Kd.R k134 135 w base (fun _ => True) (.slice (some ⟨G, 0, none⟩) L.length L.length) L := by
 refine ⟨fun _ _ => trivial, jH_ L, ⟨kz_ L, .inr ⟨G, L.length, (jH_ L).toArray, rfl, hb, hG, Nat.le_refl _, hm, by simp [kz_]; rfl, ?_⟩⟩, repsL L⟩
 rw [List.take_of_length_le]
 show (jH_ L).length <= L.length * 2
 rw [kz_]; exact Nat.le_refl _
theorem rplay_yes (id m u b c z s me o a l : Int) (Aa : Option Addr) (ca : Nat) (xs : List S65) (w : World) (hr : Kd.C k65 w Aa xs.length xs) (hc : xs.length <= ca) (hk : jn_ id m u b c z s me o a l = 0) :
  Calls Try.prog 51 #[.agg #[.int .i64 id, .int .i64 m, .int .i64 u, .int .i64 b, .int .i64 c, .int .i64 z, .int .i64 s, .int .i64 me, .int .i64 o, .int .i64 a, .int .i64 l], .slice Aa xs.length ca] w fun e w' => ∃ v0_ : Value, e = .returned v0_ /\ Kd.R k134 135 w' w.heap.size (fun _ => True) v0_ (xs.foldl (playR id m u b c z s me o a l) (⟨⟨List.replicate z.toNat z59, List.replicate z.toNat ByteArray.empty, List.replicate z.toNat 0⟩, List.replicate m.toNat ⟨0, 0⟩⟩ : Mdl × List S134)).2 /\ Below w.heap.size w w' := by
 have H := hid (Pk.start w)
 obtain ⟨n, hn⟩ : ∃ n, n = xs.length := ⟨_, rfl⟩
 have HN := hid hn
 rw [<- hn] at hr hc ⊢
 have HX := hid hr
 have HNM := hid (Kd.C_max hr)
 clear hr hn
 have hmb := (good hk).1.m1; have hmb2 := (good hk).1.m2
 have hb_ := kB_ (kM_ hk).1
 have HB1 := hid (show 1 <= b by omega)
 have hmem := fun (x2 q : Int) => vh_ hk x2 q
 have hnew := fun W => rmnew_any id m u b c z s me o a l W (by omega) (by omega)
 have HI0 := hid (minv_new id m u b c z s me o a l hk)
 obtain ⟨L0, hL0⟩ : ∃ L, L = (List.replicate m.toNat ⟨0, 0⟩ : List S134) := ⟨_, rfl⟩
 have HL0 := hid hL0
 have hl0 : L0.length = m.toNat := by rw [hL0, List.length_replicate]
 have hof := fun (x2 q : Int) (W : World) (M : Nat) (hM : m = M) (h100 : M <= 100) => rof_yes id m u b c z s me o a l x2 q M hM h100 (kP_ id m u b c z s me o a l x2 q) W (fun W => PG.revetmentref09_Steps.calls 4000000 id m u b c z s me o a l x2 q (kP_ id m u b c z s me o a l x2 q) W (rsteps_all id m u b c z s me o a l x2 q 4000000 (Nat.le_refl _))) (fun W => PG.revetmentref07_Check.calls id m u b c z s me o a l 0 W (by unfold PG.revetmentref07_Check.f; rw [hk]))
 obtain ⟨i0, hi, hz0, hz1, hz2⟩ := info_parts info135
 have hmk : ∀ W : World, (Instr.makeSlice 99 (.int .i64 m) (.int .i64 m)).run Try.prog W = .ok (.slice (some ⟨W.heap.size, 0, none⟩) m.toNat m.toNat) (W.alloc (.cells (jH_ L0).toArray 135)) := by
  intro W
  have := run_make (P := Try.prog) (w := W) 99 135 i0 _ Try.underlying99 hi hz0 .i64 .i64 m m (by omega) (by omega) (by rw [hz2]; omega) (by omega)
  rw [hz1] at this
  rw [this, made_cells, hL0]
 obtain ⟨M, hM⟩ : ∃ M, M = m.toNat := ⟨_, rfl⟩
 rw [<- hM] at hmk hl0
 have hmM : m = M := by omega
 have hM16 : M <= 16 := by omega
 have hof2 := fun (x2 q : Int) (W : World) => hof x2 q W M hmM (by omega)
 have HM := hid hmM; have HM2 := hid hM16
 have HMEM := hid hmem; have HNW := hid hnew; have HOF := hid hof2; have HMK := hid hmk; have HLL0 := hid hl0; clear hmem hnew hof hof2 hmk hb_ hmb hmb2 hk hL0 hl0 hM hmM hM16 hi hz0 hz1 hz2 i0
 go_enter Try.func51, Try.ntmps51
 go_wp2_with first
  | (apply bh H 2 (cL id m u b c z s me o a l) 23; clear H; intro gC W1 H; obtain ⟨-, cC⟩ := n1_ H)
 go_wp2_with first
  | (go_at_call 27; refine (HNW.out _).mono ?_; rintro e W2 ⟨x_, y_, q_, rfl, hM, hb⟩; clear cC; obtain ⟨B71, m71, j71, B72, m72, j72, B73, m73, j73, rfl, rfl, rfl⟩ := MR_shape hM; replace H := hid ((H.out.called hb).row (MrF w.heap.size (.slice B71 m71 j71) (.slice B72 m72 j72) (.slice B73 m73 j73) (⟨List.replicate z.toNat z59, List.replicate z.toNat ByteArray.empty, List.replicate z.toNat 0⟩)) (MR_lower hM H.out.below.size)); clear hM; clear hb; obtain ⟨-, cC⟩ := n1_ H)
  | (apply bh H 5 (mL 0 0 0 0 0 0 0 0 0 0 0 nil_ nil_ nil_) 68; clear H cC; intro gQ W3 H; obtain ⟨-, cQ, cC⟩ := n2_ H)
  | (apply sh H 0 68 5 gQ (mL id m u b c z s me o a l (.slice B71 m71 j71) (.slice B72 m72 j72) (.slice B73 m73 j73)); clear H cQ cC; intro W4 K_; obtain ⟨H, cQ, cC⟩ := n2_ K_; clear K_)
  | ((with_reducible refine jD_ (N := 18) rfl ?_); have hmk_ := HMK.out W4; refine Kd.event_run rfl (v := .slice (some ⟨W4.heap.size, 0, none⟩) M M) (w1 := W4.alloc (.cells (jH_ L0).toArray 135)) ?hr ?_; (case hr => first | (go_simp; done) | (go_simp; rfl)); clear hmk_; clear cQ cC; have hx_ := ju_ W4 (.cells (jH_ L0).toArray 135); have hb := jg_ (Below.refl _ W4) (.cells (jH_ L0).toArray 135); have hg_ := Nat.le_refl W4.heap.size; generalize W4.alloc (.cells (jH_ L0).toArray 135) = W5 at hx_ hb ⊢; generalize hgO_ : W4.heap.size = gO at hx_ hg_ ⊢; rw [<- hgO_] at hg_ hx_; replace H := pg H hx_ hb hg_; rw [hgO_] at H; clear hx_ hb hg_ hgO_; obtain ⟨-, -, cQ, cC⟩ := n3_ H)
 go_loopw [7] (fun v7 wr => ∃ (j : Nat) (D : Mdl) (L : List S134) (Bd1 : Option Addr) (md1 : Nat) (jd1 : Nat) (Bd2 : Option Addr) (md2 : Nat) (jd2 : Nat) (Bd3 : Option Addr) (md3 : Nat) (jd3 : Nat), v7 = .int .i64 j /\ j <= n /\ Hid (zZ_ id m u b c z s me o a l D) /\ Hid ((⟨D, L⟩ : Mdl × List S134) = (xs.take j).foldl (playR id m u b c z s me o a l) (⟨⟨List.replicate z.toNat z59, List.replicate z.toNat ByteArray.empty, List.replicate z.toNat 0⟩, List.replicate m.toNat ⟨0, 0⟩⟩ : Mdl × List S134)) /\ Hid (L.length = M) /\ Hid (Pk w wr [⟨gO, 135, (jH_ L).toArray⟩, ⟨gQ, 68, (mL id m u b c z s me o a l (.slice Bd1 md1 jd1) (.slice Bd2 md2 jd2) (.slice Bd3 md3 jd3)).toArray⟩, ⟨gC, 23, (cL id m u b c z s me o a l).toArray⟩] [MrF w.heap.size (.slice Bd1 md1 jd1) (.slice Bd2 md2 jd2) (.slice Bd3 md3 jd3) (D)])) (fun v7 _ => ((n : Int) - intOf v7).toNat)
 case atStart => exact ⟨0, _, _, B71, m71, j71, B72, m72, j72, B73, m73, j73, rfl, by omega, HI0, hid (by rw [HL0.out]; rfl), HLL0, H⟩
 case round =>
  clear H cQ cC
  obtain ⟨j, D, L, Bd1, md1, jd1, Bd2, md2, jd2, Bd3, md3, jd3, rfl, hj, HI, HF, HLL, H⟩ := hrel
  by_cases hlt : j < n
  ·
   have c1 : (j : Int) < (n : Int) := by omega
   obtain ⟨ad, A4, c4, e, hl4, hat⟩ := cmd_at HX.out j hlt
   subst e
   have q1 : (0 : Int) <= (j : Int) := by omega
   have e2 : wrap64 ((j : Int) + 1) = ((j + 1 : Nat) : Int) := by have := HNM.out; unfold wrap64; push_cast; omega
   have hdo : ∀ (W : World) (h : MC W (.slice Bd1 md1 jd1) (.slice Bd2 md2 jd2) (.slice Bd3 md3 jd3) D) (hd : Kd.C (Kd.int .u8) W A4 (jk_ xs j).f4.length (jk_ xs j).f4), Calls Try.prog 28 #[modV id m u b c z s me o a l (.slice Bd1 md1 jd1) (.slice Bd2 md2 jd2) (.slice Bd3 md3 jd3), cmdV (jk_ xs j).f0 (jk_ xs j).f1 (jk_ xs j).f2 (jk_ xs j).f3 (.slice A4 (jk_ xs j).f4.length c4) (jk_ xs j).f5] W (RsP id m u b c z s me o a l (.slice Bd1 md1 jd1) (.slice Bd2 md2 jd2) (.slice Bd3 md3 jd3) D (doM id m u b c z s me o a l D (jk_ xs j)) W) := fun W h hd => rdo_any id m u b c z s me o a l (.slice Bd1 md1 jd1) (.slice Bd2 md2 jd2) (.slice Bd3 md3 jd3) D (jk_ xs j).f0 (jk_ xs j).f1 (jk_ xs j).f2 (jk_ xs j).f3 A4 c4 (jk_ xs j).f4 (jk_ xs j).f5 W h HI.out.1 hd hl4
   have hfs := fold_step (playR id m u b c z s me o a l) (⟨⟨List.replicate z.toNat z59, List.replicate z.toNat ByteArray.empty, List.replicate z.toNat 0⟩, List.replicate m.toNat ⟨0, 0⟩⟩ : Mdl × List S134) xs j (D, L) HF.out (by have := HN.out; omega)
   unfold playR at hfs
   (try dsimp only at hfs)
   have hok := (doM_ok HI.out (jk_ xs j)).1
   generalize doM id m u b c z s me o a l D (jk_ xs j) = r at hdo hok hfs
   obtain ⟨N, E, dt, zz⟩ := r
   dsimp only at hdo hok hfs
   obtain ⟨lx, hlx⟩ : ∃ q, q = (jk_ xs j).f4.length := ⟨_, rfl⟩
   have hlm : lx <= 9223372036854775807 := by rw [hlx]; exact (hat (Below.refl _ _)).1.2.1
   rw [<- hlx] at hdo hfs
   have hat2 := fun (W : World) (hb : Below w.heap.size w W) => hat hb
   rw [<- hlx] at hat2
   have HIN := hid hok; have HD := hid hdo; have HAT := hid hat2; have HFS := hid hfs; have HLM := hid hlm; clear hdo hok hat hat2 hlx hl4 hfs hlm
   obtain ⟨-, -, cQ, cC⟩ := n3_ H
   go_wp2
   clear cQ cC
   refine jN_ (n := 17) (S := fun W => bW W gQ (mL id m u b c z s me o a l (.slice Bd1 md1 jd1) (.slice Bd2 md2 jd2) (.slice Bd3 md3 jd3)) /\ (W.cell? (ad.add (j * 6)) = some (.int .i64 (jk_ xs j).f0) /\ W.cell? ⟨(ad.add (j * 6)).block, (ad.add (j * 6)).off + 1, none⟩ = some (.int .i64 (jk_ xs j).f1) /\ W.cell? ⟨(ad.add (j * 6)).block, (ad.add (j * 6)).off + 2, none⟩ = some (.int .i64 (jk_ xs j).f2) /\ W.cell? ⟨(ad.add (j * 6)).block, (ad.add (j * 6)).off + 3, none⟩ = some (.int .i64 (jk_ xs j).f3) /\ W.cell? ⟨(ad.add (j * 6)).block, (ad.add (j * 6)).off + 4, none⟩ = some (.slice A4 lx c4) /\ W.cell? ⟨(ad.add (j * 6)).block, (ad.add (j * 6)).off + 5, none⟩ = some (.bool (jk_ xs j).f5))) (ds := []) (bq 17 0) (by kernel_rfl) rfl (by kernel_rfl) ⟨H.out.drew.cell 1 rfl, (HAT.out _ (H.out.drew).below).2⟩ (fun hHeld => ?_)
   refine jw_ vX_ vR_ (fun HT_ HW_ => ?_)
   have zH := H.out.drew
   generalize wr.drew = W61 at zH hHeld ⊢
   replace H := hid zH; clear zH
   apply tw 0 26 (bq 17 1) HT_ HW_ hHeld
   apply pu 1 27 (bq 17 3) HT_
   apply pu 2 28 (bq 17 7) HT_
   apply pu 3 29 (bq 17 15) HT_
   apply tw 4 30 (bq 17 31) HT_ HW_ hHeld
   have b0 := hid (Below.refl W61.heap.size W61)
   refine zM_ (σ := Option Addr × Nat × Nat × Option Addr × Nat × Nat × Option Addr × Nat × Nat × Nat × Nat) 4 (bq 17 8191) (fun y => [(31, .tuple #[modV id m u b c z s me o a l (.slice y.1 y.2.1 y.2.2.1) (.slice y.2.2.2.1 y.2.2.2.2.1 y.2.2.2.2.2.1) (.slice y.2.2.2.2.2.2.1 y.2.2.2.2.2.2.2.1 y.2.2.2.2.2.2.2.2.1), .int .i64 E, .string dt, zoV zz]), (25, .tuple #[modV id m u b c z s me o a l (.slice y.1 y.2.1 y.2.2.1) (.slice y.2.2.2.1 y.2.2.2.2.1 y.2.2.2.2.2.1) (.slice y.2.2.2.2.2.2.1 y.2.2.2.2.2.2.2.1 y.2.2.2.2.2.2.2.2.1), .int .i64 E, .string dt, zoV zz]), (32, modV id m u b c z s me o a l (.slice y.1 y.2.1 y.2.2.1) (.slice y.2.2.2.1 y.2.2.2.2.1 y.2.2.2.2.2.1) (.slice y.2.2.2.2.2.2.1 y.2.2.2.2.2.2.2.1 y.2.2.2.2.2.2.2.2.1)), (33, .int .i64 E), (34, .string dt), (35, zoV zz), (8, .pointer (some ⟨y.2.2.2.2.2.2.2.2.2.1, 0, none⟩)), (11, .pointer (some ⟨y.2.2.2.2.2.2.2.2.2.2, 0, none⟩))]) (fun y W => (bW W gQ (mL id m u b c z s me o a l (.slice Bd1 md1 jd1) (.slice Bd2 md2 jd2) (.slice Bd3 md3 jd3)) /\ (W.cell? (ad.add (j * 6)) = some (.int .i64 (jk_ xs j).f0) /\ W.cell? ⟨(ad.add (j * 6)).block, (ad.add (j * 6)).off + 1, none⟩ = some (.int .i64 (jk_ xs j).f1) /\ W.cell? ⟨(ad.add (j * 6)).block, (ad.add (j * 6)).off + 2, none⟩ = some (.int .i64 (jk_ xs j).f2) /\ W.cell? ⟨(ad.add (j * 6)).block, (ad.add (j * 6)).off + 3, none⟩ = some (.int .i64 (jk_ xs j).f3) /\ W.cell? ⟨(ad.add (j * 6)).block, (ad.add (j * 6)).off + 4, none⟩ = some (.slice A4 lx c4) /\ W.cell? ⟨(ad.add (j * 6)).block, (ad.add (j * 6)).off + 5, none⟩ = some (.bool (jk_ xs j).f5))) /\ Below W61.heap.size W61 W /\ W.heap[y.2.2.2.2.2.2.2.2.2.1]? = some (.cells (mL 0 0 0 0 0 0 0 0 0 0 0 nil_ nil_ nil_).toArray 68 (0, 0)) /\ W.heap[y.2.2.2.2.2.2.2.2.2.2]? = some (.cells (oL 0 0 0).toArray 59 (0, 0)) /\ W61.heap.size <= y.2.2.2.2.2.2.2.2.2.1 /\ W61.heap.size <= y.2.2.2.2.2.2.2.2.2.2 /\ y.2.2.2.2.2.2.2.2.2.1 ≠ y.2.2.2.2.2.2.2.2.2.2 /\ (MrF w.heap.size (.slice y.1 y.2.1 y.2.2.1) (.slice y.2.2.2.1 y.2.2.2.2.1 y.2.2.2.2.2.1) (.slice y.2.2.2.2.2.2.1 y.2.2.2.2.2.2.2.1 y.2.2.2.2.2.2.2.2.1) (N)).P W /\ Value.ownBlock (.slice y.1 y.2.1 y.2.2.1) ≠ some y.2.2.2.2.2.2.2.2.2.2 /\ Value.ownBlock (.slice Bd1 md1 jd1) ≠ some y.2.2.2.2.2.2.2.2.2.2) ?_ ?_
   rotate_left
   ·
    intro hCont
    refine three_ (i := 5) (j := 11) (k := 12) (Ni := some 31) (Nj := some 8) (Nk := some 11) (bq 17 63) (bq 17 2079) (bq 17 4127) rfl rfl rfl rfl rfl rfl (three_of HT_.out (by kernel_rfl)) (by decide) (by decide) (by decide) (fun K hK => ?_) (fun K hK => ?_) (fun K hK => ?_)
    ·
     refine gs Try.func28 #[modV id m u b c z s me o a l (.slice Bd1 md1 jd1) (.slice Bd2 md2 jd2) (.slice Bd3 md3 jd3), cmdV (jk_ xs j).f0 (jk_ xs j).f1 (jk_ xs j).f2 (jk_ xs j).f3 (.slice A4 lx c4) (jk_ xs j).f5] ?_
     refine (HD.out _ (MC_R (H.out.fact 0 rfl)) (HAT.out _ H.out.below).1).mono ?_
     rintro e W62 hP
     obtain ⟨B61, m61, j61, B62, m62, j62, B63, m63, j63, rfl, hM, hb⟩ := yJ_ hP
     clear hP
     refine ⟨_, rfl, ?_⟩
     replace H := hid ((H.out.called hb).row (MrF w.heap.size (.slice B61 m61 j61) (.slice B62 m62 j62) (.slice B63 m63 j63) (N)) (MD_R hM ((H.out.called hb).fact 0 rfl) H.out.below.size))
     replace b0 := hid (jc_ b0.out hb)
     clear hM
     clear hb
     refine hK.out _ _ ⟨H.out.cell 1 rfl, (HAT.out _ H.out.below).2⟩ (fun hHeld => ?_)
     clear hK K
     apply nm 0
     apply pu 6 25 (bq 17 127) HT_
     apply pu 7 32 (bq 17 255) HT_
     apply pu 8 33 (bq 17 511) HT_
     apply pu 9 34 (bq 17 1023) HT_
     apply pu 10 35 (bq 17 2047) HT_
     refine two_ (i := 11) (j := 12) (Ni := some 8) (Nj := some 11) (bq 17 4095) (bq 17 6143) rfl rfl rfl rfl (vL_ HT_.out (by kernel_rfl)) (by decide) (by decide) (fun K hK => ?_) (fun K hK => ?_)
     ·
      obtain ⟨-, -, cQ, cC⟩ := n3_ H
      apply bhs H 8 (mL 0 0 0 0 0 0 0 0 0 0 0 nil_ nil_ nil_) 68
      clear H cQ cC
      intro gV W63 hg hb H
      have GV := hid (Nat.le_trans b0.out.size hg)
      replace b0 := hid (jc_ b0.out hb)
      clear hb hg
      refine hK.out _ _ ⟨H.out.cell 2 rfl, (HAT.out _ H.out.below).2⟩ (fun hHeld => ?_)
      clear hK K
      apply nm 0
      apply on 12 (some 11) (bq 17 8191) HT_; intro K hK
      obtain ⟨-, cV, -, cQ, cC⟩ := n4_ H
      apply bhs H 11 (oL 0 0 0) 59
      have HO_ := H
      clear H cV cQ cC
      intro gZ W64 hg hb H
      have n_Z_K6 := hid (ze_ (HO_.out.fact 0 rfl) hg)
      have n_Z_Kd := hid (ze_ (HO_.out.fact 1 rfl) hg)
      clear HO_
      have GZ := hid (Nat.le_trans b0.out.size hg)
      replace b0 := hid (jc_ b0.out hb)
      clear hb hg
      refine hK.out _ _ ⟨H.out.cell 3 rfl, (HAT.out _ H.out.below).2⟩ (fun hHeld => ?_)
      clear hK K
      apply nm 0
      have hn_VZ := (H.out.dist 0 1 rfl rfl (by decide)).symm
      exact kw_ (by simp only [jS_, Act.put, List.setIfInBounds_toArray, List.set_cons_zero, List.set_cons_succ]) (hCont (B61, m61, j61, B62, m62, j62, B63, m63, j63, gV, gZ) _ ⟨hHeld, b0.out, H.out.at_ 1 rfl, H.out.at_ 0 rfl, GV.out, GZ.out, hn_VZ, H.out.fact 0 rfl, n_Z_K6.out, n_Z_Kd.out⟩)
     ·
      obtain ⟨-, -, cQ, cC⟩ := n3_ H
      apply bhs H 11 (oL 0 0 0) 59
      have HO_ := H
      clear H cQ cC
      intro gZ W63 hg hb H
      have n_Z_K6 := hid (ze_ (HO_.out.fact 0 rfl) hg)
      have n_Z_Kd := hid (ze_ (HO_.out.fact 1 rfl) hg)
      clear HO_
      have GZ := hid (Nat.le_trans b0.out.size hg)
      replace b0 := hid (jc_ b0.out hb)
      clear hb hg
      refine hK.out _ _ ⟨H.out.cell 2 rfl, (HAT.out _ H.out.below).2⟩ (fun hHeld => ?_)
      clear hK K
      apply nm 0
      apply on 11 (some 8) (bq 17 8191) HT_; intro K hK
      obtain ⟨-, cZ, -, cQ, cC⟩ := n4_ H
      apply bhs H 8 (mL 0 0 0 0 0 0 0 0 0 0 0 nil_ nil_ nil_) 68
      clear H cZ cQ cC
      intro gV W64 hg hb H
      have GV := hid (Nat.le_trans b0.out.size hg)
      replace b0 := hid (jc_ b0.out hb)
      clear hb hg
      refine hK.out _ _ ⟨H.out.cell 3 rfl, (HAT.out _ H.out.below).2⟩ (fun hHeld => ?_)
      clear hK K
      apply nm 0
      have hn_VZ := H.out.dist 0 1 rfl rfl (by decide)
      exact kw_ (by simp only [jS_, Act.put, List.setIfInBounds_toArray, List.set_cons_zero, List.set_cons_succ]) (hCont (B61, m61, j61, B62, m62, j62, B63, m63, j63, gV, gZ) _ ⟨hHeld, b0.out, H.out.at_ 0 rfl, H.out.at_ 1 rfl, GV.out, GZ.out, hn_VZ, H.out.fact 0 rfl, n_Z_K6.out, n_Z_Kd.out⟩)
    ·
     obtain ⟨-, -, cQ, cC⟩ := n3_ H
     apply bhs H 8 (mL 0 0 0 0 0 0 0 0 0 0 0 nil_ nil_ nil_) 68
     clear H cQ cC
     intro gV W62 hg hb H
     have GV := hid (Nat.le_trans b0.out.size hg)
     replace b0 := hid (jc_ b0.out hb)
     clear hb hg
     refine hK.out _ _ ⟨H.out.cell 2 rfl, (HAT.out _ H.out.below).2⟩ (fun hHeld => ?_)
     clear hK K
     apply nm 0
     refine two_ (i := 5) (j := 12) (Ni := some 31) (Nj := some 11) (bq 17 2111) (bq 17 6175) rfl rfl rfl rfl (vL_ HT_.out (by kernel_rfl)) (by decide) (by decide) (fun K hK => ?_) (fun K hK => ?_)
     ·
      refine gs Try.func28 #[modV id m u b c z s me o a l (.slice Bd1 md1 jd1) (.slice Bd2 md2 jd2) (.slice Bd3 md3 jd3), cmdV (jk_ xs j).f0 (jk_ xs j).f1 (jk_ xs j).f2 (jk_ xs j).f3 (.slice A4 lx c4) (jk_ xs j).f5] ?_
      refine (HD.out _ (MC_R (H.out.fact 0 rfl)) (HAT.out _ H.out.below).1).mono ?_
      rintro e W63 hP
      obtain ⟨B61, m61, j61, B62, m62, j62, B63, m63, j63, rfl, hM, hb⟩ := yJ_ hP
      clear hP
      refine ⟨_, rfl, ?_⟩
      replace H := hid ((H.out.called hb).row (MrF w.heap.size (.slice B61 m61 j61) (.slice B62 m62 j62) (.slice B63 m63 j63) (N)) (MD_R hM ((H.out.called hb).fact 0 rfl) H.out.below.size))
      replace b0 := hid (jc_ b0.out hb)
      clear hM
      clear hb
      refine hK.out _ _ ⟨H.out.cell 2 rfl, (HAT.out _ H.out.below).2⟩ (fun hHeld => ?_)
      clear hK K
      apply nm 0
      apply pu 6 25 (bq 17 2175) HT_
      apply pu 7 32 (bq 17 2303) HT_
      apply pu 8 33 (bq 17 2559) HT_
      apply pu 9 34 (bq 17 3071) HT_
      apply pu 10 35 (bq 17 4095) HT_
      apply on 12 (some 11) (bq 17 8191) HT_; intro K hK
      obtain ⟨-, cV, -, cQ, cC⟩ := n4_ H
      apply bhs H 11 (oL 0 0 0) 59
      have HO_ := H
      clear H cV cQ cC
      intro gZ W64 hg hb H
      have n_Z_K6 := hid (ze_ (HO_.out.fact 0 rfl) hg)
      have n_Z_Kd := hid (ze_ (HO_.out.fact 1 rfl) hg)
      clear HO_
      have GZ := hid (Nat.le_trans b0.out.size hg)
      replace b0 := hid (jc_ b0.out hb)
      clear hb hg
      refine hK.out _ _ ⟨H.out.cell 3 rfl, (HAT.out _ H.out.below).2⟩ (fun hHeld => ?_)
      clear hK K
      apply nm 0
      have hn_VZ := (H.out.dist 0 1 rfl rfl (by decide)).symm
      exact kw_ (by simp only [jS_, Act.put, List.setIfInBounds_toArray, List.set_cons_zero, List.set_cons_succ]) (hCont (B61, m61, j61, B62, m62, j62, B63, m63, j63, gV, gZ) _ ⟨hHeld, b0.out, H.out.at_ 1 rfl, H.out.at_ 0 rfl, GV.out, GZ.out, hn_VZ, H.out.fact 0 rfl, n_Z_K6.out, n_Z_Kd.out⟩)
     ·
      obtain ⟨-, cV, -, cQ, cC⟩ := n4_ H
      apply bhs H 11 (oL 0 0 0) 59
      have HO_ := H
      clear H cV cQ cC
      intro gZ W63 hg hb H
      have n_Z_Kd := hid (ze_ (HO_.out.fact 0 rfl) hg)
      clear HO_
      have GZ := hid (Nat.le_trans b0.out.size hg)
      replace b0 := hid (jc_ b0.out hb)
      clear hb hg
      refine hK.out _ _ ⟨H.out.cell 3 rfl, (HAT.out _ H.out.below).2⟩ (fun hHeld => ?_)
      clear hK K
      apply nm 0
      apply on 5 (some 31) (bq 17 6207) HT_; intro K hK
      refine gs Try.func28 #[modV id m u b c z s me o a l (.slice Bd1 md1 jd1) (.slice Bd2 md2 jd2) (.slice Bd3 md3 jd3), cmdV (jk_ xs j).f0 (jk_ xs j).f1 (jk_ xs j).f2 (jk_ xs j).f3 (.slice A4 lx c4) (jk_ xs j).f5] ?_
      refine (HD.out _ (MC_R (H.out.fact 0 rfl)) (HAT.out _ H.out.below).1).mono ?_
      rintro e W64 hP
      obtain ⟨B61, m61, j61, B62, m62, j62, B63, m63, j63, rfl, hM, hb⟩ := yJ_ hP
      clear hP
      have n_Z_K6 := hid (mrd_far hM n_Z_Kd.out (jX_ (H.out.at_ 0 rfl)))
      refine ⟨_, rfl, ?_⟩
      replace H := hid ((H.out.called hb).row (MrF w.heap.size (.slice B61 m61 j61) (.slice B62 m62 j62) (.slice B63 m63 j63) (N)) (MD_R hM ((H.out.called hb).fact 0 rfl) H.out.below.size))
      replace b0 := hid (jc_ b0.out hb)
      clear hM
      clear hb
      refine hK.out _ _ ⟨H.out.cell 3 rfl, (HAT.out _ H.out.below).2⟩ (fun hHeld => ?_)
      clear hK K
      apply nm 0
      apply pu 6 25 (bq 17 6271) HT_
      apply pu 7 32 (bq 17 6399) HT_
      apply pu 8 33 (bq 17 6655) HT_
      apply pu 9 34 (bq 17 7167) HT_
      apply pu 10 35 (bq 17 8191) HT_
      have hn_VZ := (H.out.dist 0 1 rfl rfl (by decide)).symm
      exact kw_ (by simp only [jS_, Act.put, List.setIfInBounds_toArray, List.set_cons_zero, List.set_cons_succ]) (hCont (B61, m61, j61, B62, m62, j62, B63, m63, j63, gV, gZ) _ ⟨hHeld, b0.out, H.out.at_ 1 rfl, H.out.at_ 0 rfl, GV.out, GZ.out, hn_VZ, H.out.fact 0 rfl, n_Z_K6.out, n_Z_Kd.out⟩)
    ·
     obtain ⟨-, -, cQ, cC⟩ := n3_ H
     apply bhs H 11 (oL 0 0 0) 59
     have HO_ := H
     clear H cQ cC
     intro gZ W62 hg hb H
     have n_Z_Kd := hid (ze_ (HO_.out.fact 0 rfl) hg)
     clear HO_
     have GZ := hid (Nat.le_trans b0.out.size hg)
     replace b0 := hid (jc_ b0.out hb)
     clear hb hg
     refine hK.out _ _ ⟨H.out.cell 2 rfl, (HAT.out _ H.out.below).2⟩ (fun hHeld => ?_)
     clear hK K
     apply nm 0
     refine two_ (i := 5) (j := 11) (Ni := some 31) (Nj := some 8) (bq 17 4159) (bq 17 6175) rfl rfl rfl rfl (vL_ HT_.out (by kernel_rfl)) (by decide) (by decide) (fun K hK => ?_) (fun K hK => ?_)
     ·
      refine gs Try.func28 #[modV id m u b c z s me o a l (.slice Bd1 md1 jd1) (.slice Bd2 md2 jd2) (.slice Bd3 md3 jd3), cmdV (jk_ xs j).f0 (jk_ xs j).f1 (jk_ xs j).f2 (jk_ xs j).f3 (.slice A4 lx c4) (jk_ xs j).f5] ?_
      refine (HD.out _ (MC_R (H.out.fact 0 rfl)) (HAT.out _ H.out.below).1).mono ?_
      rintro e W63 hP
      obtain ⟨B61, m61, j61, B62, m62, j62, B63, m63, j63, rfl, hM, hb⟩ := yJ_ hP
      clear hP
      have n_Z_K6 := hid (mrd_far hM n_Z_Kd.out (jX_ (H.out.at_ 0 rfl)))
      refine ⟨_, rfl, ?_⟩
      replace H := hid ((H.out.called hb).row (MrF w.heap.size (.slice B61 m61 j61) (.slice B62 m62 j62) (.slice B63 m63 j63) (N)) (MD_R hM ((H.out.called hb).fact 0 rfl) H.out.below.size))
      replace b0 := hid (jc_ b0.out hb)
      clear hM
      clear hb
      refine hK.out _ _ ⟨H.out.cell 2 rfl, (HAT.out _ H.out.below).2⟩ (fun hHeld => ?_)
      clear hK K
      apply nm 0
      apply pu 6 25 (bq 17 4223) HT_
      apply pu 7 32 (bq 17 4351) HT_
      apply pu 8 33 (bq 17 4607) HT_
      apply pu 9 34 (bq 17 5119) HT_
      apply pu 10 35 (bq 17 6143) HT_
      apply on 11 (some 8) (bq 17 8191) HT_; intro K hK
      obtain ⟨-, cZ, -, cQ, cC⟩ := n4_ H
      apply bhs H 8 (mL 0 0 0 0 0 0 0 0 0 0 0 nil_ nil_ nil_) 68
      clear H cZ cQ cC
      intro gV W64 hg hb H
      have GV := hid (Nat.le_trans b0.out.size hg)
      replace b0 := hid (jc_ b0.out hb)
      clear hb hg
      refine hK.out _ _ ⟨H.out.cell 3 rfl, (HAT.out _ H.out.below).2⟩ (fun hHeld => ?_)
      clear hK K
      apply nm 0
      have hn_VZ := H.out.dist 0 1 rfl rfl (by decide)
      exact kw_ (by simp only [jS_, Act.put, List.setIfInBounds_toArray, List.set_cons_zero, List.set_cons_succ]) (hCont (B61, m61, j61, B62, m62, j62, B63, m63, j63, gV, gZ) _ ⟨hHeld, b0.out, H.out.at_ 0 rfl, H.out.at_ 1 rfl, GV.out, GZ.out, hn_VZ, H.out.fact 0 rfl, n_Z_K6.out, n_Z_Kd.out⟩)
     ·
      obtain ⟨-, cZ, -, cQ, cC⟩ := n4_ H
      apply bhs H 8 (mL 0 0 0 0 0 0 0 0 0 0 0 nil_ nil_ nil_) 68
      clear H cZ cQ cC
      intro gV W63 hg hb H
      have GV := hid (Nat.le_trans b0.out.size hg)
      replace b0 := hid (jc_ b0.out hb)
      clear hb hg
      refine hK.out _ _ ⟨H.out.cell 3 rfl, (HAT.out _ H.out.below).2⟩ (fun hHeld => ?_)
      clear hK K
      apply nm 0
      apply on 5 (some 31) (bq 17 6207) HT_; intro K hK
      refine gs Try.func28 #[modV id m u b c z s me o a l (.slice Bd1 md1 jd1) (.slice Bd2 md2 jd2) (.slice Bd3 md3 jd3), cmdV (jk_ xs j).f0 (jk_ xs j).f1 (jk_ xs j).f2 (jk_ xs j).f3 (.slice A4 lx c4) (jk_ xs j).f5] ?_
      refine (HD.out _ (MC_R (H.out.fact 0 rfl)) (HAT.out _ H.out.below).1).mono ?_
      rintro e W64 hP
      obtain ⟨B61, m61, j61, B62, m62, j62, B63, m63, j63, rfl, hM, hb⟩ := yJ_ hP
      clear hP
      have n_Z_K6 := hid (mrd_far hM n_Z_Kd.out (jX_ (H.out.at_ 1 rfl)))
      refine ⟨_, rfl, ?_⟩
      replace H := hid ((H.out.called hb).row (MrF w.heap.size (.slice B61 m61 j61) (.slice B62 m62 j62) (.slice B63 m63 j63) (N)) (MD_R hM ((H.out.called hb).fact 0 rfl) H.out.below.size))
      replace b0 := hid (jc_ b0.out hb)
      clear hM
      clear hb
      refine hK.out _ _ ⟨H.out.cell 3 rfl, (HAT.out _ H.out.below).2⟩ (fun hHeld => ?_)
      clear hK K
      apply nm 0
      apply pu 6 25 (bq 17 6271) HT_
      apply pu 7 32 (bq 17 6399) HT_
      apply pu 8 33 (bq 17 6655) HT_
      apply pu 9 34 (bq 17 7167) HT_
      apply pu 10 35 (bq 17 8191) HT_
      have hn_VZ := H.out.dist 0 1 rfl rfl (by decide)
      exact kw_ (by simp only [jS_, Act.put, List.setIfInBounds_toArray, List.set_cons_zero, List.set_cons_succ]) (hCont (B61, m61, j61, B62, m62, j62, B63, m63, j63, gV, gZ) _ ⟨hHeld, b0.out, H.out.at_ 0 rfl, H.out.at_ 1 rfl, GV.out, GZ.out, hn_VZ, H.out.fact 0 rfl, n_Z_K6.out, n_Z_Kd.out⟩)
   rintro ⟨B61, m61, j61, B62, m62, j62, B63, m63, j63, gV, gZ⟩ W115 ⟨hHeld, hb, hV, hZ, hGV, hGZ, hnVZ, hrK6, hf_Z_K6, hf_Z_Kd⟩
   (try dsimp only at hHeld hV hZ hGV hGZ hnVZ hrK6 hf_Z_K6 hf_Z_Kd ⊢)
   replace H := hid (H.out.join2 hb hV hGV hZ hGZ hnVZ)
   replace H := hid (H.out.row (MrF w.heap.size (.slice B61 m61 j61) (.slice B62 m62 j62) (.slice B63 m63 j63) (N)) hrK6)
   have n_Z_K6 := hid hf_Z_K6
   have n_Z_Kd := hid hf_Z_Kd
   clear b0 hb hV hZ hGV hGZ hnVZ hrK6 hf_Z_K6 hf_Z_Kd
   refine kw_ (a' := ?_) ?_ ?_
   rotate_left
   ·
    simp only [jS_, Act.put, List.setIfInBounds_toArray, List.set_cons_zero, List.set_cons_succ]
    rfl
   apply on 13 none (bq 17 16383) HT_; intro K hK
   obtain ⟨-, cV, cZ, -, cQ, cC⟩ := n5_ H
   apply shs H 0 68 8 gV (mL id m u b c z s me o a l (.slice B61 m61 j61) (.slice B62 m62 j62) (.slice B63 m63 j63))
   clear H cV cZ cQ cC
   intro W116 K_
   have H := (n5_ K_).1; clear K_
   refine hK.out _ _ ⟨H.out.cell 3 rfl, (HAT.out _ H.out.below).2⟩ (fun hHeld => ?_)
   clear hK K
   apply pu 14 9 (bq 17 32767) HT_
   apply pu 15 10 (bq 17 65535) HT_
   apply on 16 none (bq 17 131071) HT_; intro K hK
   obtain ⟨-, cV, cZ, -, cQ, cC⟩ := n5_ H
   apply shzs H 1 59 11 gZ (oL zz.f0 zz.f1 zz.f2) (fun w_ hw_ => fcons (mrf_set hw_ (H.out.fact 0 rfl) n_Z_K6.out (H.out.at_ 1 rfl)) (fcons (mrf_set hw_ (H.out.fact 1 rfl) n_Z_Kd.out (H.out.at_ 1 rfl)) (fnil)))
   clear H cV cZ cQ cC
   intro W117 K_
   have H := (n5_ K_).1; clear K_
   refine hK.out _ _ ⟨H.out.cell 3 rfl, (HAT.out _ H.out.below).2⟩ (fun hHeld => ?_)
   clear hK K
   refine kk_ (jF_ HT_.out (by kernel_rfl)) ?_
   obtain ⟨-, cV, cZ, -, cQ, cC⟩ := n5_ H
   by_cases he : E = 0 /\ (jk_ xs j).f0 = 0
   ·
    clear cV cZ cQ cC
    have kb : (E == 0) = true := beq_iff_eq.mpr he.1; have kb2 : ((jk_ xs j).f0 == 0) = true := beq_iff_eq.mpr he.2; have kb3 : (E != 0) = false := bne_eq_false_iff_eq.mpr he.1; have kb4 : ((jk_ xs j).f0 != 0) = false := bne_eq_false_iff_eq.mpr he.2
    have hfs2 := HFS.out; rw [if_pos he] at hfs2
    obtain ⟨q, hq⟩ : ∃ q, q = (lx : Int) / b := ⟨_, rfl⟩
    have hlm := HLM.out
    have htd : Int.tdiv (lx : Int) b = q := by rw [hq]; exact Int.tdiv_eq_ediv_of_nonneg (by omega)
    have q2 : 0 <= q := by rw [hq]; exact Int.ediv_nonneg (by omega) (by have := HB1.out; omega)
    have q3 : q <= (lx : Int) := by rw [hq]; exact Int.ediv_le_self _ (by omega)
    have hwq : IntKind.i64.wrap q = q := by rw [kq_]; unfold wrap64; omega
    have hbz : (b = 0) = False := eq_false (by have := HB1.out; omega)
    clear hlm q2 q3
    rw [<- hq] at hfs2
    obtain ⟨ss, hss⟩ : ∃ ss, ss = kP_ id m u b c z s me o a l (jk_ xs j).f2 q := ⟨_, rfl⟩
    have hof3 := HOF.out (jk_ xs j).f2 q
    rw [<- hss] at hfs2 hof3
    obtain ⟨R, hR0⟩ : ∃ R, R = rowF M ss := ⟨_, rfl⟩
    have hrl : R.length = M := by rw [hR0, xT_]
    have hpe : yy_ m.toNat L (rowF m.toNat ss) = yy_ M L R := by rw [show m.toNat = M by have := HM.out; omega, hR0]
    rw [hpe] at hfs2
    clear hpe
    rw [<- hR0] at hof3
    have HRL := hid hrl; have HOF3 := hid hof3; have HF2 := hid hfs2; clear hrl hof3 hfs2 HFS HF hq hss hR0 he
    obtain ⟨-, cV, cZ, -, cQ, cC⟩ := n5_ H
    have a0_ := (HAT.out _ H.out.below).2.1
    have a1_ := (HAT.out _ H.out.below).2.2.1
    have a2_ := (HAT.out _ H.out.below).2.2.2.1
    have a3_ := (HAT.out _ H.out.below).2.2.2.2.1
    have a4_ := (HAT.out _ H.out.below).2.2.2.2.2.1
    have a5_ := (HAT.out _ H.out.below).2.2.2.2.2.2
    go_wp2_with first
     | (apply sh H 3 68 5 gQ (mL id m u b c z s me o a l (.slice B61 m61 j61) (.slice B62 m62 j62) (.slice B63 m63 j63)); clear H cV cZ cQ cC a0_ a1_ a2_ a3_ a4_ a5_; intro W118 K_; obtain ⟨H, cV, cZ, -, cQ, cC⟩ := n5_ K_; clear K_; have a0_ := (HAT.out _ H.out.below).2.1; have a1_ := (HAT.out _ H.out.below).2.2.1; have a2_ := (HAT.out _ H.out.below).2.2.2.1; have a3_ := (HAT.out _ H.out.below).2.2.2.2.1; have a4_ := (HAT.out _ H.out.below).2.2.2.2.2.1; have a5_ := (HAT.out _ H.out.below).2.2.2.2.2.2)
    clear cV cZ cQ cC a0_ a1_ a2_ a3_ a4_ a5_
    obtain ⟨-, cV, cZ, -, cQ, cC⟩ := n5_ H
    go_wp2
    clear cV cZ cQ cC
    refine jN_ (n := 17) (S := fun W => bW W gC (cL id m u b c z s me o a l) /\ (W.cell? (ad.add (j * 6)) = some (.int .i64 (jk_ xs j).f0) /\ W.cell? ⟨(ad.add (j * 6)).block, (ad.add (j * 6)).off + 1, none⟩ = some (.int .i64 (jk_ xs j).f1) /\ W.cell? ⟨(ad.add (j * 6)).block, (ad.add (j * 6)).off + 2, none⟩ = some (.int .i64 (jk_ xs j).f2) /\ W.cell? ⟨(ad.add (j * 6)).block, (ad.add (j * 6)).off + 3, none⟩ = some (.int .i64 (jk_ xs j).f3) /\ W.cell? ⟨(ad.add (j * 6)).block, (ad.add (j * 6)).off + 4, none⟩ = some (.slice A4 lx c4) /\ W.cell? ⟨(ad.add (j * 6)).block, (ad.add (j * 6)).off + 5, none⟩ = some (.bool (jk_ xs j).f5))) (ds := []) (bq 17 0) (by kernel_rfl) rfl (by kernel_rfl) ⟨H.out.drew.cell 4 rfl, (HAT.out _ (H.out.drew).below).2⟩ (fun hHeld => ?_)
    refine jw_ vW_ vQ_ (fun HT_ HW_ => ?_)
    have zH := H.out.drew
    generalize W118.drew = W119 at zH hHeld ⊢
    replace H := hid zH; clear zH
    apply tw 0 47 (bq 17 1) HT_ HW_ hHeld
    apply pu 1 48 (bq 17 3) HT_
    apply pu 2 49 (bq 17 7) HT_
    apply pu 3 50 (bq 17 15) HT_
    apply pu 4 51 (bq 17 31) HT_
    apply tw 5 52 (bq 17 63) HT_ HW_ hHeld
    apply pu 6 53 (bq 17 127) HT_
    apply pu 7 54 (bq 17 255) HT_
    apply pu 8 55 (bq 17 511) HT_
    apply pu 9 56 (bq 17 1023) HT_
    apply tw 10 57 (bq 17 2047) HT_ HW_ hHeld
    apply pu 11 58 (bq 17 4095) HT_
    apply pu 12 59 (bq 17 8191) HT_
    apply tw 13 60 (bq 17 16383) HT_ HW_ hHeld
    apply pu 14 61 (bq 17 32767) HT_
    apply on 15 (some 62) (bq 17 65535) HT_; intro K hK
    refine gs Try.func49 #[.agg #[.int .i64 id, .int .i64 m, .int .i64 u, .int .i64 b, .int .i64 c, .int .i64 z, .int .i64 s, .int .i64 me, .int .i64 o, .int .i64 a, .int .i64 l], .int .i64 (jk_ xs j).f2, .int .i64 q] ?_
    refine (HOF3.out _).mono ?_
    rintro e W120 ⟨v0_, rfl, hR, hb⟩
    refine ⟨_, rfl, ?_⟩
    obtain ⟨As, ks, rfl⟩ := Kd.R_slice hR
    rw [HRL.out] at hR ⊢
    have hof_ := Nat.lt_of_lt_of_le (jX_ (H.out.at_ 2 rfl)) (Nat.le_refl _)
    have hR2 := Kd.R_mono (ok' := fun k => k ≠ gO) (Kd.R_bound hR) (fun k hk e => by have := hk.2.1; omega)
    replace H := hid ((H.out.called hb).row (FarF 135 w.heap.size gO (.slice As M ks) R) (Kd.R_lower hR2 H.out.below.size))
    clear hR hR2 hof_
    clear hb
    refine hK.out _ _ ⟨H.out.cell 4 rfl, (HAT.out _ H.out.below).2⟩ (fun hHeld => ?_)
    clear hK K
    apply nm 0
    apply pu 16 12 (bq 17 131071) HT_
    refine kk_ (jF_ HT_.out (by kernel_rfl)) ?_
    obtain ⟨-, cV, cZ, -, cQ, cC⟩ := n5_ H
    go_wp2
    go_loopw [13] (fun v13 wr => ∃ i : Nat, v13 = .int .i64 i /\ i <= M /\ Hid (Pk w wr [⟨gV, 68, (mL id m u b c z s me o a l (.slice B61 m61 j61) (.slice B62 m62 j62) (.slice B63 m63 j63)).toArray⟩, ⟨gZ, 59, (oL zz.f0 zz.f1 zz.f2).toArray⟩, ⟨gO, 135, (jH_ (yy_ i L R)).toArray⟩, ⟨gQ, 68, (mL id m u b c z s me o a l (.slice B61 m61 j61) (.slice B62 m62 j62) (.slice B63 m63 j63)).toArray⟩, ⟨gC, 23, (cL id m u b c z s me o a l).toArray⟩] [FarF 135 w.heap.size gO (.slice As M ks) R, MrF w.heap.size (.slice B61 m61 j61) (.slice B62 m62 j62) (.slice B63 m63 j63) (N), MrF w.heap.size (.slice Bd1 md1 jd1) (.slice Bd2 md2 jd2) (.slice Bd3 md3 jd3) (D)])) (fun v13 _ => ((M : Int) - intOf v13).toNat)
    case atStart => exact ⟨0, rfl, by omega, H⟩
    case round =>
     clear H cV cZ cQ cC
     obtain ⟨i, rfl, hi, H⟩ := hrel
     have HLI := hid (show (yy_ i L R).length = M by rw [yx_]; exact HLL.out)
     have hM16 := HM2.out
     by_cases hli : i < M
     ·
      have c2 : (i : Int) < (M : Int) := by omega
      have e3 : wrap64 ((i : Int) + 1) = ((i + 1 : Nat) : Int) := by unfold wrap64; push_cast; omega
      have q4 : (0 : Int) <= (i : Int) := by omega
      obtain ⟨P, hP⟩ : ∃ P, P = yy_ i L R := ⟨_, rfl⟩
      have hsu := yQ_ i L R
      rw [<- hP] at HLI H hsu
      obtain ⟨⟨y0, y1⟩, hy⟩ : ∃ y, y = P.getD i zL := ⟨_, rfl⟩
      have hgt := xt_ P i (by rw [HLI.out]; exact hli)
      rw [show P.getD i ⟨0, 0⟩ = P.getD i zL from rfl, <- hy] at hgt
      dsimp only at hgt
      have hrR : R.getD i zL = vD_ R (i : Int) := by unfold vD_; rw [Int.toNat_natCast]; rfl
      rw [<- hy, hrR] at hsu
      have HGT := hid hgt; clear hgt hrR hP hy
      obtain ⟨sd, es⟩ := row_some (show Kd.R k134 135 wr w.heap.size (fun k => k ≠ gO) (.slice As M ks) R from H.out.fact 0 rfl) (by omega)
      cases es
      have HSR := hid (fun (W : World) (h : Kd.R k134 135 W w.heap.size (fun k => k ≠ gO) (.slice (some sd) M ks) R) => row_at h i hli)
      generalize vD_ R (i : Int) = y at HSR hsu
      obtain ⟨p0, p1⟩ := y
      have HSU := hid hsu; clear hsu
      obtain ⟨v0, hv0⟩ : ∃ v, v = wrap64 (y0 + p0) := ⟨_, rfl⟩
      obtain ⟨v1, hv1⟩ : ∃ v, v = wrap64 (y1 + p1) := ⟨_, rfl⟩
      have ws0 : IntKind.i64.wrap (y0 + p0) = v0 := (kq_ _).trans hv0.symm
      have ws1 : IntKind.i64.wrap (y1 + p1) = v1 := (kq_ _).trans hv1.symm
      have HV := hid (show yj_ ⟨y0, y1⟩ ⟨p0, p1⟩ = ⟨v0, v1⟩ by rw [hv0, hv1]; rfl)
      clear hv0 hv1
      have hpi : i < P.length := by rw [HLI.out]; exact hli
      have HPI := hid hpi; clear hpi
      obtain ⟨-, cV, cZ, -, cQ, cC⟩ := n5_ H
      go_wp2
      clear cV cZ cQ cC
      refine jN_ (n := 27) (S := fun W => (W.cell? ⟨gO, i * 2, none⟩ = some (.int .i64 y0) /\ W.cell? ⟨gO, i * 2 + 1, none⟩ = some (.int .i64 y1)) /\ (W.cell? (sd.add (i * 2)) = some (.int .i64 p0) /\ W.cell? ⟨(sd.add (i * 2)).block, (sd.add (i * 2)).off + 1, none⟩ = some (.int .i64 p1))) (ds := [26]) (bq 27 0) (by kernel_rfl) rfl (by kernel_rfl) ⟨⟨(H.out.cell 2 rfl _).trans (by rw [List.getElem?_toArray]; exact HGT.out.1), (H.out.cell 2 rfl _).trans (by rw [List.getElem?_toArray]; exact HGT.out.2)⟩, (HSR.out _ ((H.out.drew).fact 0 rfl))⟩ (fun hHeld => ?_)
      refine jw_ vO_ vM_ (fun HT_ HW_ => ?_)
      have zH := H.out.drew
      generalize wr.drew = W161 at zH hHeld ⊢
      replace H := hid zH; clear zH
      apply pu 0 69 (bq 27 1) HT_
      apply pu 1 70 (bq 27 3) HT_
      apply pu 2 71 (bq 27 7) HT_
      apply pu 3 72 (bq 27 15) HT_
      apply pu 4 73 (bq 27 31) HT_
      apply pu 5 74 (bq 27 63) HT_
      apply tw 6 75 (bq 27 127) HT_ HW_ hHeld
      apply pu 7 76 (bq 27 255) HT_
      apply pu 8 77 (bq 27 511) HT_
      apply pu 9 78 (bq 27 1023) HT_
      apply pu 10 79 (bq 27 2047) HT_
      apply tw 11 80 (bq 27 4095) HT_ HW_ hHeld
      apply pu 12 81 (bq 27 8191) HT_
      apply pu 13 82 (bq 27 16383) HT_
      apply pu 14 83 (bq 27 32767) HT_
      apply pu 15 84 (bq 27 65535) HT_
      apply pu 16 85 (bq 27 131071) HT_
      apply tw 17 86 (bq 27 262143) HT_ HW_ hHeld
      apply pu 18 87 (bq 27 524287) HT_
      apply pu 19 88 (bq 27 1048575) HT_
      apply pu 20 89 (bq 27 2097151) HT_
      apply pu 21 90 (bq 27 4194303) HT_
      apply tw 22 91 (bq 27 8388607) HT_ HW_ hHeld
      apply pu 23 92 (bq 27 16777215) HT_
      apply pu 24 93 (bq 27 33554431) HT_
      apply pu 25 94 (bq 27 67108863) HT_
      apply onl 26 none (bq 27 134217727) HT_; intro K hK
      obtain ⟨-, cV, cZ, -, cQ, cC⟩ := n5_ H
      apply spo H 2 135 94 i P ⟨v0, v1⟩ HPI.out
      clear H cV cZ cQ cC
      intro W199 K_
      have H := K_
      clear K_
      refine hK.out _ _ ?_
      clear hK K
      refine kk_ (jF_ HT_.out (by kernel_rfl)) ?_
      obtain ⟨-, cV, cZ, -, cQ, cC⟩ := n5_ H
      go_wp2
      exact ⟨⟨i + 1, (by rw [show ((i + 1 : Nat) : Int) = (i : Int) + 1 by omega]), by omega, hid (by rw [HSU.out, HV.out]; exact H.out)⟩, by simp only [intOf]; omega⟩
     ·
      have c2 : ¬ (i : Int) < (M : Int) := by omega
      obtain rfl : i = M := by omega
      obtain ⟨-, cV, cZ, -, cQ, cC⟩ := n5_ H
      go_wp2
      have H2 := (H.out.refs (fs' := [MrF w.heap.size (.slice B61 m61 j61) (.slice B62 m62 j62) (.slice B63 m63 j63) (N)]) (by intro f hf; rcases List.mem_cons.1 hf with rfl | hf; exact H.out.fact 1 rfl; cases hf)).tail.tail
      exact ⟨⟨j + 1, N, yy_ i L R, B61, m61, j61, B62, m62, j62, B63, m63, j63, (congrArg (Value.int .i64) e2), by omega, HIN, HF2, HLI, hid H2⟩, by rw [e2]; simp only [intOf]; push_cast; omega⟩
   ·
    clear cV cZ cQ cC
    have hfs2 := HFS.out; rw [if_neg he] at hfs2
    have HF2 := hid hfs2; clear hfs2 HFS HF
    rcases (show ¬ E = 0 \/ (E = 0 /\ ¬ (jk_ xs j).f0 = 0) by omega) with k0 | ⟨k0, k1⟩ <;> (
     (try have kb : (E == 0) = false := beq_eq_false_iff_ne.mpr k0)
     (try have kb3 : (E != 0) = true := bne_iff_ne.mpr k0)
     (try have kb : (E == 0) = true := beq_iff_eq.mpr k0)
     (try have kb3 : (E != 0) = false := bne_eq_false_iff_eq.mpr k0)
     (try have kb2 : ((jk_ xs j).f0 == 0) = false := beq_eq_false_iff_ne.mpr k1)
     (try have kb4 : ((jk_ xs j).f0 != 0) = true := bne_iff_ne.mpr k1)
     (try clear k1)
     clear k0 he
     obtain ⟨-, cV, cZ, -, cQ, cC⟩ := n5_ H
     have a0_ := (HAT.out _ H.out.below).2.1
     have a1_ := (HAT.out _ H.out.below).2.2.1
     have a2_ := (HAT.out _ H.out.below).2.2.2.1
     have a3_ := (HAT.out _ H.out.below).2.2.2.2.1
     have a4_ := (HAT.out _ H.out.below).2.2.2.2.2.1
     have a5_ := (HAT.out _ H.out.below).2.2.2.2.2.2
     go_wp2_with first
      | (apply sh H 3 68 5 gQ (mL id m u b c z s me o a l (.slice B61 m61 j61) (.slice B62 m62 j62) (.slice B63 m63 j63)); clear H cV cZ cQ cC a0_ a1_ a2_ a3_ a4_ a5_; intro W118 K_; obtain ⟨H, cV, cZ, -, cQ, cC⟩ := n5_ K_; clear K_; have a0_ := (HAT.out _ H.out.below).2.1; have a1_ := (HAT.out _ H.out.below).2.2.1; have a2_ := (HAT.out _ H.out.below).2.2.2.1; have a3_ := (HAT.out _ H.out.below).2.2.2.2.1; have a4_ := (HAT.out _ H.out.below).2.2.2.2.2.1; have a5_ := (HAT.out _ H.out.below).2.2.2.2.2.2)
     clear cV cZ cQ cC a0_ a1_ a2_ a3_ a4_ a5_
     obtain ⟨-, cV, cZ, -, cQ, cC⟩ := n5_ H
     have H2 := (H.out.refs (fs' := [MrF w.heap.size (.slice B61 m61 j61) (.slice B62 m62 j62) (.slice B63 m63 j63) (N)]) (by intro f hf; rcases List.mem_cons.1 hf with rfl | hf; exact H.out.fact 0 rfl; cases hf)).tail.tail
     exact ⟨⟨j + 1, N, L, B61, m61, j61, B62, m62, j62, B63, m63, j63, (congrArg (Value.int .i64) e2), by omega, HIN, HF2, HLL, hid H2⟩, by rw [e2]; simp only [intOf]; push_cast; omega⟩)
  ·
   have c1 : ¬ (j : Int) < (n : Int) := by omega
   obtain ⟨-, -, cQ, cC⟩ := n3_ H
   go_wp2
   go_ret
   have hen : xs.take j = xs := List.take_of_length_le (by have := HN.out; omega)
   have hfe := HF.out
   rw [hen] at hfe
   have hrw := row_R5 (base := w.heap.size) L (H.out.at_ 0 rfl) (H.out.le 0 rfl) (by have := HLL.out; have := HM2.out; unfold maxLen; omega)
   rw [HLL.out] at hrw
   exact ⟨_, rfl, by rw [<- hfe]; exact hrw, H.out.below⟩
end Go.Proofs.Ytgckcaoncjhgbaa
