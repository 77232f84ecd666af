/- revetmentref17.New, revetmentref18.New. -/
import Derived.WalkKit
import Derived.WalkSpells
import Derived.WalkLawsBesides
import Derived.Lib.Hide
import Derived.Test.YtgckcaoncjhgbaaFGw
import Derived.Test.YtgckcaoncjhgbaaFMa
import Derived.Test.YtgckcaoncjhgbaaMdBase
import Derived.Test.YtgckcaoncjhgbaaFRm
namespace Go.Proofs.Ytgckcaoncjhgbaa
open Go.RowKit Go.Proofs.Ytgckcaoncjhgbaa.PL Go.Proofs.YtgckcaoncjhgbaaW.PrintWords Go.Proofs.YtgckcaoncjhgbaaW.PrintLast
set_option linter.unusedVariables false
set_option linter.unusedSimpArgs false
attribute [local go_sem] List.getElem?_toArray List.getElem?_cons_succ List.getElem?_cons_zero mL tL cL xL rL oL
def T_revetmentref17_New_1 : Bool × List (List Nat × List Nat) := (true, [([], []), ([], []), ([1], [1]), ([2, 2], [2]), ([0, 3], [0, 3]), ([4, 0, 1, 2, 3, 4], [4])])
theorem tab_revetmentref17_New_1 : rtab .any (opsOf Try.f15 1) = T_revetmentref17_New_1 := by kernel_rfl
theorem bits_revetmentref17_New_1 : waitsOk T_revetmentref17_New_1.2 [0, 0, 2, 6, 15, 31] = true := by kernel_rfl
set_option maxHeartbeats 1000000 in
set_option maxRecDepth 100000 in
theorem rnew_any (id m u b c z s me o a l : Int) (w : World) (z0 : 0 <= z) (z1 : z <= 64) :
  Calls Try.prog 15 #[.agg #[.int .i64 id, .int .i64 m, .int .i64 u, .int .i64 b, .int .i64 c, .int .i64 z, .int .i64 s, .int .i64 me, .int .i64 o, .int .i64 a, .int .i64 l]] w fun e w' => ∃ (A2 : Option Addr) (k2 : Nat), e = .returned (tabV id m u b c z s me o a l (.slice A2 z.toNat k2)) /\ Kd.R k59 59 w' w.heap.size (fun _ => True) (.slice A2 z.toNat k2) (List.replicate z.toNat z59) /\ Below w.heap.size w w' := by
 have H := Lib.hid (Pk.start w)
 have hln : z.toNat * 24 <= 281474976710656 := by omega
 go_enter Try.func15, Try.ntmps15
 go_wp2_with first
  | (apply bh H 1 (cL id m u b c z s me o a l) 23; clear H; intro gC W1 H; obtain ⟨-, cC⟩ := n1_ H)
  | (apply bh H 2 (tL 0 0 0 0 0 0 0 0 0 0 0 nil_) 35; clear H cC; intro gR W2 H; obtain ⟨-, cR, cC⟩ := n2_ H)
 clear cR cC
 refine start_ (n := 6) (S := fun W => bW W gC (cL id m u b c z s me o a l)) (ds := []) (bq 6 0) (by kernel_rfl) rfl (by kernel_rfl) (H.out.drew.cell 1 rfl) (fun hHeld => ?_)
 refine with_tabW tab_revetmentref17_New_1 bits_revetmentref17_New_1 (fun HT_ HW_ => ?_)
 have zH := H.out.drew
 generalize W2.drew = W3 at zH hHeld ⊢
 replace H := Lib.hid zH; clear zH
 apply tw 0 3 (bq 6 1) HT_ HW_ hHeld
 apply pu 1 4 (bq 6 3) HT_
 apply tw 2 5 (bq 6 7) HT_ HW_ hHeld
 apply on 3 (some 6) (bq 6 15) HT_; intro K hK
 obtain ⟨-, cR, cC⟩ := n2_ H
 refine Kd.R_make_step k59 w.heap.size 59 (by rfl) (N := 6) rfl 25 _ _ rfl z rfl rfl Try.underlying25 (.agg #[(.int .i64 0), (.int .i64 0), (.int .i64 0)]) 24 info59 rfl (by decide) (by omega) z59 (ok := fun _ => True) (okp := fun _ => True) (k59_mkM _ _ _ z59) (fun _ hk => hk) trivial (z0) (hln) H.out.below H.out.below.size ?_
 intro v_ W4 hR hB_ hgr_ hnew_
 obtain ⟨AL, kL, rfl⟩ := Kd.R_slice hR
 simp only [List.length_replicate] at hR ⊢
 clear cR cC
 have hb := grown_below hgr_
 replace H := Lib.hid ((H.out.called hb).row (RowF k59 59 w.heap.size (.slice AL z.toNat kL) (List.replicate z.toNat z59)) hR)
 clear hb hR hB_ hgr_ hnew_
 refine hK.out _ _ (H.out.cell 1 rfl) (fun hHeld => ?_)
 clear hK K
 apply nm 0
 apply pu 4 7 (bq 6 31) HT_
 apply on 5 none (bq 6 63) HT_; intro K hK
 obtain ⟨-, cR, cC⟩ := n2_ H
 apply shs H 0 35 2 gR (tL id m u b c z s me o a l (.slice AL z.toNat kL))
 clear H cR cC
 intro W5 K_
 have H := (n2_ K_).1; clear K_
 refine hK.out _ _ (H.out.cell 1 rfl) (fun hHeld => ?_)
 clear hK K
 refine done_ (done_of HT_.out (by kernel_rfl)) ?_
 obtain ⟨-, cR, cC⟩ := n2_ H
 go_wp2
 refine bodyPost_ret (results_cell_row rfl _ _ gR 35 (tL id m u b c z s me o a l (.slice AL z.toNat kL)).toArray (0, 0) _ rfl (H.out.at_ 0 rfl) Try.underlying35 rfl (by kernel_rfl)) rfl ?_
 exact ⟨_, _, rfl, (H.out.fact 0 rfl), H.out.below⟩
def T_revetmentref18_New_1 : Bool × List (List Nat × List Nat) := (true, [([], []), ([0], [0]), ([], []), ([2], [2]), ([3, 3], [3]), ([], []), ([5], [5]), ([6, 6], [6]), ([1, 4, 7], [1, 4, 7]), ([8, 1, 0, 1, 2, 3, 4, 5, 6, 7, 8], [8])])
theorem tab_revetmentref18_New_1 : rtab .any (opsOf Try.f27 1) = T_revetmentref18_New_1 := by kernel_rfl
theorem bits_revetmentref18_New_1 : waitsOk T_revetmentref18_New_1.2 [0, 1, 0, 4, 12, 0, 32, 96, 255, 511] = true := by kernel_rfl
set_option maxHeartbeats 4000000 in
set_option maxRecDepth 100000 in
theorem rmnew_any (id m u b c z s me o a l : Int) (w : World) (z0 : 0 <= z) (z1 : z <= 64) :
  Calls Try.prog 27 #[.agg #[.int .i64 id, .int .i64 m, .int .i64 u, .int .i64 b, .int .i64 c, .int .i64 z, .int .i64 s, .int .i64 me, .int .i64 o, .int .i64 a, .int .i64 l]] w fun e w' => ∃ x y q : Value, e = .returned (modV id m u b c z s me o a l x y q) /\ MR w.heap.size w' x y q ⟨List.replicate z.toNat z59, List.replicate z.toNat ByteArray.empty, List.replicate z.toNat 0⟩ /\ Below w.heap.size w w' := by
 have H := Lib.hid (Pk.start w)
 have hln : z.toNat * 16 <= 281474976710656 := by omega
 have hln2 : z.toNat * 8 <= 281474976710656 := by omega
 have HN := Lib.hid (fun W => rnew_any id m u b c z s me o a l W z0 z1)
 go_enter Try.func27, Try.ntmps27
 go_wp2_with first
  | (apply bh H 1 (cL id m u b c z s me o a l) 23; clear H; intro gC W1 H; obtain ⟨-, cC⟩ := n1_ H)
  | (apply bh H 2 (mL 0 0 0 0 0 0 0 0 0 0 0 nil_ nil_ nil_) 68; clear H cC; intro gR W2 H; obtain ⟨-, cR, cC⟩ := n2_ H)
 clear cR cC
 refine start_ (n := 10) (S := fun W => bW W gC (cL id m u b c z s me o a l)) (ds := []) (bq 10 0) (by kernel_rfl) rfl (by kernel_rfl) (H.out.drew.cell 1 rfl) (fun hHeld => ?_)
 refine with_tabW tab_revetmentref18_New_1 bits_revetmentref18_New_1 (fun HT_ HW_ => ?_)
 have zH := H.out.drew
 generalize W2.drew = W3 at zH hHeld ⊢
 replace H := Lib.hid zH; clear zH
 apply tw 0 3 (bq 10 1) HT_ HW_ hHeld
 apply pu 2 5 (bq 10 5) HT_
 apply tw 3 6 (bq 10 13) HT_ HW_ hHeld
 apply pu 5 8 (bq 10 45) HT_
 apply tw 6 9 (bq 10 109) HT_ HW_ hHeld
 have b0 := Lib.hid (Below.refl W3.heap.size W3)
 refine join_ (σ := Option Addr × Nat × Option Addr × Nat × Option Addr × Nat) 2 (bq 10 255) (fun y => [(4, tabV id m u b c z s me o a l (.slice y.1 z.toNat y.2.1)), (7, (.slice y.2.2.1 z.toNat y.2.2.2.1)), (10, (.slice y.2.2.2.2.1 z.toNat y.2.2.2.2.2))]) (fun y W => (bW W gC (cL id m u b c z s me o a l)) /\ Below W3.heap.size W3 W /\ Kd.R (Kd.int .i64) 3 W w.heap.size (fun _ => True) (.slice y.2.2.2.2.1 z.toNat y.2.2.2.2.2) (List.replicate z.toNat (0 : Int)) /\ Kd.R Kd.string 9 W w.heap.size (fun _ => True) (.slice y.2.2.1 z.toNat y.2.2.2.1) (List.replicate z.toNat ByteArray.empty) /\ Kd.R k59 59 W w.heap.size (fun _ => True) (.slice y.1 z.toNat y.2.1) (List.replicate z.toNat z59)) ?_ ?_
 rotate_left
 ·
  intro hCont
  refine three_ (i := 1) (j := 4) (k := 7) (Ni := some 4) (Nj := some 7) (Nk := some 10) (bq 10 111) (bq 10 125) (bq 10 237) rfl rfl rfl rfl rfl rfl (three_of HT_.out (by kernel_rfl)) (by decide) (by decide) (by decide) (fun K hK => ?_) (fun K hK => ?_) (fun K hK => ?_)
  ·
   refine gs Try.func15 #[.agg #[.int .i64 id, .int .i64 m, .int .i64 u, .int .i64 b, .int .i64 c, .int .i64 z, .int .i64 s, .int .i64 me, .int .i64 o, .int .i64 a, .int .i64 l]] ?_
   refine (HN.out _).mono ?_
   rintro e W4 ⟨A2, k2, rfl, hR, hb⟩
   refine ⟨_, rfl, ?_⟩
   replace H := pr H hb hR
   replace b0 := Lib.hid (below_step b0.out hb)
   clear hR
   clear hb
   refine hK.out _ _ (H.out.cell 1 rfl) (fun hHeld => ?_)
   clear hK K
   apply nm 0
   refine two_ (i := 4) (j := 7) (Ni := some 7) (Nj := some 10) (bq 10 127) (bq 10 239) rfl rfl rfl rfl (two_of HT_.out (by kernel_rfl)) (by decide) (by decide) (fun K hK => ?_) (fun K hK => ?_)
   ·
    obtain ⟨-, cR, cC⟩ := n2_ H
    refine Kd.R_make_step Kd.string w.heap.size 9 (by rfl) (N := 7) rfl 50 _ _ rfl z rfl rfl Try.underlying50 (.string ⟨#[]⟩) 16 info9 rfl (by decide) (by omega) ByteArray.empty (ok := fun _ => True) (okp := fun _ => True) (rfl) (fun _ hk => hk) trivial (z0) (hln) H.out.below H.out.below.size ?_
    intro v_ W5 hR hB_ hgr_ hnew_
    obtain ⟨AY, kY, rfl⟩ := Kd.R_slice hR
    simp only [List.length_replicate] at hR ⊢
    clear cR cC
    have hb := grown_below hgr_
    replace H := Lib.hid ((H.out.called hb).row (RowF Kd.string 9 w.heap.size (.slice AY z.toNat kY) (List.replicate z.toNat ByteArray.empty)) hR)
    replace b0 := Lib.hid (below_step b0.out hb)
    clear hb hR hB_ hgr_ hnew_
    refine hK.out _ _ (H.out.cell 1 rfl) (fun hHeld => ?_)
    clear hK K
    apply nm 0
    apply on 7 (some 10) (bq 10 255) HT_; intro K hK
    obtain ⟨-, cR, cC⟩ := n2_ H
    refine Kd.R_make_step (Kd.int .i64) w.heap.size 3 (by rfl) (N := 10) rfl 51 _ _ rfl z rfl rfl Try.underlying51 (.int .i64 0) 8 info3 rfl (by decide) (by omega) (0 : Int) (ok := fun _ => True) (okp := fun _ => True) (rfl) (fun _ hk => hk) trivial (z0) (hln2) H.out.below H.out.below.size ?_
    intro v_ W6 hR hB_ hgr_ hnew_
    obtain ⟨AQ, kQ, rfl⟩ := Kd.R_slice hR
    simp only [List.length_replicate] at hR ⊢
    clear cR cC
    have hb := grown_below hgr_
    replace H := Lib.hid ((H.out.called hb).row (RowF (Kd.int .i64) 3 w.heap.size (.slice AQ z.toNat kQ) (List.replicate z.toNat (0 : Int))) hR)
    replace b0 := Lib.hid (below_step b0.out hb)
    clear hb hR hB_ hgr_ hnew_
    refine hK.out _ _ (H.out.cell 1 rfl) (fun hHeld => ?_)
    clear hK K
    apply nm 0
    exact norm_ (by simp only [putAll, Act.put, List.setIfInBounds_toArray, List.set_cons_zero, List.set_cons_succ]) (hCont (A2, k2, AY, kY, AQ, kQ) _ ⟨hHeld, b0.out, H.out.fact 0 rfl, H.out.fact 1 rfl, H.out.fact 2 rfl⟩)
   ·
    obtain ⟨-, cR, cC⟩ := n2_ H
    refine Kd.R_make_step (Kd.int .i64) w.heap.size 3 (by rfl) (N := 10) rfl 51 _ _ rfl z rfl rfl Try.underlying51 (.int .i64 0) 8 info3 rfl (by decide) (by omega) (0 : Int) (ok := fun _ => True) (okp := fun _ => True) (rfl) (fun _ hk => hk) trivial (z0) (hln2) H.out.below H.out.below.size ?_
    intro v_ W5 hR hB_ hgr_ hnew_
    obtain ⟨AQ, kQ, rfl⟩ := Kd.R_slice hR
    simp only [List.length_replicate] at hR ⊢
    clear cR cC
    have hb := grown_below hgr_
    replace H := Lib.hid ((H.out.called hb).row (RowF (Kd.int .i64) 3 w.heap.size (.slice AQ z.toNat kQ) (List.replicate z.toNat (0 : Int))) hR)
    replace b0 := Lib.hid (below_step b0.out hb)
    clear hb hR hB_ hgr_ hnew_
    refine hK.out _ _ (H.out.cell 1 rfl) (fun hHeld => ?_)
    clear hK K
    apply nm 0
    apply on 4 (some 7) (bq 10 255) HT_; intro K hK
    obtain ⟨-, cR, cC⟩ := n2_ H
    refine Kd.R_make_step Kd.string w.heap.size 9 (by rfl) (N := 7) rfl 50 _ _ rfl z rfl rfl Try.underlying50 (.string ⟨#[]⟩) 16 info9 rfl (by decide) (by omega) ByteArray.empty (ok := fun _ => True) (okp := fun _ => True) (rfl) (fun _ hk => hk) trivial (z0) (hln) H.out.below H.out.below.size ?_
    intro v_ W6 hR hB_ hgr_ hnew_
    obtain ⟨AY, kY, rfl⟩ := Kd.R_slice hR
    simp only [List.length_replicate] at hR ⊢
    clear cR cC
    have hb := grown_below hgr_
    replace H := Lib.hid ((H.out.called hb).row (RowF Kd.string 9 w.heap.size (.slice AY z.toNat kY) (List.replicate z.toNat ByteArray.empty)) hR)
    replace b0 := Lib.hid (below_step b0.out hb)
    clear hb hR hB_ hgr_ hnew_
    refine hK.out _ _ (H.out.cell 1 rfl) (fun hHeld => ?_)
    clear hK K
    apply nm 0
    exact norm_ (by simp only [putAll, Act.put, List.setIfInBounds_toArray, List.set_cons_zero, List.set_cons_succ]) (hCont (A2, k2, AY, kY, AQ, kQ) _ ⟨hHeld, b0.out, H.out.fact 1 rfl, H.out.fact 0 rfl, H.out.fact 2 rfl⟩)
  ·
   obtain ⟨-, cR, cC⟩ := n2_ H
   refine Kd.R_make_step Kd.string w.heap.size 9 (by rfl) (N := 7) rfl 50 _ _ rfl z rfl rfl Try.underlying50 (.string ⟨#[]⟩) 16 info9 rfl (by decide) (by omega) ByteArray.empty (ok := fun _ => True) (okp := fun _ => True) (rfl) (fun _ hk => hk) trivial (z0) (hln) H.out.below H.out.below.size ?_
   intro v_ W4 hR hB_ hgr_ hnew_
   obtain ⟨AY, kY, rfl⟩ := Kd.R_slice hR
   simp only [List.length_replicate] at hR ⊢
   clear cR cC
   have hb := grown_below hgr_
   replace H := Lib.hid ((H.out.called hb).row (RowF Kd.string 9 w.heap.size (.slice AY z.toNat kY) (List.replicate z.toNat ByteArray.empty)) hR)
   replace b0 := Lib.hid (below_step b0.out hb)
   clear hb hR hB_ hgr_ hnew_
   refine hK.out _ _ (H.out.cell 1 rfl) (fun hHeld => ?_)
   clear hK K
   apply nm 0
   refine two_ (i := 1) (j := 7) (Ni := some 4) (Nj := some 10) (bq 10 127) (bq 10 253) rfl rfl rfl rfl (two_of HT_.out (by kernel_rfl)) (by decide) (by decide) (fun K hK => ?_) (fun K hK => ?_)
   ·
    refine gs Try.func15 #[.agg #[.int .i64 id, .int .i64 m, .int .i64 u, .int .i64 b, .int .i64 c, .int .i64 z, .int .i64 s, .int .i64 me, .int .i64 o, .int .i64 a, .int .i64 l]] ?_
    refine (HN.out _).mono ?_
    rintro e W5 ⟨A2, k2, rfl, hR, hb⟩
    refine ⟨_, rfl, ?_⟩
    replace H := pr H hb hR
    replace b0 := Lib.hid (below_step b0.out hb)
    clear hR
    clear hb
    refine hK.out _ _ (H.out.cell 1 rfl) (fun hHeld => ?_)
    clear hK K
    apply nm 0
    apply on 7 (some 10) (bq 10 255) HT_; intro K hK
    obtain ⟨-, cR, cC⟩ := n2_ H
    refine Kd.R_make_step (Kd.int .i64) w.heap.size 3 (by rfl) (N := 10) rfl 51 _ _ rfl z rfl rfl Try.underlying51 (.int .i64 0) 8 info3 rfl (by decide) (by omega) (0 : Int) (ok := fun _ => True) (okp := fun _ => True) (rfl) (fun _ hk => hk) trivial (z0) (hln2) H.out.below H.out.below.size ?_
    intro v_ W6 hR hB_ hgr_ hnew_
    obtain ⟨AQ, kQ, rfl⟩ := Kd.R_slice hR
    simp only [List.length_replicate] at hR ⊢
    clear cR cC
    have hb := grown_below hgr_
    replace H := Lib.hid ((H.out.called hb).row (RowF (Kd.int .i64) 3 w.heap.size (.slice AQ z.toNat kQ) (List.replicate z.toNat (0 : Int))) hR)
    replace b0 := Lib.hid (below_step b0.out hb)
    clear hb hR hB_ hgr_ hnew_
    refine hK.out _ _ (H.out.cell 1 rfl) (fun hHeld => ?_)
    clear hK K
    apply nm 0
    exact norm_ (by simp only [putAll, Act.put, List.setIfInBounds_toArray, List.set_cons_zero, List.set_cons_succ]) (hCont (A2, k2, AY, kY, AQ, kQ) _ ⟨hHeld, b0.out, H.out.fact 0 rfl, H.out.fact 2 rfl, H.out.fact 1 rfl⟩)
   ·
    obtain ⟨-, cR, cC⟩ := n2_ H
    refine Kd.R_make_step (Kd.int .i64) w.heap.size 3 (by rfl) (N := 10) rfl 51 _ _ rfl z rfl rfl Try.underlying51 (.int .i64 0) 8 info3 rfl (by decide) (by omega) (0 : Int) (ok := fun _ => True) (okp := fun _ => True) (rfl) (fun _ hk => hk) trivial (z0) (hln2) H.out.below H.out.below.size ?_
    intro v_ W5 hR hB_ hgr_ hnew_
    obtain ⟨AQ, kQ, rfl⟩ := Kd.R_slice hR
    simp only [List.length_replicate] at hR ⊢
    clear cR cC
    have hb := grown_below hgr_
    replace H := Lib.hid ((H.out.called hb).row (RowF (Kd.int .i64) 3 w.heap.size (.slice AQ z.toNat kQ) (List.replicate z.toNat (0 : Int))) hR)
    replace b0 := Lib.hid (below_step b0.out hb)
    clear hb hR hB_ hgr_ hnew_
    refine hK.out _ _ (H.out.cell 1 rfl) (fun hHeld => ?_)
    clear hK K
    apply nm 0
    apply on 1 (some 4) (bq 10 255) HT_; intro K hK
    refine gs Try.func15 #[.agg #[.int .i64 id, .int .i64 m, .int .i64 u, .int .i64 b, .int .i64 c, .int .i64 z, .int .i64 s, .int .i64 me, .int .i64 o, .int .i64 a, .int .i64 l]] ?_
    refine (HN.out _).mono ?_
    rintro e W6 ⟨A2, k2, rfl, hR, hb⟩
    refine ⟨_, rfl, ?_⟩
    replace H := pr H hb hR
    replace b0 := Lib.hid (below_step b0.out hb)
    clear hR
    clear hb
    refine hK.out _ _ (H.out.cell 1 rfl) (fun hHeld => ?_)
    clear hK K
    apply nm 0
    exact norm_ (by simp only [putAll, Act.put, List.setIfInBounds_toArray, List.set_cons_zero, List.set_cons_succ]) (hCont (A2, k2, AY, kY, AQ, kQ) _ ⟨hHeld, b0.out, H.out.fact 1 rfl, H.out.fact 2 rfl, H.out.fact 0 rfl⟩)
  ·
   obtain ⟨-, cR, cC⟩ := n2_ H
   refine Kd.R_make_step (Kd.int .i64) w.heap.size 3 (by rfl) (N := 10) rfl 51 _ _ rfl z rfl rfl Try.underlying51 (.int .i64 0) 8 info3 rfl (by decide) (by omega) (0 : Int) (ok := fun _ => True) (okp := fun _ => True) (rfl) (fun _ hk => hk) trivial (z0) (hln2) H.out.below H.out.below.size ?_
   intro v_ W4 hR hB_ hgr_ hnew_
   obtain ⟨AQ, kQ, rfl⟩ := Kd.R_slice hR
   simp only [List.length_replicate] at hR ⊢
   clear cR cC
   have hb := grown_below hgr_
   replace H := Lib.hid ((H.out.called hb).row (RowF (Kd.int .i64) 3 w.heap.size (.slice AQ z.toNat kQ) (List.replicate z.toNat (0 : Int))) hR)
   replace b0 := Lib.hid (below_step b0.out hb)
   clear hb hR hB_ hgr_ hnew_
   refine hK.out _ _ (H.out.cell 1 rfl) (fun hHeld => ?_)
   clear hK K
   apply nm 0
   refine two_ (i := 1) (j := 4) (Ni := some 4) (Nj := some 7) (bq 10 239) (bq 10 253) rfl rfl rfl rfl (two_of HT_.out (by kernel_rfl)) (by decide) (by decide) (fun K hK => ?_) (fun K hK => ?_)
   ·
    refine gs Try.func15 #[.agg #[.int .i64 id, .int .i64 m, .int .i64 u, .int .i64 b, .int .i64 c, .int .i64 z, .int .i64 s, .int .i64 me, .int .i64 o, .int .i64 a, .int .i64 l]] ?_
    refine (HN.out _).mono ?_
    rintro e W5 ⟨A2, k2, rfl, hR, hb⟩
    refine ⟨_, rfl, ?_⟩
    replace H := pr H hb hR
    replace b0 := Lib.hid (below_step b0.out hb)
    clear hR
    clear hb
    refine hK.out _ _ (H.out.cell 1 rfl) (fun hHeld => ?_)
    clear hK K
    apply nm 0
    apply on 4 (some 7) (bq 10 255) HT_; intro K hK
    obtain ⟨-, cR, cC⟩ := n2_ H
    refine Kd.R_make_step Kd.string w.heap.size 9 (by rfl) (N := 7) rfl 50 _ _ rfl z rfl rfl Try.underlying50 (.string ⟨#[]⟩) 16 info9 rfl (by decide) (by omega) ByteArray.empty (ok := fun _ => True) (okp := fun _ => True) (rfl) (fun _ hk => hk) trivial (z0) (hln) H.out.below H.out.below.size ?_
    intro v_ W6 hR hB_ hgr_ hnew_
    obtain ⟨AY, kY, rfl⟩ := Kd.R_slice hR
    simp only [List.length_replicate] at hR ⊢
    clear cR cC
    have hb := grown_below hgr_
    replace H := Lib.hid ((H.out.called hb).row (RowF Kd.string 9 w.heap.size (.slice AY z.toNat kY) (List.replicate z.toNat ByteArray.empty)) hR)
    replace b0 := Lib.hid (below_step b0.out hb)
    clear hb hR hB_ hgr_ hnew_
    refine hK.out _ _ (H.out.cell 1 rfl) (fun hHeld => ?_)
    clear hK K
    apply nm 0
    exact norm_ (by simp only [putAll, Act.put, List.setIfInBounds_toArray, List.set_cons_zero, List.set_cons_succ]) (hCont (A2, k2, AY, kY, AQ, kQ) _ ⟨hHeld, b0.out, H.out.fact 2 rfl, H.out.fact 0 rfl, H.out.fact 1 rfl⟩)
   ·
    obtain ⟨-, cR, cC⟩ := n2_ H
    refine Kd.R_make_step Kd.string w.heap.size 9 (by rfl) (N := 7) rfl 50 _ _ rfl z rfl rfl Try.underlying50 (.string ⟨#[]⟩) 16 info9 rfl (by decide) (by omega) ByteArray.empty (ok := fun _ => True) (okp := fun _ => True) (rfl) (fun _ hk => hk) trivial (z0) (hln) H.out.below H.out.below.size ?_
    intro v_ W5 hR hB_ hgr_ hnew_
    obtain ⟨AY, kY, rfl⟩ := Kd.R_slice hR
    simp only [List.length_replicate] at hR ⊢
    clear cR cC
    have hb := grown_below hgr_
    replace H := Lib.hid ((H.out.called hb).row (RowF Kd.string 9 w.heap.size (.slice AY z.toNat kY) (List.replicate z.toNat ByteArray.empty)) hR)
    replace b0 := Lib.hid (below_step b0.out hb)
    clear hb hR hB_ hgr_ hnew_
    refine hK.out _ _ (H.out.cell 1 rfl) (fun hHeld => ?_)
    clear hK K
    apply nm 0
    apply on 1 (some 4) (bq 10 255) HT_; intro K hK
    refine gs Try.func15 #[.agg #[.int .i64 id, .int .i64 m, .int .i64 u, .int .i64 b, .int .i64 c, .int .i64 z, .int .i64 s, .int .i64 me, .int .i64 o, .int .i64 a, .int .i64 l]] ?_
    refine (HN.out _).mono ?_
    rintro e W6 ⟨A2, k2, rfl, hR, hb⟩
    refine ⟨_, rfl, ?_⟩
    replace H := pr H hb hR
    replace b0 := Lib.hid (below_step b0.out hb)
    clear hR
    clear hb
    refine hK.out _ _ (H.out.cell 1 rfl) (fun hHeld => ?_)
    clear hK K
    apply nm 0
    exact norm_ (by simp only [putAll, Act.put, List.setIfInBounds_toArray, List.set_cons_zero, List.set_cons_succ]) (hCont (A2, k2, AY, kY, AQ, kQ) _ ⟨hHeld, b0.out, H.out.fact 2 rfl, H.out.fact 1 rfl, H.out.fact 0 rfl⟩)
 rintro ⟨A2, k2, AY, kY, AQ, kQ⟩ W57 ⟨hHeld, hb, hrQ, hrY, hrL⟩
 (try dsimp only at hHeld hrQ hrY hrL ⊢)
 replace H := Lib.hid (H.out.called hb)
 replace H := Lib.hid (H.out.row (RowF k59 59 w.heap.size (.slice A2 z.toNat k2) (List.replicate z.toNat z59)) hrL)
 replace H := Lib.hid (H.out.row (RowF Kd.string 9 w.heap.size (.slice AY z.toNat kY) (List.replicate z.toNat ByteArray.empty)) hrY)
 replace H := Lib.hid (H.out.row (RowF (Kd.int .i64) 3 w.heap.size (.slice AQ z.toNat kQ) (List.replicate z.toNat (0 : Int))) hrQ)
 clear b0 hb hrQ hrY hrL
 refine norm_ (a' := ?_) ?_ ?_
 rotate_left
 ·
  simp only [putAll, Act.put, List.setIfInBounds_toArray, List.set_cons_zero, List.set_cons_succ]
  rfl
 apply pu 8 11 (bq 10 511) HT_
 apply on 9 none (bq 10 1023) HT_; intro K hK
 obtain ⟨-, cR, cC⟩ := n2_ H
 apply shs H 0 68 2 gR (mL id m u b c z s me o a l (.slice A2 z.toNat k2) (.slice AY z.toNat kY) (.slice AQ z.toNat kQ))
 clear H cR cC
 intro W58 K_
 have H := (n2_ K_).1; clear K_
 refine hK.out _ _ (H.out.cell 1 rfl) (fun hHeld => ?_)
 clear hK K
 refine done_ (done_of HT_.out (by kernel_rfl)) ?_
 obtain ⟨-, cR, cC⟩ := n2_ H
 go_wp2
 refine bodyPost_ret (results_cell_row rfl _ _ gR 68 (mL id m u b c z s me o a l (.slice A2 z.toNat k2) (.slice AY z.toNat kY) (.slice AQ z.toNat kQ)).toArray (0, 0) _ rfl (H.out.at_ 0 rfl) Try.underlying68 rfl (by kernel_rfl)) rfl ?_
 exact ⟨_, _, _, rfl, ⟨(H.out.fact 2 rfl), (H.out.fact 1 rfl), (H.out.fact 0 rfl)⟩, H.out.below⟩
end Go.Proofs.Ytgckcaoncjhgbaa
