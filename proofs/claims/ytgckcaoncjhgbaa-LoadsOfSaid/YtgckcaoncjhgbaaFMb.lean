/- lzone.New. -/
/- model.with: a zone has another text. -/
/- model.flushed: all is safe. -/
/- model.Zone, Safe, Text. -/
/- model.New. -/
import Derived.Test.YtgckcaoncjhgbaaFMa
import Derived.Test.YtgckcaoncjhgbaaMdBase
set_option maxHeartbeats 1000000
set_option maxRecDepth 100000
open Go.Lib (hid)
namespace Go.Proofs.Ytgckcaoncjhgbaa
open Go.RowKit Go.Proofs.Ytgckcaoncjhgbaa.PL Go.Proofs.YtgckcaoncjhgbaaW.PrintWords Go.Proofs.YtgckcaoncjhgbaaW.PrintLast
set_option linter.unusedVariables false
set_option linter.unusedSimpArgs false
attribute [local go_sem] List.getElem?_toArray List.getElem?_cons_succ List.getElem?_cons_zero mL tL cL xL rL oL
def yI_ : Bool × List (List Nat × List Nat) := (true, [([], []), ([], []), ([1], [1]), ([2, 2], [2]), ([0, 3], [0, 3]), ([4, 0, 1, 2, 3, 4], [4]), ([5, 0, 1, 2, 3, 4, 5], [])])
theorem zx_ : rtab .any (kT_ Try.f11 4) = yI_ := by kernel_rfl
theorem zo_ : jO_ yI_.2 [0, 0, 2, 6, 15, 31, 63] = true := by kernel_rfl
theorem lnew_ok (id m u b c z s me o a l : Int) (w : World) (hk : jn_ id m u b c z s me o a l = 0) :
  Calls Try.prog 11 #[.agg #[.int .i64 id, .int .i64 m, .int .i64 u, .int .i64 b, .int .i64 c, .int .i64 z, .int .i64 s, .int .i64 me, .int .i64 o, .int .i64 a, .int .i64 l]] w fun e w' => ∃ v : Value, e = .returned (.tuple #[tabV id m u b c z s me o a l v, .int .i64 0]) /\ Kd.R k59 59 w' w.heap.size (fun _ => True) v (List.replicate z.toNat z59) /\ Below w.heap.size w w' := by
 have H := hid (Pk.start w)
 have hb := kB_ (kM_ hk).1
 have z0 : 0 <= z := by omega
 have hln : z.toNat * 24 <= 281474976710656 := by omega
 have hck := fun W => conf_Check.calls id m u b c z s me o a l (jn_ id m u b c z s me o a l) W rfl
 rw [hk] at hck
 have HK := hid hck; clear hck hb hk
 go_enter Try.func11, Try.ntmps11
 go_wp2_with first
  | (apply bh H 1 (cL id m u b c z s me o a l) 23; clear H; intro gC W1 H; obtain ⟨-, cC⟩ := n1_ H)
  | (apply bh H 2 (tL 0 0 0 0 0 0 0 0 0 0 0 nil_) 27; clear H cC; intro gR W2 H; obtain ⟨-, cR, cC⟩ := n2_ H)
  | (go_at_call 52; refine (HK.out _).mono ?_; rintro e W3 ⟨rfl, hb⟩; clear cR cC; replace H := pc H hb; clear hb; obtain ⟨-, cR, cC⟩ := n2_ H)
 clear cR cC
 refine jN_ (n := 7) (S := fun W => bW W gC (cL id m u b c z s me o a l)) (ds := []) (bq 7 0) (by kernel_rfl) rfl (by kernel_rfl) (H.out.drew.cell 1 rfl) (fun hHeld => ?_)
 refine jw_ zx_ zo_ (fun HT_ HW_ => ?_)
 have zH := H.out.drew
 generalize W3.drew = W4 at zH hHeld ⊢
 replace H := hid zH; clear zH
 apply tw 0 11 (bq 7 1) HT_ HW_ hHeld
 apply pu 1 12 (bq 7 3) HT_
 apply tw 2 13 (bq 7 7) HT_ HW_ hHeld
 apply on 3 (some 14) (bq 7 15) HT_; intro K hK
 obtain ⟨-, cR, cC⟩ := n2_ H
 refine Kd.R_make_step k59 w.heap.size 59 (by rfl) (N := 14) rfl 25 _ _ rfl z rfl rfl Try.underlying25 (.agg #[(.int .i64 0), (.int .i64 0), (.int .i64 0)]) 24 info59 rfl (by decide) (by omega) z59 (ok := fun _ => True) (okp := fun _ => True) (k59_mkM _ _ _ z59) (fun _ hk => hk) trivial (z0) (hln) H.out.below H.out.below.size ?_
 intro v_ W5 hR hB_ hgr_ hnew_
 obtain ⟨AL, kL, rfl⟩ := Kd.R_slice hR
 simp only [List.length_replicate] at hR ⊢
 clear cR cC
 have hb := jR_ hgr_
 replace H := hid ((H.out.called hb).row (RowF k59 59 w.heap.size (.slice AL z.toNat kL) (List.replicate z.toNat z59)) hR)
 clear hb hR hB_ hgr_ hnew_
 refine hK.out _ _ (H.out.cell 1 rfl) (fun hHeld => ?_)
 clear hK K
 apply nm 0
 apply pu 4 15 (bq 7 31) HT_
 apply on 5 none (bq 7 63) HT_; intro K hK
 obtain ⟨-, cR, cC⟩ := n2_ H
 apply shs H 0 27 2 gR (tL id m u b c z s me o a l (.slice AL z.toNat kL))
 clear H cR cC
 intro W6 K_
 have H := (n2_ K_).1; clear K_
 refine hK.out _ _ (H.out.cell 1 rfl) (fun hHeld => ?_)
 clear hK K
 apply pu 6 3 (bq 7 127) HT_
 refine kk_ (jF_ HT_.out (by kernel_rfl)) ?_
 obtain ⟨-, cR, cC⟩ := n2_ H
 go_wp2
 refine bodyPost_ret (jj_ rfl _ _ gR 27 (tL id m u b c z s me o a l (.slice AL z.toNat kL)).toArray (0, 0) _ rfl (H.out.at_ 0 rfl) Try.underlying27 rfl (by kernel_rfl)) rfl ?_
 exact ⟨_, rfl, (H.out.fact 0 rfl), H.out.below⟩
theorem lnew_no (id m u b c z s me o a l : Int) (w : World) (hk : ¬ jn_ id m u b c z s me o a l = 0) :
  Calls Try.prog 11 #[.agg #[.int .i64 id, .int .i64 m, .int .i64 u, .int .i64 b, .int .i64 c, .int .i64 z, .int .i64 s, .int .i64 me, .int .i64 o, .int .i64 a, .int .i64 l]] w fun e w' => ∃ v : Value, e = .returned (.tuple #[tabV 0 0 0 0 0 0 0 0 0 0 0 v, .int .i64 (jn_ id m u b c z s me o a l)]) /\ Kd.R k59 59 w' w.heap.size (fun _ => True) v [] /\ Below w.heap.size w w' := by
 have H := hid (Pk.start w)
 have hck := fun W => conf_Check.calls id m u b c z s me o a l (jn_ id m u b c z s me o a l) W rfl
 generalize jn_ id m u b c z s me o a l = E at hk hck ⊢
 have kb : (E == 0) = false := beq_eq_false_iff_ne.mpr hk; have kb2 : (E != 0) = true := bne_iff_ne.mpr hk
 have HK := hid hck; clear hck hk
 go_enter Try.func11, Try.ntmps11
 go_wp2_with first
  | (apply bh H 1 (cL id m u b c z s me o a l) 23; clear H; intro gC W1 H; obtain ⟨-, cC⟩ := n1_ H)
  | (apply bh H 2 (tL 0 0 0 0 0 0 0 0 0 0 0 nil_) 27; clear H cC; intro gR W2 H; obtain ⟨-, cR, cC⟩ := n2_ H)
  | (go_at_call 52; refine (HK.out _).mono ?_; rintro e W3 ⟨rfl, hb⟩; clear cR cC; replace H := pc H hb; clear hb; obtain ⟨-, cR, cC⟩ := n2_ H)
  | (apply sn H 0 27 2 gR (tL 0 0 0 0 0 0 0 0 0 0 0 nil_))
 refine bodyPost_ret (jj_ rfl _ _ gR 27 (tL 0 0 0 0 0 0 0 0 0 0 0 nil_).toArray (0, 0) _ rfl (H.out.at_ 0 rfl) Try.underlying27 rfl (by kernel_rfl)) rfl ?_
 exact ⟨_, rfl, Kd.R_nil _ _ _ _ _, H.out.below⟩
def yg_ : Bool × List (List Nat × List Nat) := (true, [([], []), ([0], [0]), ([1], [1]), ([], []), ([3], [3]), ([4, 2], [4]), ([0, 1, 2, 3, 4], []), ([6, 2, 5, 0, 1, 2, 3, 4], [2, 6]), ([0, 1, 2, 3, 4, 5, 6, 7], []), ([8, 5, 7, 0, 1, 2, 3, 4, 5, 6, 7], [5, 8])])
theorem zj_ : rtab .any (kT_ Try.f85 1) = yg_ := by kernel_rfl
theorem yV_ : jO_ yg_.2 [0, 1, 3, 0, 8, 31, 31, 127, 255, 511] = true := by kernel_rfl
def yf_ : Bool × List (List Nat × List Nat) := (true, [([], []), ([0], [0]), ([], []), ([], []), ([3], [3]), ([], []), ([], []), ([], []), ([1, 2, 0, 1, 2, 6], [1, 2]), ([8, 6, 0, 1, 2, 6], [6, 8]), ([4, 5, 0, 1, 2, 3, 4, 5, 6, 7, 8, 9], [4, 5]), ([10, 7, 9, 0, 1, 2, 3, 4, 5, 6, 7, 8, 9], [7, 10])])
theorem zi_ : rtab .any (kT_ Try.f85 2) = yf_ := by kernel_rfl
theorem yU_ : jO_ yf_.2 [0, 1, 0, 0, 8, 0, 0, 0, 71, 327, 1023, 2047] = true := by kernel_rfl
theorem zK_ (id m u b c z s me o a l : Int) (x y q : Value) (D : Mdl) (i : Int) (t : ByteArray) (sf : Int) (w : World) (h : MC w x y q D) (i0 : 0 <= i) (i1 : i < (D.T.length : Int)) (i2 : i < (D.S.length : Int)) (hl2 : D.T.length < 1000000000) (hl3 : D.S.length < 1000000000) :
  Calls Try.prog 85 #[modV id m u b c z s me o a l x y q, .int .i64 i, .string t, .int .i64 sf] w fun e w' => ∃ y' q' : Value, e = .returned (modV id m u b c z s me o a l x y' q') /\ Kd.R Kd.string 9 w' w.heap.size (fun _ => True) y' (D.T.set i.toNat t) /\ Kd.R (Kd.int .i64) 3 w' w.heap.size (fun _ => True) q' (D.S.set i.toNat sf) /\ Below w.heap.size w w' := by
 have H := hid (Pk.start w)
 obtain ⟨⟨A1, k1, rfl, hk1, hC1⟩, ⟨A2, k2, rfl, hk2, hC2⟩, ⟨A3, k3, rfl, hk3, hC3⟩⟩ := h
 obtain ⟨n1, hn1⟩ : ∃ n, n = D.L.length := ⟨_, rfl⟩
 obtain ⟨n2, hn2⟩ : ∃ n, n = D.T.length := ⟨_, rfl⟩
 obtain ⟨n3, hn3⟩ : ∃ n, n = D.S.length := ⟨_, rfl⟩
 have hT := fun W h => cloneT_any A2 k2 D.T W h hk2 hl2
 have hI := fun W h => cloneI_any A3 k3 D.S W h hk3 hl3
 have hfT := fun (base : Nat) (ok : Nat -> Prop) (W : World) (v : Value) (h : Kd.R Kd.string 9 W base ok v D.T) => Kd.R_form h (by omega)
 have hfI := fun (base : Nat) (ok : Nat -> Prop) (W : World) (v : Value) (h : Kd.R (Kd.int .i64) 3 W base ok v D.S) => Kd.R_form h (by omega)
 rw [<- hn1, <- hn2, <- hn3]
 rw [<- hn2] at hC2 hT hfT i1
 rw [<- hn3] at hC3 hI hfI i2
 have HT := hid hT; have HI := hid hI; have HFT := hid hfT; have HFI := hid hfI; have HC2 := hid hC2; have HC3 := hid hC3
 clear hT hI hfT hfI hC1 hC2 hC3 hn1 hn2 hn3 hl2 hl3 hk1 hk2 hk3
 go_enter Try.func85, Try.ntmps85
 go_wp2_with first
  | (apply bh H 4 (mL id m u b c z s me o a l (.slice A1 n1 k1) (.slice A2 n2 k2) (.slice A3 n3 k3)) 53; clear H; intro gM W1 H; obtain ⟨-, cM⟩ := n1_ H)
  | (apply bh H 8 (mL 0 0 0 0 0 0 0 0 0 0 0 nil_ nil_ nil_) 53; clear H cM; intro gR W2 H; obtain ⟨-, cR, cM⟩ := n2_ H)
 clear cR cM
 refine jN_ (n := 10) (S := fun W => bW W gM (mL id m u b c z s me o a l (.slice A1 n1 k1) (.slice A2 n2 k2) (.slice A3 n3 k3))) (ds := [7, 9]) (bq 10 0) (by kernel_rfl) rfl (by kernel_rfl) (H.out.drew.cell 1 rfl) (fun hHeld => ?_)
 refine jw_ zj_ yV_ (fun HT_ HW_ => ?_)
 have zH := H.out.drew
 generalize W2.drew = W3 at zH hHeld ⊢
 replace H := hid zH; clear zH
 apply pu 0 9 (bq 10 1) HT_
 apply tw 1 10 (bq 10 3) HT_ HW_ hHeld
 apply pu 3 12 (bq 10 11) HT_
 apply tw 4 13 (bq 10 27) HT_ HW_ hHeld
 apply on 2 (some 11) (bq 10 31) HT_; intro K hK
 refine gs Try.func110 #[.slice A2 n2 k2] ?_
 refine (HT.out _ (Kd.C_below HC2.out H.out.below)).mono ?_
 rintro e W4 ⟨v, rfl, hR, hb⟩
 refine ⟨_, rfl, ?_⟩
 obtain ⟨gT, cT, rfl, -⟩ := HFT.out _ _ _ _ hR
 replace H := pr H hb hR
 clear hR
 clear hb
 refine hK.out _ _ (H.out.cell 1 rfl) (fun hHeld => ?_)
 clear hK K
 apply nm 0
 apply pu 6 15 (bq 10 95) HT_
 apply on 5 (some 14) (bq 10 127) HT_; intro K hK
 refine gs Try.func109 #[.slice A3 n3 k3] ?_
 refine (HI.out _ (Kd.C_below HC3.out H.out.below)).mono ?_
 rintro e W5 ⟨v, rfl, hR, hb⟩
 refine ⟨_, rfl, ?_⟩
 obtain ⟨gI, cI, rfl, -⟩ := HFI.out _ _ _ _ hR
 replace H := pr H hb hR
 clear hR
 clear hb
 refine hK.out _ _ (H.out.cell 1 rfl) (fun hHeld => ?_)
 clear hK K
 apply nm 0
 apply onl 7 none (bq 10 255) HT_; intro K hK
 obtain ⟨-, cR, cM⟩ := n2_ H
 apply sps H 1 50 15 gM 12 [.slice (some ⟨gT, 0, none⟩) n2 cT] (mL id m u b c z s me o a l (.slice A1 n1 k1) (.slice (some ⟨gT, 0, none⟩) n2 cT) (.slice A3 n3 k3))
 clear H cR cM
 intro W6 K_
 have H := (n2_ K_).1; clear K_
 refine hK.out _ _ ?_
 clear hK K
 apply pu 8 16 (bq 10 511) HT_
 apply onl 9 none (bq 10 1023) HT_; intro K hK
 obtain ⟨-, cR, cM⟩ := n2_ H
 apply sps H 1 51 16 gM 13 [.slice (some ⟨gI, 0, none⟩) n3 cI] (mL id m u b c z s me o a l (.slice A1 n1 k1) (.slice (some ⟨gT, 0, none⟩) n2 cT) (.slice (some ⟨gI, 0, none⟩) n3 cI))
 clear H cR cM
 intro W7 K_
 have H := (n2_ K_).1; clear K_
 refine hK.out _ _ ?_
 clear hK K
 refine kk_ (jF_ HT_.out (by kernel_rfl)) ?_
 obtain ⟨-, cR, cM⟩ := n2_ H
 go_wp2
 clear cR cM
 refine jN_ (n := 12) (S := fun W => bW W gM (mL id m u b c z s me o a l (.slice A1 n1 k1) (.slice (some ⟨gT, 0, none⟩) n2 cT) (.slice (some ⟨gI, 0, none⟩) n3 cI))) (ds := []) (bq 12 0) (by kernel_rfl) rfl (by kernel_rfl) (H.out.drew.cell 1 rfl) (fun hHeld => ?_)
 refine jw_ zi_ yU_ (fun HT_ HW_ => ?_)
 have zH := H.out.drew
 generalize W7.drew = W8 at zH hHeld ⊢
 replace H := hid zH; clear zH
 apply pu 0 17 (bq 12 1) HT_
 apply tw 1 18 (bq 12 3) HT_ HW_ hHeld
 apply pu 2 19 (bq 12 7) HT_
 apply pu 3 20 (bq 12 15) HT_
 apply tw 4 21 (bq 12 31) HT_ HW_ hHeld
 apply pu 5 22 (bq 12 63) HT_
 apply pu 6 23 (bq 12 127) HT_
 apply pu 7 24 (bq 12 255) HT_
 apply pu 8 25 (bq 12 511) HT_
 apply on 9 none (bq 12 1023) HT_; intro K hK
 obtain ⟨-, cR, cM⟩ := n2_ H
 have hR_ : Kd.R Kd.string 9 W8 w.heap.size (fun _ => True) (.slice (some ⟨gT, 0, none⟩) n2 cT) D.T := H.out.fact 1 rfl
 obtain ⟨ce_, fe_⟩ := elem_at hR_ i i0 i1
 clear hR_
 apply svs 9 25 gT i.toNat [.string t]
 intro W9 hw
 clear ce_ fe_
 clear cR cM
 replace H := hid (H.out.putE 1 rfl hw rfl rfl)
 clear hw
 refine hK.out _ _ (H.out.cell 1 rfl) (fun hHeld => ?_)
 clear hK K
 apply pu 10 26 (bq 12 2047) HT_
 apply on 11 none (bq 12 4095) HT_; intro K hK
 obtain ⟨-, cR, cM⟩ := n2_ H
 have hR_ : Kd.R (Kd.int .i64) 3 W9 w.heap.size (fun _ => True) (.slice (some ⟨gI, 0, none⟩) n3 cI) D.S := H.out.fact 0 rfl
 obtain ⟨ce_, fe_⟩ := elem_at hR_ i i0 i2
 clear hR_
 apply svs 3 26 gI i.toNat [.int .i64 sf]
 intro W10 hw
 clear ce_ fe_
 clear cR cM
 replace H := hid (H.out.putE 0 rfl hw rfl rfl)
 clear hw
 refine hK.out _ _ (H.out.cell 1 rfl) (fun hHeld => ?_)
 clear hK K
 refine kk_ (jF_ HT_.out (by kernel_rfl)) ?_
 obtain ⟨-, cR, cM⟩ := n2_ H
 go_wp2_with first
  | (apply sh H 0 53 8 gR (mL id m u b c z s me o a l (.slice A1 n1 k1) (.slice (some ⟨gT, 0, none⟩) n2 cT) (.slice (some ⟨gI, 0, none⟩) n3 cI)); clear H cR cM; intro W11 K_; obtain ⟨H, cR, cM⟩ := n2_ K_; clear K_)
 refine bodyPost_ret (results_cell_row rfl _ _ gR 53 (mL id m u b c z s me o a l (.slice A1 n1 k1) (.slice (some ⟨gT, 0, none⟩) n2 cT) (.slice (some ⟨gI, 0, none⟩) n3 cI)).toArray (0, 0) _ rfl (H.out.at_ 0 rfl) Try.underlying53 rfl (by kernel_rfl)) rfl ?_
 exact ⟨_, _, rfl, (H.out.fact 1 rfl), (H.out.fact 0 rfl), H.out.below⟩
theorem yn_ (id m u b c z s me o a l : Int) (x y q : Value) (D : Mdl) (w : World) (h : MC w x y q D) (hp : 0 < D.L.length) (hS : D.S.length = D.L.length) (hl : D.L.length < 1000000000) :
  Calls Try.prog 76 #[modV id m u b c z s me o a l x y q] w fun e w' => ∃ q' : Value, e = .returned (modV id m u b c z s me o a l x y q') /\ Kd.R (Kd.int .i64) 3 w' w.heap.size (fun _ => True) q' (D.L.map (·.f1)) /\ Below w.heap.size w w' := by
 have H := hid (Pk.start w)
 obtain ⟨⟨A1, k1, rfl, hk1, hC1⟩, ⟨A2, k2, rfl, hk2, hC2⟩, ⟨A3, k3, rfl, hk3, hC3⟩⟩ := h
 obtain ⟨n1, hn1⟩ : ∃ n, n = D.L.length := ⟨_, rfl⟩
 obtain ⟨n2, hn2⟩ : ∃ n, n = D.T.length := ⟨_, rfl⟩
 obtain ⟨n3, hn3⟩ : ∃ n, n = D.S.length := ⟨_, rfl⟩
 have hI := fun W h => cloneI_any A3 k3 D.S W h hk3 (by omega)
 have hfI := fun (base : Nat) (ok : Nat -> Prop) (W : World) (v : Value) (h : Kd.R (Kd.int .i64) 3 W base ok v D.S) => Kd.R_form h (by omega)
 obtain ⟨Y, hY⟩ : ∃ Y, Y = D.L.map (·.f1) := ⟨_, rfl⟩
 have hyl : Y.length = D.L.length := by rw [hY, List.length_map]
 have hrd : ∀ (j : Nat) (h : j < Y.length), (jl_ D.L (j : Int)).f1 = Y[j] := by subst hY; intro j h; exact rd_map h
 rw [<- hY, <- hn1, <- hn2, <- hn3]
 rw [<- hn1] at hC1 hp hl hyl
 rw [<- hn3] at hC3 hI hfI
 rw [<- hn3, <- hn1] at hS
 replace hS := hS.symm
 subst hS
 have hys : D.S.length = Y.length := by omega
 have HI := hid hI; have HFI := hid hfI; have HC1 := hid hC1; have HC3 := hid hC3; have HYL := hid hyl; have HYS := hid hys; have HRD := hid hrd
 clear hI hfI hC1 hC2 hC3 hn1 hn2 hn3 hk1 hk2 hk3 hY hyl hys hrd
 go_enter Try.func76, Try.ntmps76
 go_wp2_with first
  | (apply bh H 1 (mL id m u b c z s me o a l (.slice A1 n1 k1) (.slice A2 n2 k2) (.slice A3 n1 k3)) 53; clear H; intro gM W1 H; obtain ⟨-, cM⟩ := n1_ H)
  | (apply bh H 2 (mL 0 0 0 0 0 0 0 0 0 0 0 nil_ nil_ nil_) 53; clear H cM; intro gR W2 H; obtain ⟨-, cR, cM⟩ := n2_ H)
  | (go_at_call 109; refine (HI.out _ (Kd.C_below HC3.out H.out.below)).mono ?_; rintro e W3 ⟨v, rfl, hR, hb⟩; clear cR cM; obtain ⟨gI, cI, rfl, -⟩ := HFI.out _ _ _ _ hR; replace H := pr H hb hR; clear hR; clear hb; obtain ⟨-, cR, cM⟩ := n2_ H)
  | (apply sp H 1 51 8 gM 13 [.slice (some ⟨gI, 0, none⟩) n1 cI] (mL id m u b c z s me o a l (.slice A1 n1 k1) (.slice A2 n2 k2) (.slice (some ⟨gI, 0, none⟩) n1 cI)); clear H cR cM; intro W4 K_; obtain ⟨H, cR, cM⟩ := n2_ K_; clear K_)
 go_loopw [13] (fun v13 wr => ∃ j : Nat, v13 = .int .i64 j /\ j <= n1 /\ Hid (Pk w wr [⟨gR, 53, (mL 0 0 0 0 0 0 0 0 0 0 0 nil_ nil_ nil_).toArray⟩, ⟨gM, 53, (mL id m u b c z s me o a l (.slice A1 n1 k1) (.slice A2 n2 k2) (.slice (some ⟨gI, 0, none⟩) n1 cI)).toArray⟩] [RowF (Kd.int .i64) 3 w.heap.size (.slice (some ⟨gI, 0, none⟩) n1 cI) (mixL Y D.S j)])) (fun v13 _ => ((n1 : Int) - intOf v13).toNat)
 case atStart => exact ⟨0, rfl, by omega, hid (by rw [mixL_zero]; exact H.out)⟩
 case round =>
  clear H cM cR
  obtain ⟨j, rfl, hj, H⟩ := hrel
  by_cases hlt : j < n1
  ·
   have c1 : (j : Int) < (n1 : Int) := by omega
   obtain ⟨ad, e⟩ := xI_ (Kd.C_below HC1.out H.out.below) (by omega)
   subst e
   have q1 : (0 : Int) <= (j : Int) := by omega
   have e2 : wrap64 ((j : Int) + 1) = ((j + 1 : Nat) : Int) := by unfold wrap64; push_cast; omega
   have HE2 := hid e2; clear e2
   obtain ⟨-, cR, cM⟩ := n2_ H
   have zc := yK_ (Kd.C_below HC1.out H.out.below) j hlt
   go_wp2_with first
    | (apply bh H 4 (oL 0 0 0) 59; clear H cR cM zc; intro gV W21 H; obtain ⟨-, cV, cR, cM⟩ := n3_ H; have zc := yK_ (Kd.C_below HC1.out H.out.below) j hlt)
    | (apply sh H 0 59 4 gV (oL ((jl_ D.L (j : Int)).f0) ((jl_ D.L (j : Int)).f1) ((jl_ D.L (j : Int)).f2)); clear H cV cR cM zc; intro W22 K_; obtain ⟨H, cV, cR, cM⟩ := n3_ K_; clear K_; have zc := yK_ (Kd.C_below HC1.out H.out.below) j hlt)
    | (have hR_ : Kd.R (Kd.int .i64) 3 W22 w.heap.size (fun _ => True) (.slice (some ⟨gI, 0, none⟩) n1 cI) (mixL Y D.S j) := H.out.fact 0 rfl; obtain ⟨ce_, fe_⟩ := elem_atN hR_ j hlt; clear hR_; apply sv 3 23 gI j [.int .i64 (jl_ D.L (j : Int)).f1]; intro W23 hw; clear ce_ fe_; clear cV cR cM zc; replace H := hid (H.out.putE 0 rfl hw rfl rfl); clear hw; obtain ⟨-, cV, cR, cM⟩ := n3_ H; have zc := yK_ (Kd.C_below HC1.out H.out.below) j hlt)
   exact ⟨⟨j + 1, rfl, by omega, hid (by rw [<- mixL_set (by rw [HYL.out]; exact hlt) HYS.out, <- HRD.out j (by rw [HYL.out]; exact hlt)]; exact H.out.tail)⟩, by simp only [intOf]; push_cast; omega⟩
  ·
   have c1 : ¬ (j : Int) < (n1 : Int) := by omega
   obtain rfl : n1 = j := by omega
   obtain ⟨-, cR, cM⟩ := n2_ H
   go_wp2_with first
    | (apply sh H 0 53 2 gR (mL id m u b c z s me o a l (.slice A1 n1 k1) (.slice A2 n2 k2) (.slice (some ⟨gI, 0, none⟩) n1 cI)); clear H cR cM; intro W21 K_; obtain ⟨H, cR, cM⟩ := n2_ K_; clear K_)
   have F1 : Kd.R (Kd.int .i64) 3 W21 w.heap.size (fun _ => True) (.slice (some ⟨gI, 0, none⟩) n1 cI) (mixL Y D.S n1) := (H.out.fact 0 rfl)
   rw [mixL_all HYL.out.symm HYS.out] at F1
   refine bodyPost_ret (results_cell_row rfl _ _ gR 53 (mL id m u b c z s me o a l (.slice A1 n1 k1) (.slice A2 n2 k2) (.slice (some ⟨gI, 0, none⟩) n1 cI)).toArray (0, 0) _ rfl (H.out.at_ 0 rfl) Try.underlying53 rfl (by kernel_rfl)) rfl ?_
   exact ⟨_, rfl, F1, H.out.below⟩
theorem xz_ (id m u b c z s me o a l : Int) (x v : Value) (A : Option Addr) (n k : Nat) (i : Int) (w : World) (r : Bool) (h : decide (0 <= i /\ i < (n : Int)) = r) :
  Calls Try.prog 83 #[modV id m u b c z s me o a l x (.slice A n k) v, .int .i64 i] w fun e w' => e = .returned (.bool r) /\ Below w.heap.size w w' := h ▸ there_any id m u b c z s me o a l x v A n k i w
theorem mzone_any (id m u b c z s me o a l : Int) (x y q : Value) (D : Mdl) (i : Int) (w : World) (h : MC w x y q D) (hl : D.T.length = D.L.length) :
  Calls Try.prog 32 #[modV id m u b c z s me o a l x y q, .int .i64 i] w fun e w' => e = .returned (.tuple #[zoV (if 0 <= i /\ i < (D.T.length : Int) then jl_ D.L i else z59), .bool (decide (0 <= i /\ i < (D.T.length : Int)))]) /\ Below w.heap.size w w' := by
 obtain ⟨⟨A1, k1, rfl, hk1, hC1⟩, ⟨A2, k2, rfl, hk2, hC2⟩, ⟨A3, k3, rfl, hk3, hC3⟩⟩ := h
 obtain ⟨n1, hn1⟩ : ∃ n, n = D.L.length := ⟨_, rfl⟩
 obtain ⟨n2, hn2⟩ : ∃ n, n = D.T.length := ⟨_, rfl⟩
 obtain ⟨n3, hn3⟩ : ∃ n, n = D.S.length := ⟨_, rfl⟩
 rw [<- hn1, <- hn2] at hl
 rw [<- hn1] at hC1
 rw [<- hn1, <- hn2, <- hn3]
 by_cases hi : 0 <= i /\ i < (n2 : Int)
 ·
  have hb0 : decide (0 <= i /\ i < (n2 : Int)) = true := decide_eq_true hi
  obtain ⟨i0, i1⟩ := hi
  have H := hid (Pk.start w)
  rw [if_pos ⟨i0, i1⟩, hb0]
  have hp : 0 < n1 := by omega
  have i2 : i < (n1 : Int) := by omega
  obtain ⟨ad, rfl⟩ := xI_ hC1 hp
  have HC1 := hid hC1
  have HTH := hid (fun W => xz_ id m u b c z s me o a l (.slice (some ad) n1 k1) (.slice A3 n3 k3) A2 n2 k2 i W true hb0)
  clear hC1 hC2 hC3 hb0 hn1 hn2 hn3 hk1 hk2 hk3 hl
  go_enter Try.func32, Try.ntmps32
  go_wp2_with first
   | (apply bh H 2 (mL id m u b c z s me o a l (.slice (some ad) n1 k1) (.slice A2 n2 k2) (.slice A3 n3 k3)) 53; clear H; intro gM W1 H; obtain ⟨-, cM⟩ := n1_ H; have zc := xx_ (Kd.C_below HC1.out H.out.below) i i0 i2)
   | (apply bh H 4 (oL 0 0 0) 59; clear H cM zc; intro gY W2 H; obtain ⟨-, cY, cM⟩ := n2_ H; have zc := xx_ (Kd.C_below HC1.out H.out.below) i i0 i2)
   | (go_at_call 83; refine (HTH.out _).mono ?_; rintro e W3 ⟨rfl, hb⟩; clear cY cM zc; replace H := pc H hb; clear hb; obtain ⟨-, cY, cM⟩ := n2_ H; have zc := xx_ (Kd.C_below HC1.out H.out.below) i i0 i2)
   | (apply sh H 0 59 4 gY (oL ((jl_ D.L i).f0) ((jl_ D.L i).f1) ((jl_ D.L i).f2)); clear H cY cM zc; intro W4 K_; obtain ⟨H, cY, cM⟩ := n2_ K_; clear K_; have zc := xx_ (Kd.C_below HC1.out H.out.below) i i0 i2)
  refine bodyPost_ret (jj_ rfl _ _ gY 59 (oL ((jl_ D.L i).f0) ((jl_ D.L i).f1) ((jl_ D.L i).f2)).toArray (0, 0) _ rfl (H.out.at_ 0 rfl) Try.underlying59 rfl (by kernel_rfl)) rfl ?_
  exact ⟨rfl, H.out.below⟩
 ·
  have hb0 : decide (0 <= i /\ i < (n2 : Int)) = false := decide_eq_false hi
  have H := hid (Pk.start w)
  rw [if_neg hi, hb0]
  have HTH := hid (fun W => xz_ id m u b c z s me o a l (.slice A1 n1 k1) (.slice A3 n3 k3) A2 n2 k2 i W false hb0)
  clear hC1 hC2 hC3 hb0 hi hn1 hn2 hn3 hk1 hk2 hk3 hl
  go_enter Try.func32, Try.ntmps32
  go_wp2_with first
   | (apply bh H 2 (mL id m u b c z s me o a l (.slice A1 n1 k1) (.slice A2 n2 k2) (.slice A3 n3 k3)) 53; clear H; intro gM W1 H; obtain ⟨-, cM⟩ := n1_ H)
   | (apply bh H 4 (oL 0 0 0) 59; clear H cM; intro gY W2 H; obtain ⟨-, cY, cM⟩ := n2_ H)
   | (go_at_call 83; refine (HTH.out _).mono ?_; rintro e W3 ⟨rfl, hb⟩; clear cY cM; replace H := pc H hb; clear hb; obtain ⟨-, cY, cM⟩ := n2_ H)
   | (apply sn H 0 59 4 gY (oL 0 0 0))
  refine bodyPost_ret (jj_ rfl _ _ gY 59 (oL 0 0 0).toArray (0, 0) _ rfl (H.out.at_ 0 rfl) Try.underlying59 rfl (by kernel_rfl)) rfl ?_
  exact ⟨rfl, H.out.below⟩
def yG_ : Bool × List (List Nat × List Nat) := (true, [([], []), ([], []), ([1], [1]), ([2, 2], [2]), ([], []), ([4], [4]), ([5, 5], [5]), ([0, 3, 6], [0, 3, 6]), ([7, 0, 1, 2, 3, 4, 5, 6, 7], [7]), ([8, 0, 1, 2, 3, 4, 5, 6, 7, 8], [])])
theorem zv_ : rtab .any (kT_ Try.f22 4) = yG_ := by kernel_rfl
theorem zm_ : jO_ yG_.2 [0, 0, 2, 6, 0, 16, 48, 127, 255, 511] = true := by kernel_rfl
theorem mnew_ok (id m u b c z s me o a l : Int) (w : World) (hk : jn_ id m u b c z s me o a l = 0) :
  Calls Try.prog 22 #[.agg #[.int .i64 id, .int .i64 m, .int .i64 u, .int .i64 b, .int .i64 c, .int .i64 z, .int .i64 s, .int .i64 me, .int .i64 o, .int .i64 a, .int .i64 l]] w fun e w' => ∃ x y q : Value, e = .returned (.tuple #[modV id m u b c z s me o a l x y q, .int .i64 0]) /\ MR w.heap.size w' x y q ⟨List.replicate z.toNat z59, List.replicate z.toNat ByteArray.empty, List.replicate z.toNat 0⟩ /\ Below w.heap.size w w' := by
 have H := hid (Pk.start w)
 have hb := kB_ (kM_ hk).1
 have z0 : 0 <= z := by omega
 have hln : z.toNat * 16 <= 281474976710656 := by omega
 have hln2 : z.toNat * 8 <= 281474976710656 := by omega
 have HN := hid (fun W => lnew_ok id m u b c z s me o a l W hk); clear hb hk
 go_enter Try.func22, Try.ntmps22
 go_wp2_with first
  | (apply bh H 1 (cL id m u b c z s me o a l) 23; clear H; intro gC W1 H; obtain ⟨-, cC⟩ := n1_ H)
  | (apply bh H 2 (mL 0 0 0 0 0 0 0 0 0 0 0 nil_ nil_ nil_) 53; clear H cC; intro gR W2 H; obtain ⟨-, cR, cC⟩ := n2_ H)
  | (go_at_call 11; refine (HN.out _).mono ?_; rintro e W3 ⟨vL, rfl, hR, hb⟩; clear cR cC; obtain ⟨A1, k1, rfl⟩ := Kd.R_slice hR; simp only [List.length_replicate, List.length_nil] at hR; replace H := pr H hb hR; clear hR; clear hb; obtain ⟨-, cR, cC⟩ := n2_ H)
  | (apply bh H 4 (tL 0 0 0 0 0 0 0 0 0 0 0 nil_) 27; clear H cR cC; intro gT W4 H; obtain ⟨-, cT, cR, cC⟩ := n3_ H)
  | (apply sh H 0 27 4 gT (tL id m u b c z s me o a l (.slice A1 z.toNat k1)); clear H cT cR cC; intro W5 K_; obtain ⟨H, cT, cR, cC⟩ := n3_ K_; clear K_)
 clear cT cR cC
 refine jN_ (n := 10) (S := fun W => bW W gC (cL id m u b c z s me o a l) /\ bW W gT (tL id m u b c z s me o a l (.slice A1 z.toNat k1))) (ds := []) (bq 10 0) (by kernel_rfl) rfl (by kernel_rfl) ⟨H.out.drew.cell 2 rfl, H.out.drew.cell 0 rfl⟩ (fun hHeld => ?_)
 refine jw_ zv_ zm_ (fun HT_ HW_ => ?_)
 have zH := H.out.drew
 generalize W5.drew = W6 at zH hHeld ⊢
 replace H := hid zH; clear zH
 apply tw 0 15 (bq 10 1) HT_ HW_ hHeld
 apply pu 1 16 (bq 10 3) HT_
 apply tw 2 17 (bq 10 7) HT_ HW_ hHeld
 apply pu 4 19 (bq 10 23) HT_
 apply tw 5 20 (bq 10 55) HT_ HW_ hHeld
 have b0 := hid (Below.refl W6.heap.size W6)
 refine zM_ (σ := Option Addr × Nat × Option Addr × Nat) 3 (bq 10 127) (fun y => [(18, (.slice y.1 z.toNat y.2.1)), (21, (.slice y.2.2.1 z.toNat y.2.2.2))]) (fun y W => (bW W gC (cL id m u b c z s me o a l) /\ bW W gT (tL id m u b c z s me o a l (.slice A1 z.toNat k1))) /\ Below W6.heap.size W6 W /\ Kd.R (Kd.int .i64) 3 W w.heap.size (fun _ => True) (.slice y.2.2.1 z.toNat y.2.2.2) (List.replicate z.toNat (0 : Int)) /\ Kd.R Kd.string 9 W w.heap.size (fun _ => True) (.slice y.1 z.toNat y.2.1) (List.replicate z.toNat ByteArray.empty)) ?_ ?_
 rotate_left
 ·
  intro hCont
  refine two_ (i := 3) (j := 6) (Ni := some 18) (Nj := some 21) (bq 10 63) (bq 10 119) rfl rfl rfl rfl (vL_ HT_.out (by kernel_rfl)) (by decide) (by decide) (fun K hK => ?_) (fun K hK => ?_)
  ·
   obtain ⟨-, cT, cR, cC⟩ := n3_ H
   refine Kd.R_make_step Kd.string w.heap.size 9 (by rfl) (N := 18) rfl 50 _ _ rfl z rfl rfl Try.underlying50 (.string ⟨#[]⟩) 16 info9 rfl (by decide) (by omega) ByteArray.empty (ok := fun _ => True) (okp := fun _ => True) (rfl) (fun _ hk => hk) trivial (z0) (hln) H.out.below H.out.below.size ?_
   intro v_ W7 hR hB_ hgr_ hnew_
   obtain ⟨AY, kY, rfl⟩ := Kd.R_slice hR
   simp only [List.length_replicate] at hR ⊢
   clear cT cR cC
   have hb := jR_ hgr_
   replace H := hid ((H.out.called hb).row (RowF Kd.string 9 w.heap.size (.slice AY z.toNat kY) (List.replicate z.toNat ByteArray.empty)) hR)
   replace b0 := hid (jc_ b0.out hb)
   clear hb hR hB_ hgr_ hnew_
   refine hK.out _ _ ⟨H.out.cell 2 rfl, H.out.cell 0 rfl⟩ (fun hHeld => ?_)
   clear hK K
   apply nm 0
   apply on 6 (some 21) (bq 10 127) HT_; intro K hK
   obtain ⟨-, cT, cR, cC⟩ := n3_ H
   refine Kd.R_make_step (Kd.int .i64) w.heap.size 3 (by rfl) (N := 21) rfl 51 _ _ rfl z rfl rfl Try.underlying51 (.int .i64 0) 8 zN_ rfl (by decide) (by omega) (0 : Int) (ok := fun _ => True) (okp := fun _ => True) (rfl) (fun _ hk => hk) trivial (z0) (hln2) H.out.below H.out.below.size ?_
   intro v_ W8 hR hB_ hgr_ hnew_
   obtain ⟨AQ, kQ, rfl⟩ := Kd.R_slice hR
   simp only [List.length_replicate] at hR ⊢
   clear cT cR cC
   have hb := jR_ hgr_
   replace H := hid ((H.out.called hb).row (RowF (Kd.int .i64) 3 w.heap.size (.slice AQ z.toNat kQ) (List.replicate z.toNat (0 : Int))) hR)
   replace b0 := hid (jc_ b0.out hb)
   clear hb hR hB_ hgr_ hnew_
   refine hK.out _ _ ⟨H.out.cell 2 rfl, H.out.cell 0 rfl⟩ (fun hHeld => ?_)
   clear hK K
   apply nm 0
   exact kw_ (by simp only [jS_, Act.put, List.setIfInBounds_toArray, List.set_cons_zero, List.set_cons_succ]) (hCont (AY, kY, AQ, kQ) _ ⟨hHeld, b0.out, H.out.fact 0 rfl, H.out.fact 1 rfl⟩)
  ·
   obtain ⟨-, cT, cR, cC⟩ := n3_ H
   refine Kd.R_make_step (Kd.int .i64) w.heap.size 3 (by rfl) (N := 21) rfl 51 _ _ rfl z rfl rfl Try.underlying51 (.int .i64 0) 8 zN_ rfl (by decide) (by omega) (0 : Int) (ok := fun _ => True) (okp := fun _ => True) (rfl) (fun _ hk => hk) trivial (z0) (hln2) H.out.below H.out.below.size ?_
   intro v_ W7 hR hB_ hgr_ hnew_
   obtain ⟨AQ, kQ, rfl⟩ := Kd.R_slice hR
   simp only [List.length_replicate] at hR ⊢
   clear cT cR cC
   have hb := jR_ hgr_
   replace H := hid ((H.out.called hb).row (RowF (Kd.int .i64) 3 w.heap.size (.slice AQ z.toNat kQ) (List.replicate z.toNat (0 : Int))) hR)
   replace b0 := hid (jc_ b0.out hb)
   clear hb hR hB_ hgr_ hnew_
   refine hK.out _ _ ⟨H.out.cell 2 rfl, H.out.cell 0 rfl⟩ (fun hHeld => ?_)
   clear hK K
   apply nm 0
   apply on 3 (some 18) (bq 10 127) HT_; intro K hK
   obtain ⟨-, cT, cR, cC⟩ := n3_ H
   refine Kd.R_make_step Kd.string w.heap.size 9 (by rfl) (N := 18) rfl 50 _ _ rfl z rfl rfl Try.underlying50 (.string ⟨#[]⟩) 16 info9 rfl (by decide) (by omega) ByteArray.empty (ok := fun _ => True) (okp := fun _ => True) (rfl) (fun _ hk => hk) trivial (z0) (hln) H.out.below H.out.below.size ?_
   intro v_ W8 hR hB_ hgr_ hnew_
   obtain ⟨AY, kY, rfl⟩ := Kd.R_slice hR
   simp only [List.length_replicate] at hR ⊢
   clear cT cR cC
   have hb := jR_ hgr_
   replace H := hid ((H.out.called hb).row (RowF Kd.string 9 w.heap.size (.slice AY z.toNat kY) (List.replicate z.toNat ByteArray.empty)) hR)
   replace b0 := hid (jc_ b0.out hb)
   clear hb hR hB_ hgr_ hnew_
   refine hK.out _ _ ⟨H.out.cell 2 rfl, H.out.cell 0 rfl⟩ (fun hHeld => ?_)
   clear hK K
   apply nm 0
   exact kw_ (by simp only [jS_, Act.put, List.setIfInBounds_toArray, List.set_cons_zero, List.set_cons_succ]) (hCont (AY, kY, AQ, kQ) _ ⟨hHeld, b0.out, H.out.fact 1 rfl, H.out.fact 0 rfl⟩)
 rintro ⟨AY, kY, AQ, kQ⟩ W59 ⟨hHeld, hb, hrQ, hrY⟩
 (try dsimp only at hHeld hrQ hrY ⊢)
 replace H := hid (H.out.called hb)
 replace H := hid (H.out.row (RowF Kd.string 9 w.heap.size (.slice AY z.toNat kY) (List.replicate z.toNat ByteArray.empty)) hrY)
 replace H := hid (H.out.row (RowF (Kd.int .i64) 3 w.heap.size (.slice AQ z.toNat kQ) (List.replicate z.toNat (0 : Int))) hrQ)
 clear b0 hb hrQ hrY
 refine kw_ (a' := ?_) ?_ ?_
 rotate_left
 ·
  simp only [jS_, Act.put, List.setIfInBounds_toArray, List.set_cons_zero, List.set_cons_succ]
  rfl
 apply pu 7 22 (bq 10 255) HT_
 apply on 8 none (bq 10 511) HT_; intro K hK
 obtain ⟨-, cT, cR, cC⟩ := n3_ H
 apply shs H 1 53 2 gR (mL id m u b c z s me o a l (.slice A1 z.toNat k1) (.slice AY z.toNat kY) (.slice AQ z.toNat kQ))
 clear H cT cR cC
 intro W60 K_
 have H := (n3_ K_).1; clear K_
 refine hK.out _ _ ⟨H.out.cell 2 rfl, H.out.cell 0 rfl⟩ (fun hHeld => ?_)
 clear hK K
 apply pu 9 3 (bq 10 1023) HT_
 refine kk_ (jF_ HT_.out (by kernel_rfl)) ?_
 obtain ⟨-, cT, cR, cC⟩ := n3_ H
 go_wp2
 refine bodyPost_ret (jj_ rfl _ _ gR 53 (mL id m u b c z s me o a l (.slice A1 z.toNat k1) (.slice AY z.toNat kY) (.slice AQ z.toNat kQ)).toArray (0, 0) _ rfl (H.out.at_ 1 rfl) Try.underlying53 rfl (by kernel_rfl)) rfl ?_
 exact ⟨_, _, _, rfl, ⟨(H.out.fact 2 rfl), (H.out.fact 1 rfl), (H.out.fact 0 rfl)⟩, H.out.below⟩
theorem mnew_no (id m u b c z s me o a l : Int) (w : World) (hk : ¬ jn_ id m u b c z s me o a l = 0) :
  Calls Try.prog 22 #[.agg #[.int .i64 id, .int .i64 m, .int .i64 u, .int .i64 b, .int .i64 c, .int .i64 z, .int .i64 s, .int .i64 me, .int .i64 o, .int .i64 a, .int .i64 l]] w fun e w' => e = .returned (.tuple #[modV 0 0 0 0 0 0 0 0 0 0 0 (.slice none 0 0) (.slice none 0 0) (.slice none 0 0), .int .i64 (jn_ id m u b c z s me o a l)]) /\ Below w.heap.size w w' := by
 have H := hid (Pk.start w)
 have hnew := fun W => lnew_no id m u b c z s me o a l W hk
 generalize jn_ id m u b c z s me o a l = E at hnew hk ⊢
 have kb : (E == 0) = false := beq_eq_false_iff_ne.mpr hk; have kb2 : (E != 0) = true := bne_iff_ne.mpr hk
 have HN := hid hnew; clear hnew hk
 go_enter Try.func22, Try.ntmps22
 go_wp2_with first
  | (apply bh H 1 (cL id m u b c z s me o a l) 23; clear H; intro gC W1 H; obtain ⟨-, cC⟩ := n1_ H)
  | (apply bh H 2 (mL 0 0 0 0 0 0 0 0 0 0 0 nil_ nil_ nil_) 53; clear H cC; intro gR W2 H; obtain ⟨-, cR, cC⟩ := n2_ H)
  | (go_at_call 11; refine (HN.out _).mono ?_; rintro e W3 ⟨vL, rfl, hR, hb⟩; clear cR cC; obtain ⟨A1, k1, rfl⟩ := Kd.R_slice hR; simp only [List.length_replicate, List.length_nil] at hR; replace H := pc H hb; clear hR; clear hb; obtain ⟨-, cR, cC⟩ := n2_ H)
  | (apply bh H 4 (tL 0 0 0 0 0 0 0 0 0 0 0 nil_) 27; clear H cR cC; intro gT W4 H; obtain ⟨-, cT, cR, cC⟩ := n3_ H)
  | (apply sh H 0 27 4 gT (tL 0 0 0 0 0 0 0 0 0 0 0 (.slice A1 0 k1)); clear H cT cR cC; intro W5 K_; obtain ⟨H, cT, cR, cC⟩ := n3_ K_; clear K_)
  | (apply sn H 1 53 2 gR (mL 0 0 0 0 0 0 0 0 0 0 0 nil_ nil_ nil_))
 refine bodyPost_ret (jj_ rfl _ _ gR 53 (mL 0 0 0 0 0 0 0 0 0 0 0 nil_ nil_ nil_).toArray (0, 0) _ rfl (H.out.at_ 1 rfl) Try.underlying53 rfl (by kernel_rfl)) rfl ?_
 exact ⟨rfl, H.out.below⟩
end Go.Proofs.Ytgckcaoncjhgbaa
