/- revetmentref18.Do, over the same plain model: some commands. -/
import Derived.Test.YtgckcaoncjhgbaaFMc
import Derived.Test.YtgckcaoncjhgbaaFRw
set_option maxHeartbeats 4000000
set_option maxRecDepth 100000
open Go.Lib (hid)
namespace Go.Proofs.Ytgckcaoncjhgbaa
open Go.RowKit Go.Proofs.Ytgckcaoncjhgbaa.PL Go.Proofs.YtgckcaoncjhgbaaW.PrintWords Go.Proofs.YtgckcaoncjhgbaaW.PrintLast
set_option linter.unusedVariables false
set_option linter.unusedSimpArgs false
attribute [local go_sem] List.getElem?_toArray List.getElem?_cons_succ List.getElem?_cons_zero mL tL cL xL rL oL
def vp_ : Bool × List (List Nat × List Nat) := (true, [([], []), ([], []), ([1], [1]), ([0, 2], [0, 2]), ([], []), ([4], [4]), ([3, 5, 3], [3, 5]), ([], []), ([6, 6, 0, 1, 2, 3, 4, 5, 6], [6]), ([8, 0, 1, 2, 3, 4, 5, 6, 8], []), ([9, 0, 1, 2, 3, 4, 5, 6, 8, 9], []), ([7, 10, 0, 1, 2, 3, 4, 5, 6, 7, 8, 9, 10], [7])])
theorem xj_ : rtab .any (kT_ Try.f28 29) = vp_ := by kernel_rfl
theorem xc_ : jO_ vp_.2 [0, 0, 2, 7, 0, 16, 63, 0, 127, 383, 895, 2047] = true := by kernel_rfl
theorem rdo_reset_err (id m u b c z s me o a l : Int) (x y q : Value) (D : Mdl) (i p n : Int) (Ad : Option Addr) (kdd : Nat) (d : List Int) (f : Bool) (w : World) (h : MC w x y q D) (hi : MInv id m u b c z s me o a l D) (hd : Kd.C (Kd.int .u8) w Ad d.length d) (hdk : d.length <= kdd) (he : ¬ (jT_ id m u b c z s me o a l D.L i).2 = 0) :
  Calls Try.prog 28 #[modV id m u b c z s me o a l x y q, cmdV 3 i p n (.slice Ad d.length kdd) f] w (RsP id m u b c z s me o a l x y q D (doM id m u b c z s me o a l D (⟨3, i, p, n, d, f⟩ : S65)) w) := by
 have hsz0 := hi.2.2.2
 obtain ⟨A1, A2, A3, n1, n2, n3, k1, k2, k3, rfl, rfl, rfl, hn1, hn2, hn3, hC1, hC2, hC3, hk1, hk2, hk3, hrt, hL1, hLp, hlT, hlS, hcb⟩ := jK_ h hi
 obtain ⟨nd, hnd⟩ : ∃ n, n = d.length := ⟨_, rfl⟩
 have hb1 := hcb.1
 have hnm : nd <= 9223372036854775807 := by rw [hnd]; exact hd.2.1
 have hR := fun W h => rreset_any id m u b c z s me o a l A1 k1 D.L i W h hk1 (by omega)
 have hWo := xV_ (id := id) (m := m) (u := u) (b := b) (c := c) (z := z) (s := s) (me := me) (o := o) (a := a) (l := l) (L := D.L) i
 obtain ⟨⟨r0, e0⟩, hr⟩ : ∃ r, jT_ id m u b c z s me o a l D.L i = r := ⟨_, rfl⟩
 rw [hr] at hR he hWo; (try dsimp only at hR he)
 have hr1 : r0 = none := by rcases hWo with ⟨_, h⟩ | ⟨h, _⟩; exact h; exact absurd h he
 subst hr1
 have hv : doM id m u b c z s me o a l D ⟨3, i, p, n, d, f⟩ = (D, e0, ByteArray.empty, z59) := by show ((jr_ D 3 i (jT_ id m u b c z s me o a l D.L i)).1, (jr_ D 3 i (jT_ id m u b c z s me o a l D.L i)).2, ByteArray.empty, z59) = _; rw [hr]; unfold jr_; rw [if_pos he]
 have HV := hid hv
 rw [<- hn1] at hR
 rw [<- hnd] at hd hdk ⊢
 have HMC := hid h; have HD := hid hd; have HC1 := hid hC1; have HC2 := hid hC2; have HN1 := hid hn1
 have HR := hid hR
 have eb : (e0 == 0) = false := beq_eq_false_iff_ne.mpr he; have eb2 : (e0 != 0) = true := bne_iff_ne.mpr he
 clear h hi hd hrt hcb hlT hlS hsz0 hn1 hn2 hn3 hnd hk1 hk2 hk3 hC1 hC2 hC3 hv hR he hr hWo
 have h3_ : (0 <= i /\ i < (n2 : Int)) \/ (¬ 0 <= i) \/ (0 <= i /\ ¬ i < (n2 : Int)) := by omega
 rcases h3_ with ⟨j0, j1⟩ | j0 | ⟨j0, j1⟩ <;> (
  have H := hid (Pk.start w)
  go_enter Try.func28, Try.ntmps28
  go_wp2_with first
   | (apply bh H 2 (mL id m u b c z s me o a l (.slice A1 n1 k1) (.slice A2 n2 k2) (.slice A3 n3 k3)) 68; clear H; intro gM W1 H; obtain ⟨-, cM⟩ := n1_ H)
   | (apply bh H 3 (xL 3 i p n (.slice Ad nd kdd) f) 65; clear H cM; intro gX W2 H; obtain ⟨-, cX, cM⟩ := n2_ H)
   | (apply bh H 4 (mL 0 0 0 0 0 0 0 0 0 0 0 nil_ nil_ nil_) 68; clear H cX cM; intro gR W3 H; obtain ⟨-, cR, cX, cM⟩ := n3_ H)
   | (apply bh H 7 (oL 0 0 0) 59; clear H cR cX cM; intro gZ W4 H; obtain ⟨-, cZ, cR, cX, cM⟩ := n4_ H)
   | (apply bh H 8 (cL 0 0 0 0 0 0 0 0 0 0 0) 23; clear H cZ cR cX cM; intro gC W5 H; obtain ⟨-, cC, cZ, cR, cX, cM⟩ := n5_ H)
   | (apply sh H 0 23 8 gC (cL id m u b c z s me o a l); clear H cC cZ cR cX cM; intro W6 K_; obtain ⟨H, cC, cZ, cR, cX, cM⟩ := n5_ K_; clear K_)
   | (go_at_call 64; refine (HR.out _ (Kd.C_below HC1.out H.out.below)).mono ?_; rintro e W7 ⟨v, rfl, hT, hb⟩; clear cC cZ cR cX cM; obtain rfl := yY_ hT; replace H := pc H hb; clear hT; clear hb; obtain ⟨-, cC, cZ, cR, cX, cM⟩ := n5_ H)
   | (apply bh H 13 (tL 0 0 0 0 0 0 0 0 0 0 0 nil_) 35; clear H cC cZ cR cX cM; intro gT W8 H; obtain ⟨-, cT, cC, cZ, cR, cX, cM⟩ := n6_ H)
   | (apply sn H 0 35 13 gT (tL 0 0 0 0 0 0 0 0 0 0 0 nil_))
   | (apply sh H 3 68 4 gR (mL id m u b c z s me o a l (.slice A1 n1 k1) (.slice A2 n2 k2) (.slice A3 n3 k3)); clear H cT cC cZ cR cX cM; intro W9 K_; obtain ⟨H, cT, cC, cZ, cR, cX, cM⟩ := n6_ K_; clear K_)
   | (apply sn H 2 59 7 gZ (oL 0 0 0))
  refine bodyPost_ret (jJ_ rfl _ _ gR gZ _ _ _ _ (0, 0) (0, 0) _ _ rfl (H.out.at_ 3 rfl) Try.underlying68 rfl (by kernel_rfl) rfl (H.out.at_ 2 rfl) Try.underlying59 rfl (by kernel_rfl)) rfl ?_
  exact vl_ HV.out rfl kp_ H.out.below)
theorem rdo_reset_ok (id m u b c z s me o a l : Int) (x y q : Value) (D : Mdl) (i p n : Int) (Ad : Option Addr) (kdd : Nat) (d : List Int) (f : Bool) (w : World) (h : MC w x y q D) (hi : MInv id m u b c z s me o a l D) (hd : Kd.C (Kd.int .u8) w Ad d.length d) (hdk : d.length <= kdd) (he : (jT_ id m u b c z s me o a l D.L i).2 = 0) :
  Calls Try.prog 28 #[modV id m u b c z s me o a l x y q, cmdV 3 i p n (.slice Ad d.length kdd) f] w (RsP id m u b c z s me o a l x y q D (doM id m u b c z s me o a l D (⟨3, i, p, n, d, f⟩ : S65)) w) := by
 have hsz0 := hi.2.2.2
 obtain ⟨A1, A2, A3, n1, n2, n3, k1, k2, k3, rfl, rfl, rfl, hn1, hn2, hn3, hC1, hC2, hC3, hk1, hk2, hk3, hrt, hL1, hLp, hlT, hlS, hcb⟩ := jK_ h hi
 obtain ⟨nd, hnd⟩ : ∃ n, n = d.length := ⟨_, rfl⟩
 have hb1 := hcb.1
 have hnm : nd <= 9223372036854775807 := by rw [hnd]; exact hd.2.1
 have hR := fun W h => rreset_any id m u b c z s me o a l A1 k1 D.L i W h hk1 (by omega)
 have hWo := xV_ (id := id) (m := m) (u := u) (b := b) (c := c) (z := z) (s := s) (me := me) (o := o) (a := a) (l := l) (L := D.L) i
 obtain ⟨⟨r0, e0⟩, hr⟩ : ∃ r, jT_ id m u b c z s me o a l D.L i = r := ⟨_, rfl⟩
 rw [hr] at hR he hWo; (try dsimp only at hR he)
 subst he
 obtain ⟨L1, rfl, hl1⟩ : ∃ L1, r0 = some L1 /\ L1.length = D.L.length := by
  rcases hWo with ⟨h, _⟩ | ⟨_, L1, h, h2⟩
  · exact absurd rfl h
  · exact ⟨L1, h, h2⟩
 have hin : 0 <= i /\ i < (D.L.length : Int) := (zG_ hrt (by rw [hr])).imp_right (·.1)
 have hv : doM id m u b c z s me o a l D ⟨3, i, p, n, d, f⟩ = (⟨L1, D.T.set i.toNat ByteArray.empty, D.S.set i.toNat 0⟩, 0, ByteArray.empty, z59) := by show ((jr_ D 3 i (jT_ id m u b c z s me o a l D.L i)).1, (jr_ D 3 i (jT_ id m u b c z s me o a l D.L i)).2, ByteArray.empty, z59) = _; rw [hr]; rfl
 have HV := hid hv
 rw [<- hn1] at hR hin hl1
 rw [<- hnd] at hd hdk ⊢
 have HMC := hid h; have HD := hid hd; have HC1 := hid hC1; have HC2 := hid hC2; have HN1 := hid hn1
 obtain ⟨i0, i1⟩ := hin
 have j0 := i0
 have j1 : i < (n2 : Int) := by omega
 have HTX := hid (fun A k W h => zD_ id m u b c z s me o a l (.slice A L1.length k) (.slice A2 n2 k2) (.slice A3 n3 k3) ⟨L1, D.T, D.S⟩ i ByteArray.empty W h i0 (by show i < (D.T.length : Int); omega) (by show D.T.length < 1000000000; omega))
 have HSF := hid (fun A k y W h => rsafe_any id m u b c z s me o a l (.slice A L1.length k) y (.slice A3 n3 k3) ⟨L1, D.T.set i.toNat ByteArray.empty, D.S⟩ i 0 W h i0 (by show i < (D.S.length : Int); omega) (by show D.S.length < 1000000000; omega))
 have HR := hid hR
 clear h hi hd hrt hcb hlT hlS hsz0 hn1 hn2 hn3 hnd hk1 hk2 hk3 hC1 hC2 hC3 hv hR hr hWo hl1
 have H := hid (Pk.start w)
 go_enter Try.func28, Try.ntmps28
 go_wp2_with first
  | (apply bh H 2 (mL id m u b c z s me o a l (.slice A1 n1 k1) (.slice A2 n2 k2) (.slice A3 n3 k3)) 68; clear H; intro gM W1 H; obtain ⟨-, cM⟩ := n1_ H)
  | (apply bh H 3 (xL 3 i p n (.slice Ad nd kdd) f) 65; clear H cM; intro gX W2 H; obtain ⟨-, cX, cM⟩ := n2_ H)
  | (apply bh H 4 (mL 0 0 0 0 0 0 0 0 0 0 0 nil_ nil_ nil_) 68; clear H cX cM; intro gR W3 H; obtain ⟨-, cR, cX, cM⟩ := n3_ H)
  | (apply bh H 7 (oL 0 0 0) 59; clear H cR cX cM; intro gZ W4 H; obtain ⟨-, cZ, cR, cX, cM⟩ := n4_ H)
  | (apply bh H 8 (cL 0 0 0 0 0 0 0 0 0 0 0) 23; clear H cZ cR cX cM; intro gC W5 H; obtain ⟨-, cC, cZ, cR, cX, cM⟩ := n5_ H)
  | (apply sh H 0 23 8 gC (cL id m u b c z s me o a l); clear H cC cZ cR cX cM; intro W6 K_; obtain ⟨H, cC, cZ, cR, cX, cM⟩ := n5_ K_; clear K_)
  | (go_at_call 64; refine (HR.out _ (Kd.C_below HC1.out H.out.below)).mono ?_; rintro e W7 ⟨v, rfl, hT, hb⟩; clear cC cZ cR cX cM; obtain ⟨A4, k4, rfl, hL⟩ := vV_ hT HN1.out; replace H := hid ((H.out.called hb).row (RdF k59 59 w.heap.size (.slice A1 n1 k1) D.L (.slice A4 L1.length k4) L1) (kA_ hL H.out.below.size)); clear hT; clear hb; obtain ⟨-, cC, cZ, cR, cX, cM⟩ := n5_ H)
  | (apply bh H 13 (tL 0 0 0 0 0 0 0 0 0 0 0 nil_) 35; clear H cC cZ cR cX cM; intro gT W8 H; obtain ⟨-, cT, cC, cZ, cR, cX, cM⟩ := n6_ H)
  | (apply sh H 0 35 13 gT (tL id m u b c z s me o a l (.slice A4 L1.length k4)); clear H cT cC cZ cR cX cM; intro W9 K_; obtain ⟨H, cT, cC, cZ, cR, cX, cM⟩ := n6_ K_; clear K_)
  | (apply sp H 5 35 154 gM 0 (tL id m u b c z s me o a l (.slice A4 L1.length k4)) (mL id m u b c z s me o a l (.slice A4 L1.length k4) (.slice A2 n2 k2) (.slice A3 n3 k3)); clear H cT cC cZ cR cX cM; intro W10 K_; obtain ⟨H, cT, cC, cZ, cR, cX, cM⟩ := n6_ K_; clear K_)
 clear cT cC cZ cR cX cM
 refine jN_ (n := 12) (S := fun W => bW W gM (mL id m u b c z s me o a l (.slice A4 L1.length k4) (.slice A2 n2 k2) (.slice A3 n3 k3)) /\ bW W gX (xL 3 i p n (.slice Ad nd kdd) f)) (ds := []) (bq 12 0) (by kernel_rfl) rfl (by kernel_rfl) ⟨H.out.drew.cell 5 rfl, H.out.drew.cell 4 rfl⟩ (fun hHeld => ?_)
 refine jw_ xj_ xc_ (fun HT_ HW_ => ?_)
 have zH := H.out.drew
 generalize W10.drew = W11 at zH hHeld ⊢
 replace H := hid zH; clear zH
 apply tw 0 155 (bq 12 1) HT_ HW_ hHeld
 apply pu 1 156 (bq 12 3) HT_
 apply tw 2 157 (bq 12 7) HT_ HW_ hHeld
 apply pu 4 159 (bq 12 23) HT_
 apply tw 5 160 (bq 12 55) HT_ HW_ hHeld
 apply pu 7 162 (bq 12 183) HT_
 apply on 3 (some 158) (bq 12 191) HT_; intro K hK
 refine gs Try.func78 #[modV id m u b c z s me o a l (.slice A4 L1.length k4) (.slice A2 n2 k2) (.slice A3 n3 k3), .int .i64 i, .string ⟨#[]⟩] ?_
 refine (HTX.out _ _ _ ⟨zs_ (H.out.fact 0 rfl) (kj_ HMC.out.1 H.out.below), kj_ HMC.out.2.1 H.out.below, kj_ HMC.out.2.2 H.out.below⟩).mono ?_
 rintro e W12 ⟨y5, rfl, hY, hb⟩
 refine ⟨_, rfl, ?_⟩
 obtain ⟨A5, k5, rfl⟩ := Kd.R_slice hY
 simp only [List.length_set] at hY ⊢
 replace H := pr H hb hY
 clear hY
 clear hb
 refine hK.out _ _ ⟨H.out.cell 5 rfl, H.out.cell 4 rfl⟩ (fun hHeld => ?_)
 clear hK K
 apply nm 0
 apply on 6 (some 161) (bq 12 255) HT_; intro K hK
 refine gs Try.func80 #[modV id m u b c z s me o a l (.slice A4 L1.length k4) (.slice A5 D.T.length k5) (.slice A3 n3 k3), .int .i64 i, .int .i64 0] ?_
 refine (HSF.out _ _ _ _ ⟨zs_ (H.out.fact 1 rfl) (kj_ HMC.out.1 H.out.below), SlC_R (H.out.fact 0 rfl), kj_ HMC.out.2.2 H.out.below⟩).mono ?_
 rintro e W13 ⟨q6, rfl, hQ, hb⟩
 refine ⟨_, rfl, ?_⟩
 obtain ⟨A6, k6, rfl⟩ := Kd.R_slice hQ
 simp only [List.length_set] at hQ ⊢
 replace H := pr H hb hQ
 clear hQ
 clear hb
 refine hK.out _ _ ⟨H.out.cell 5 rfl, H.out.cell 4 rfl⟩ (fun hHeld => ?_)
 clear hK K
 apply nm 0
 apply on 8 none (bq 12 511) HT_; intro K hK
 obtain ⟨-, cT, cC, cZ, cR, cX, cM⟩ := n6_ H
 apply shs H 3 68 4 gR (mL id m u b c z s me o a l (.slice A4 L1.length k4) (.slice A5 D.T.length k5) (.slice A6 D.S.length k6))
 clear H cT cC cZ cR cX cM
 intro W14 K_
 have H := (n6_ K_).1; clear K_
 refine hK.out _ _ ⟨H.out.cell 5 rfl, H.out.cell 4 rfl⟩ (fun hHeld => ?_)
 clear hK K
 apply pu 9 5 (bq 12 1023) HT_
 apply pu 10 6 (bq 12 2047) HT_
 apply on 11 none (bq 12 4095) HT_; intro K hK
 obtain ⟨-, cT, cC, cZ, cR, cX, cM⟩ := n6_ H
 apply sns H 2 59 7 gZ (oL 0 0 0)
 clear cT cC cZ cR cX cM
 refine hK.out _ _ ⟨H.out.cell 5 rfl, H.out.cell 4 rfl⟩ (fun hHeld => ?_)
 clear hK K
 refine kk_ (jF_ HT_.out (by kernel_rfl)) ?_
 obtain ⟨-, cT, cC, cZ, cR, cX, cM⟩ := n6_ H
 go_wp2
 refine bodyPost_ret (jJ_ rfl _ _ gR gZ _ _ _ _ (0, 0) (0, 0) _ _ rfl (H.out.at_ 3 rfl) Try.underlying68 rfl (by kernel_rfl) rfl (H.out.at_ 2 rfl) Try.underlying59 rfl (by kernel_rfl)) rfl ?_
 exact vl_ HV.out rfl ⟨(H.out.fact 2 rfl), .inr (H.out.fact 1 rfl), .inr (H.out.fact 0 rfl)⟩ H.out.below
theorem qd_ (id m u b c z s me o a l : Int) (x y q : Value) (D : Mdl) (i p n : Int) (Ad : Option Addr) (kdd : Nat) (d : List Int) (f : Bool) (w : World) (h : MC w x y q D) (hi : MInv id m u b c z s me o a l D) (hd : Kd.C (Kd.int .u8) w Ad d.length d) (hdk : d.length <= kdd) (he : ¬ (jL_ id m u b c z s me o a l D.L i).2 = 0) :
  Calls Try.prog 28 #[modV id m u b c z s me o a l x y q, cmdV 4 i p n (.slice Ad d.length kdd) f] w (RsP id m u b c z s me o a l x y q D (doM id m u b c z s me o a l D (⟨4, i, p, n, d, f⟩ : S65)) w) := by
 have hsz0 := hi.2.2.2
 obtain ⟨A1, A2, A3, n1, n2, n3, k1, k2, k3, rfl, rfl, rfl, hn1, hn2, hn3, hC1, hC2, hC3, hk1, hk2, hk3, hrt, hL1, hLp, hlT, hlS, hcb⟩ := jK_ h hi
 obtain ⟨nd, hnd⟩ : ∃ n, n = d.length := ⟨_, rfl⟩
 have hb1 := hcb.1
 have hnm : nd <= 9223372036854775807 := by rw [hnd]; exact hd.2.1
 have hR := fun W h => zF_ id m u b c z s me o a l A1 k1 D.L i W h hk1 (by omega)
 have hWo := xE_ (id := id) (m := m) (u := u) (b := b) (c := c) (z := z) (s := s) (me := me) (o := o) (a := a) (l := l) (L := D.L) i
 obtain ⟨⟨r0, e0⟩, hr⟩ : ∃ r, jL_ id m u b c z s me o a l D.L i = r := ⟨_, rfl⟩
 rw [hr] at hR he hWo; (try dsimp only at hR he)
 have hr1 : r0 = none := by rcases hWo with ⟨_, h⟩ | ⟨h, _⟩; exact h; exact absurd h he
 subst hr1
 have hv : doM id m u b c z s me o a l D ⟨4, i, p, n, d, f⟩ = (D, e0, ByteArray.empty, z59) := by show ((jr_ D 4 i (jL_ id m u b c z s me o a l D.L i)).1, (jr_ D 4 i (jL_ id m u b c z s me o a l D.L i)).2, ByteArray.empty, z59) = _; rw [hr]; unfold jr_; rw [if_pos he]
 have HV := hid hv
 rw [<- hn1] at hR
 rw [<- hnd] at hd hdk ⊢
 have HMC := hid h; have HD := hid hd; have HC1 := hid hC1; have HC2 := hid hC2; have HN1 := hid hn1
 have HR := hid hR
 have eb : (e0 == 0) = false := beq_eq_false_iff_ne.mpr he; have eb2 : (e0 != 0) = true := bne_iff_ne.mpr he
 clear h hi hd hrt hcb hlT hlS hsz0 hn1 hn2 hn3 hnd hk1 hk2 hk3 hC1 hC2 hC3 hv hR he hr hWo
 have h3_ : (0 <= i /\ i < (n2 : Int)) \/ (¬ 0 <= i) \/ (0 <= i /\ ¬ i < (n2 : Int)) := by omega
 rcases h3_ with ⟨j0, j1⟩ | j0 | ⟨j0, j1⟩ <;> (
  have H := hid (Pk.start w)
  go_enter Try.func28, Try.ntmps28
  go_wp2_with first
   | (apply bh H 2 (mL id m u b c z s me o a l (.slice A1 n1 k1) (.slice A2 n2 k2) (.slice A3 n3 k3)) 68; clear H; intro gM W1 H; obtain ⟨-, cM⟩ := n1_ H)
   | (apply bh H 3 (xL 4 i p n (.slice Ad nd kdd) f) 65; clear H cM; intro gX W2 H; obtain ⟨-, cX, cM⟩ := n2_ H)
   | (apply bh H 4 (mL 0 0 0 0 0 0 0 0 0 0 0 nil_ nil_ nil_) 68; clear H cX cM; intro gR W3 H; obtain ⟨-, cR, cX, cM⟩ := n3_ H)
   | (apply bh H 7 (oL 0 0 0) 59; clear H cR cX cM; intro gZ W4 H; obtain ⟨-, cZ, cR, cX, cM⟩ := n4_ H)
   | (apply bh H 8 (cL 0 0 0 0 0 0 0 0 0 0 0) 23; clear H cZ cR cX cM; intro gC W5 H; obtain ⟨-, cC, cZ, cR, cX, cM⟩ := n5_ H)
   | (apply sh H 0 23 8 gC (cL id m u b c z s me o a l); clear H cC cZ cR cX cM; intro W6 K_; obtain ⟨H, cC, cZ, cR, cX, cM⟩ := n5_ K_; clear K_)
   | (go_at_call 65; refine (HR.out _ (Kd.C_below HC1.out H.out.below)).mono ?_; rintro e W7 ⟨v, rfl, hT, hb⟩; clear cC cZ cR cX cM; obtain rfl := yY_ hT; replace H := pc H hb; clear hT; clear hb; obtain ⟨-, cC, cZ, cR, cX, cM⟩ := n5_ H)
   | (apply bh H 15 (tL 0 0 0 0 0 0 0 0 0 0 0 nil_) 35; clear H cC cZ cR cX cM; intro gT W8 H; obtain ⟨-, cT, cC, cZ, cR, cX, cM⟩ := n6_ H)
   | (apply sn H 0 35 15 gT (tL 0 0 0 0 0 0 0 0 0 0 0 nil_))
   | (apply sh H 3 68 4 gR (mL id m u b c z s me o a l (.slice A1 n1 k1) (.slice A2 n2 k2) (.slice A3 n3 k3)); clear H cT cC cZ cR cX cM; intro W9 K_; obtain ⟨H, cT, cC, cZ, cR, cX, cM⟩ := n6_ K_; clear K_)
   | (apply sn H 2 59 7 gZ (oL 0 0 0))
  refine bodyPost_ret (jJ_ rfl _ _ gR gZ _ _ _ _ (0, 0) (0, 0) _ _ rfl (H.out.at_ 3 rfl) Try.underlying68 rfl (by kernel_rfl) rfl (H.out.at_ 2 rfl) Try.underlying59 rfl (by kernel_rfl)) rfl ?_
  exact vl_ HV.out rfl kp_ H.out.below)
theorem rdo_finish_ok (id m u b c z s me o a l : Int) (x y q : Value) (D : Mdl) (i p n : Int) (Ad : Option Addr) (kdd : Nat) (d : List Int) (f : Bool) (w : World) (h : MC w x y q D) (hi : MInv id m u b c z s me o a l D) (hd : Kd.C (Kd.int .u8) w Ad d.length d) (hdk : d.length <= kdd) (he : (jL_ id m u b c z s me o a l D.L i).2 = 0) :
  Calls Try.prog 28 #[modV id m u b c z s me o a l x y q, cmdV 4 i p n (.slice Ad d.length kdd) f] w (RsP id m u b c z s me o a l x y q D (doM id m u b c z s me o a l D (⟨4, i, p, n, d, f⟩ : S65)) w) := by
 have hsz0 := hi.2.2.2
 obtain ⟨A1, A2, A3, n1, n2, n3, k1, k2, k3, rfl, rfl, rfl, hn1, hn2, hn3, hC1, hC2, hC3, hk1, hk2, hk3, hrt, hL1, hLp, hlT, hlS, hcb⟩ := jK_ h hi
 obtain ⟨nd, hnd⟩ : ∃ n, n = d.length := ⟨_, rfl⟩
 have hb1 := hcb.1
 have hnm : nd <= 9223372036854775807 := by rw [hnd]; exact hd.2.1
 have hR := fun W h => zF_ id m u b c z s me o a l A1 k1 D.L i W h hk1 (by omega)
 have hWo := xE_ (id := id) (m := m) (u := u) (b := b) (c := c) (z := z) (s := s) (me := me) (o := o) (a := a) (l := l) (L := D.L) i
 obtain ⟨⟨r0, e0⟩, hr⟩ : ∃ r, jL_ id m u b c z s me o a l D.L i = r := ⟨_, rfl⟩
 rw [hr] at hR he hWo; (try dsimp only at hR he)
 subst he
 obtain ⟨L1, rfl, hl1⟩ : ∃ L1, r0 = some L1 /\ L1.length = D.L.length := by
  rcases hWo with ⟨h, _⟩ | ⟨_, L1, h, h2⟩
  · exact absurd rfl h
  · exact ⟨L1, h, h2⟩
 have hin : 0 <= i /\ i < (D.L.length : Int) := (zf_ (by rw [hr])).imp_right (·.1)
 have hv : doM id m u b c z s me o a l D ⟨4, i, p, n, d, f⟩ = (⟨L1, D.T, L1.map (·.f1)⟩, 0, ByteArray.empty, z59) := by show ((jr_ D 4 i (jL_ id m u b c z s me o a l D.L i)).1, (jr_ D 4 i (jL_ id m u b c z s me o a l D.L i)).2, ByteArray.empty, z59) = _; rw [hr]; rfl
 have HV := hid hv
 rw [<- hn1] at hR hin hl1
 rw [<- hnd] at hd hdk ⊢
 have HMC := hid h; have HD := hid hd; have HC1 := hid hC1; have HC2 := hid hC2; have HN1 := hid hn1
 obtain ⟨i0, i1⟩ := hin
 have j0 := i0
 have j1 : i < (n2 : Int) := by omega
 have HF := hid (fun A k W h => rall_any id m u b c z s me o a l (.slice A L1.length k) (.slice A2 n2 k2) (.slice A3 n3 k3) ⟨L1, D.T, D.S⟩ W h (by show L1.length < 1000000000; omega))
 have HR := hid hR
 clear h hi hd hrt hcb hlT hlS hsz0 hn1 hn2 hn3 hnd hk1 hk2 hk3 hC1 hC2 hC3 hv hR hr hWo hl1
 have H := hid (Pk.start w)
 go_enter Try.func28, Try.ntmps28
 go_wp2_with first
  | (apply bh H 2 (mL id m u b c z s me o a l (.slice A1 n1 k1) (.slice A2 n2 k2) (.slice A3 n3 k3)) 68; clear H; intro gM W1 H; obtain ⟨-, cM⟩ := n1_ H)
  | (apply bh H 3 (xL 4 i p n (.slice Ad nd kdd) f) 65; clear H cM; intro gX W2 H; obtain ⟨-, cX, cM⟩ := n2_ H)
  | (apply bh H 4 (mL 0 0 0 0 0 0 0 0 0 0 0 nil_ nil_ nil_) 68; clear H cX cM; intro gR W3 H; obtain ⟨-, cR, cX, cM⟩ := n3_ H)
  | (apply bh H 7 (oL 0 0 0) 59; clear H cR cX cM; intro gZ W4 H; obtain ⟨-, cZ, cR, cX, cM⟩ := n4_ H)
  | (apply bh H 8 (cL 0 0 0 0 0 0 0 0 0 0 0) 23; clear H cZ cR cX cM; intro gC W5 H; obtain ⟨-, cC, cZ, cR, cX, cM⟩ := n5_ H)
  | (apply sh H 0 23 8 gC (cL id m u b c z s me o a l); clear H cC cZ cR cX cM; intro W6 K_; obtain ⟨H, cC, cZ, cR, cX, cM⟩ := n5_ K_; clear K_)
  | (go_at_call 65; refine (HR.out _ (Kd.C_below HC1.out H.out.below)).mono ?_; rintro e W7 ⟨v, rfl, hT, hb⟩; clear cC cZ cR cX cM; obtain ⟨A4, k4, rfl, hL⟩ := vV_ hT HN1.out; replace H := hid ((H.out.called hb).row (RdF k59 59 w.heap.size (.slice A1 n1 k1) D.L (.slice A4 L1.length k4) L1) (kA_ hL H.out.below.size)); clear hT; clear hb; obtain ⟨-, cC, cZ, cR, cX, cM⟩ := n5_ H)
  | (apply bh H 15 (tL 0 0 0 0 0 0 0 0 0 0 0 nil_) 35; clear H cC cZ cR cX cM; intro gT W8 H; obtain ⟨-, cT, cC, cZ, cR, cX, cM⟩ := n6_ H)
  | (apply sh H 0 35 15 gT (tL id m u b c z s me o a l (.slice A4 L1.length k4)); clear H cT cC cZ cR cX cM; intro W9 K_; obtain ⟨H, cT, cC, cZ, cR, cX, cM⟩ := n6_ K_; clear K_)
  | (apply sp H 5 35 179 gM 0 (tL id m u b c z s me o a l (.slice A4 L1.length k4)) (mL id m u b c z s me o a l (.slice A4 L1.length k4) (.slice A2 n2 k2) (.slice A3 n3 k3)); clear H cT cC cZ cR cX cM; intro W10 K_; obtain ⟨H, cT, cC, cZ, cR, cX, cM⟩ := n6_ K_; clear K_)
  | (go_at_call 79; refine (HF.out _ _ _ ⟨zs_ (H.out.fact 0 rfl) (kj_ HMC.out.1 H.out.below), kj_ HMC.out.2.1 H.out.below, kj_ HMC.out.2.2 H.out.below⟩).mono ?_; rintro e W11 ⟨q7, rfl, hF, hb⟩; clear cT cC cZ cR cX cM; obtain ⟨A7, k7, rfl⟩ := Kd.R_slice hF; simp only [List.length_map] at hF ⊢; replace H := pr H hb hF; clear hF; clear hb; obtain ⟨-, cT, cC, cZ, cR, cX, cM⟩ := n6_ H)
  | (apply sh H 3 68 4 gR (mL id m u b c z s me o a l (.slice A4 L1.length k4) (.slice A2 n2 k2) (.slice A7 L1.length k7)); clear H cT cC cZ cR cX cM; intro W12 K_; obtain ⟨H, cT, cC, cZ, cR, cX, cM⟩ := n6_ K_; clear K_)
  | (apply sn H 2 59 7 gZ (oL 0 0 0))
 refine bodyPost_ret (jJ_ rfl _ _ gR gZ _ _ _ _ (0, 0) (0, 0) _ _ rfl (H.out.at_ 3 rfl) Try.underlying68 rfl (by kernel_rfl) rfl (H.out.at_ 2 rfl) Try.underlying59 rfl (by kernel_rfl)) rfl ?_
 exact vl_ HV.out rfl ⟨(H.out.fact 1 rfl), kd_, .inr (H.out.fact 0 rfl)⟩ H.out.below
theorem rdo_open_err (id m u b c z s me o a l : Int) (x y q : Value) (D : Mdl) (i p n : Int) (Ad : Option Addr) (kdd : Nat) (d : List Int) (f : Bool) (w : World) (h : MC w x y q D) (hi : MInv id m u b c z s me o a l D) (hd : Kd.C (Kd.int .u8) w Ad d.length d) (hdk : d.length <= kdd) (he : ¬ (kv_ id m u b c z s me o a l D.L i).2 = 0) :
  Calls Try.prog 28 #[modV id m u b c z s me o a l x y q, cmdV 5 i p n (.slice Ad d.length kdd) f] w (RsP id m u b c z s me o a l x y q D (doM id m u b c z s me o a l D (⟨5, i, p, n, d, f⟩ : S65)) w) := by
 have hsz0 := hi.2.2.2
 obtain ⟨A1, A2, A3, n1, n2, n3, k1, k2, k3, rfl, rfl, rfl, hn1, hn2, hn3, hC1, hC2, hC3, hk1, hk2, hk3, hrt, hL1, hLp, hlT, hlS, hcb⟩ := jK_ h hi
 obtain ⟨nd, hnd⟩ : ∃ n, n = d.length := ⟨_, rfl⟩
 have hb1 := hcb.1
 have hnm : nd <= 9223372036854775807 := by rw [hnd]; exact hd.2.1
 have hR := fun W h => zE_ id m u b c z s me o a l A1 k1 D.L i W h hk1 (by omega)
 have hWo := yz_ (id := id) (m := m) (u := u) (b := b) (c := c) (z := z) (s := s) (me := me) (o := o) (a := a) (l := l) (L := D.L) i
 obtain ⟨⟨r0, e0⟩, hr⟩ : ∃ r, kv_ id m u b c z s me o a l D.L i = r := ⟨_, rfl⟩
 rw [hr] at hR he hWo; (try dsimp only at hR he)
 have hr1 : r0 = none := by rcases hWo with ⟨_, h⟩ | ⟨h, _⟩; exact h; exact absurd h he
 subst hr1
 have hv : doM id m u b c z s me o a l D ⟨5, i, p, n, d, f⟩ = (D, e0, ByteArray.empty, z59) := by show ((jr_ D 5 i (kv_ id m u b c z s me o a l D.L i)).1, (jr_ D 5 i (kv_ id m u b c z s me o a l D.L i)).2, ByteArray.empty, z59) = _; rw [hr]; unfold jr_; rw [if_pos he]
 have HV := hid hv
 rw [<- hn1] at hR
 rw [<- hnd] at hd hdk ⊢
 have HMC := hid h; have HD := hid hd; have HC1 := hid hC1; have HC2 := hid hC2; have HN1 := hid hn1
 have HR := hid hR
 have eb : (e0 == 0) = false := beq_eq_false_iff_ne.mpr he; have eb2 : (e0 != 0) = true := bne_iff_ne.mpr he
 clear h hi hd hrt hcb hlT hlS hsz0 hn1 hn2 hn3 hnd hk1 hk2 hk3 hC1 hC2 hC3 hv hR he hr hWo
 have h3_ : (0 <= i /\ i < (n2 : Int)) \/ (¬ 0 <= i) \/ (0 <= i /\ ¬ i < (n2 : Int)) := by omega
 rcases h3_ with ⟨j0, j1⟩ | j0 | ⟨j0, j1⟩ <;> (
  have H := hid (Pk.start w)
  go_enter Try.func28, Try.ntmps28
  go_wp2_with first
   | (apply bh H 2 (mL id m u b c z s me o a l (.slice A1 n1 k1) (.slice A2 n2 k2) (.slice A3 n3 k3)) 68; clear H; intro gM W1 H; obtain ⟨-, cM⟩ := n1_ H)
   | (apply bh H 3 (xL 5 i p n (.slice Ad nd kdd) f) 65; clear H cM; intro gX W2 H; obtain ⟨-, cX, cM⟩ := n2_ H)
   | (apply bh H 4 (mL 0 0 0 0 0 0 0 0 0 0 0 nil_ nil_ nil_) 68; clear H cX cM; intro gR W3 H; obtain ⟨-, cR, cX, cM⟩ := n3_ H)
   | (apply bh H 7 (oL 0 0 0) 59; clear H cR cX cM; intro gZ W4 H; obtain ⟨-, cZ, cR, cX, cM⟩ := n4_ H)
   | (apply bh H 8 (cL 0 0 0 0 0 0 0 0 0 0 0) 23; clear H cZ cR cX cM; intro gC W5 H; obtain ⟨-, cC, cZ, cR, cX, cM⟩ := n5_ H)
   | (apply sh H 0 23 8 gC (cL id m u b c z s me o a l); clear H cC cZ cR cX cM; intro W6 K_; obtain ⟨H, cC, cZ, cR, cX, cM⟩ := n5_ K_; clear K_)
   | (go_at_call 66; refine (HR.out _ (Kd.C_below HC1.out H.out.below)).mono ?_; rintro e W7 ⟨v, rfl, hT, hb⟩; clear cC cZ cR cX cM; obtain rfl := yY_ hT; replace H := pc H hb; clear hT; clear hb; obtain ⟨-, cC, cZ, cR, cX, cM⟩ := n5_ H)
   | (apply bh H 17 (tL 0 0 0 0 0 0 0 0 0 0 0 nil_) 35; clear H cC cZ cR cX cM; intro gT W8 H; obtain ⟨-, cT, cC, cZ, cR, cX, cM⟩ := n6_ H)
   | (apply sn H 0 35 17 gT (tL 0 0 0 0 0 0 0 0 0 0 0 nil_))
   | (apply sh H 3 68 4 gR (mL id m u b c z s me o a l (.slice A1 n1 k1) (.slice A2 n2 k2) (.slice A3 n3 k3)); clear H cT cC cZ cR cX cM; intro W9 K_; obtain ⟨H, cT, cC, cZ, cR, cX, cM⟩ := n6_ K_; clear K_)
   | (apply sn H 2 59 7 gZ (oL 0 0 0))
  refine bodyPost_ret (jJ_ rfl _ _ gR gZ _ _ _ _ (0, 0) (0, 0) _ _ rfl (H.out.at_ 3 rfl) Try.underlying68 rfl (by kernel_rfl) rfl (H.out.at_ 2 rfl) Try.underlying59 rfl (by kernel_rfl)) rfl ?_
  exact vl_ HV.out rfl kp_ H.out.below)
theorem rdo_open_ok (id m u b c z s me o a l : Int) (x y q : Value) (D : Mdl) (i p n : Int) (Ad : Option Addr) (kdd : Nat) (d : List Int) (f : Bool) (w : World) (h : MC w x y q D) (hi : MInv id m u b c z s me o a l D) (hd : Kd.C (Kd.int .u8) w Ad d.length d) (hdk : d.length <= kdd) (he : (kv_ id m u b c z s me o a l D.L i).2 = 0) :
  Calls Try.prog 28 #[modV id m u b c z s me o a l x y q, cmdV 5 i p n (.slice Ad d.length kdd) f] w (RsP id m u b c z s me o a l x y q D (doM id m u b c z s me o a l D (⟨5, i, p, n, d, f⟩ : S65)) w) := by
 have hsz0 := hi.2.2.2
 obtain ⟨A1, A2, A3, n1, n2, n3, k1, k2, k3, rfl, rfl, rfl, hn1, hn2, hn3, hC1, hC2, hC3, hk1, hk2, hk3, hrt, hL1, hLp, hlT, hlS, hcb⟩ := jK_ h hi
 obtain ⟨nd, hnd⟩ : ∃ n, n = d.length := ⟨_, rfl⟩
 have hb1 := hcb.1
 have hnm : nd <= 9223372036854775807 := by rw [hnd]; exact hd.2.1
 have hR := fun W h => zE_ id m u b c z s me o a l A1 k1 D.L i W h hk1 (by omega)
 have hWo := yz_ (id := id) (m := m) (u := u) (b := b) (c := c) (z := z) (s := s) (me := me) (o := o) (a := a) (l := l) (L := D.L) i
 obtain ⟨⟨r0, e0⟩, hr⟩ : ∃ r, kv_ id m u b c z s me o a l D.L i = r := ⟨_, rfl⟩
 rw [hr] at hR he hWo; (try dsimp only at hR he)
 subst he
 obtain ⟨L1, rfl, hl1⟩ : ∃ L1, r0 = some L1 /\ L1.length = D.L.length := by
  rcases hWo with ⟨h, _⟩ | ⟨_, L1, h, h2⟩
  · exact absurd rfl h
  · exact ⟨L1, h, h2⟩
 have hin : 0 <= i /\ i < (D.L.length : Int) := (openZ_sets (by rw [hr])).imp_right (·.1)
 have hv : doM id m u b c z s me o a l D ⟨5, i, p, n, d, f⟩ = (⟨L1, D.T, D.S⟩, 0, ByteArray.empty, z59) := by show ((jr_ D 5 i (kv_ id m u b c z s me o a l D.L i)).1, (jr_ D 5 i (kv_ id m u b c z s me o a l D.L i)).2, ByteArray.empty, z59) = _; rw [hr]; rfl
 have HV := hid hv
 rw [<- hn1] at hR hin hl1
 rw [<- hnd] at hd hdk ⊢
 have HMC := hid h; have HD := hid hd; have HC1 := hid hC1; have HC2 := hid hC2; have HN1 := hid hn1
 obtain ⟨i0, i1⟩ := hin
 have j0 := i0
 have j1 : i < (n2 : Int) := by omega
 have HR := hid hR
 clear h hi hd hrt hcb hlT hlS hsz0 hn1 hn2 hn3 hnd hk1 hk2 hk3 hC1 hC2 hC3 hv hR hr hWo hl1
 have H := hid (Pk.start w)
 go_enter Try.func28, Try.ntmps28
 go_wp2_with first
  | (apply bh H 2 (mL id m u b c z s me o a l (.slice A1 n1 k1) (.slice A2 n2 k2) (.slice A3 n3 k3)) 68; clear H; intro gM W1 H; obtain ⟨-, cM⟩ := n1_ H)
  | (apply bh H 3 (xL 5 i p n (.slice Ad nd kdd) f) 65; clear H cM; intro gX W2 H; obtain ⟨-, cX, cM⟩ := n2_ H)
  | (apply bh H 4 (mL 0 0 0 0 0 0 0 0 0 0 0 nil_ nil_ nil_) 68; clear H cX cM; intro gR W3 H; obtain ⟨-, cR, cX, cM⟩ := n3_ H)
  | (apply bh H 7 (oL 0 0 0) 59; clear H cR cX cM; intro gZ W4 H; obtain ⟨-, cZ, cR, cX, cM⟩ := n4_ H)
  | (apply bh H 8 (cL 0 0 0 0 0 0 0 0 0 0 0) 23; clear H cZ cR cX cM; intro gC W5 H; obtain ⟨-, cC, cZ, cR, cX, cM⟩ := n5_ H)
  | (apply sh H 0 23 8 gC (cL id m u b c z s me o a l); clear H cC cZ cR cX cM; intro W6 K_; obtain ⟨H, cC, cZ, cR, cX, cM⟩ := n5_ K_; clear K_)
  | (go_at_call 66; refine (HR.out _ (Kd.C_below HC1.out H.out.below)).mono ?_; rintro e W7 ⟨v, rfl, hT, hb⟩; clear cC cZ cR cX cM; obtain ⟨A4, k4, rfl, hL⟩ := vV_ hT HN1.out; replace H := hid ((H.out.called hb).row (RdF k59 59 w.heap.size (.slice A1 n1 k1) D.L (.slice A4 L1.length k4) L1) (kA_ hL H.out.below.size)); clear hT; clear hb; obtain ⟨-, cC, cZ, cR, cX, cM⟩ := n5_ H)
  | (apply bh H 17 (tL 0 0 0 0 0 0 0 0 0 0 0 nil_) 35; clear H cC cZ cR cX cM; intro gT W8 H; obtain ⟨-, cT, cC, cZ, cR, cX, cM⟩ := n6_ H)
  | (apply sh H 0 35 17 gT (tL id m u b c z s me o a l (.slice A4 L1.length k4)); clear H cT cC cZ cR cX cM; intro W9 K_; obtain ⟨H, cT, cC, cZ, cR, cX, cM⟩ := n6_ K_; clear K_)
  | (apply sp H 5 35 196 gM 0 (tL id m u b c z s me o a l (.slice A4 L1.length k4)) (mL id m u b c z s me o a l (.slice A4 L1.length k4) (.slice A2 n2 k2) (.slice A3 n3 k3)); clear H cT cC cZ cR cX cM; intro W10 K_; obtain ⟨H, cT, cC, cZ, cR, cX, cM⟩ := n6_ K_; clear K_)
  | (apply sh H 3 68 4 gR (mL id m u b c z s me o a l (.slice A4 L1.length k4) (.slice A2 n2 k2) (.slice A3 n3 k3)); clear H cT cC cZ cR cX cM; intro W11 K_; obtain ⟨H, cT, cC, cZ, cR, cX, cM⟩ := n6_ K_; clear K_)
  | (apply sn H 2 59 7 gZ (oL 0 0 0))
 refine bodyPost_ret (jJ_ rfl _ _ gR gZ _ _ _ _ (0, 0) (0, 0) _ _ rfl (H.out.at_ 3 rfl) Try.underlying68 rfl (by kernel_rfl) rfl (H.out.at_ 2 rfl) Try.underlying59 rfl (by kernel_rfl)) rfl ?_
 exact vl_ HV.out rfl ⟨(H.out.fact 0 rfl), kd_, kd_⟩ H.out.below
theorem rdo_close_err (id m u b c z s me o a l : Int) (x y q : Value) (D : Mdl) (i p n : Int) (Ad : Option Addr) (kdd : Nat) (d : List Int) (f : Bool) (w : World) (h : MC w x y q D) (hi : MInv id m u b c z s me o a l D) (hd : Kd.C (Kd.int .u8) w Ad d.length d) (hdk : d.length <= kdd) (he : ¬ (jV_ id m u b c z s me o a l D.L i).2 = 0) :
  Calls Try.prog 28 #[modV id m u b c z s me o a l x y q, cmdV 6 i p n (.slice Ad d.length kdd) f] w (RsP id m u b c z s me o a l x y q D (doM id m u b c z s me o a l D (⟨6, i, p, n, d, f⟩ : S65)) w) := by
 have hsz0 := hi.2.2.2
 obtain ⟨A1, A2, A3, n1, n2, n3, k1, k2, k3, rfl, rfl, rfl, hn1, hn2, hn3, hC1, hC2, hC3, hk1, hk2, hk3, hrt, hL1, hLp, hlT, hlS, hcb⟩ := jK_ h hi
 obtain ⟨nd, hnd⟩ : ∃ n, n = d.length := ⟨_, rfl⟩
 have hb1 := hcb.1
 have hnm : nd <= 9223372036854775807 := by rw [hnd]; exact hd.2.1
 have hR := fun W h => rclose_any id m u b c z s me o a l A1 k1 D.L i W h hk1 (by omega)
 have hWo := yc_ (id := id) (m := m) (u := u) (b := b) (c := c) (z := z) (s := s) (me := me) (o := o) (a := a) (l := l) (L := D.L) i
 obtain ⟨⟨r0, e0⟩, hr⟩ : ∃ r, jV_ id m u b c z s me o a l D.L i = r := ⟨_, rfl⟩
 rw [hr] at hR he hWo; (try dsimp only at hR he)
 have hr1 : r0 = none := by rcases hWo with ⟨_, h⟩ | ⟨h, _⟩; exact h; exact absurd h he
 subst hr1
 have hv : doM id m u b c z s me o a l D ⟨6, i, p, n, d, f⟩ = (D, e0, ByteArray.empty, z59) := by show ((jr_ D 6 i (jV_ id m u b c z s me o a l D.L i)).1, (jr_ D 6 i (jV_ id m u b c z s me o a l D.L i)).2, ByteArray.empty, z59) = _; rw [hr]; unfold jr_; rw [if_pos he]
 have HV := hid hv
 rw [<- hn1] at hR
 rw [<- hnd] at hd hdk ⊢
 have HMC := hid h; have HD := hid hd; have HC1 := hid hC1; have HC2 := hid hC2; have HN1 := hid hn1
 have HR := hid hR
 have eb : (e0 == 0) = false := beq_eq_false_iff_ne.mpr he; have eb2 : (e0 != 0) = true := bne_iff_ne.mpr he
 clear h hi hd hrt hcb hlT hlS hsz0 hn1 hn2 hn3 hnd hk1 hk2 hk3 hC1 hC2 hC3 hv hR he hr hWo
 have h3_ : (0 <= i /\ i < (n2 : Int)) \/ (¬ 0 <= i) \/ (0 <= i /\ ¬ i < (n2 : Int)) := by omega
 rcases h3_ with ⟨j0, j1⟩ | j0 | ⟨j0, j1⟩ <;> (
  have H := hid (Pk.start w)
  go_enter Try.func28, Try.ntmps28
  go_wp2_with first
   | (apply bh H 2 (mL id m u b c z s me o a l (.slice A1 n1 k1) (.slice A2 n2 k2) (.slice A3 n3 k3)) 68; clear H; intro gM W1 H; obtain ⟨-, cM⟩ := n1_ H)
   | (apply bh H 3 (xL 6 i p n (.slice Ad nd kdd) f) 65; clear H cM; intro gX W2 H; obtain ⟨-, cX, cM⟩ := n2_ H)
   | (apply bh H 4 (mL 0 0 0 0 0 0 0 0 0 0 0 nil_ nil_ nil_) 68; clear H cX cM; intro gR W3 H; obtain ⟨-, cR, cX, cM⟩ := n3_ H)
   | (apply bh H 7 (oL 0 0 0) 59; clear H cR cX cM; intro gZ W4 H; obtain ⟨-, cZ, cR, cX, cM⟩ := n4_ H)
   | (apply bh H 8 (cL 0 0 0 0 0 0 0 0 0 0 0) 23; clear H cZ cR cX cM; intro gC W5 H; obtain ⟨-, cC, cZ, cR, cX, cM⟩ := n5_ H)
   | (apply sh H 0 23 8 gC (cL id m u b c z s me o a l); clear H cC cZ cR cX cM; intro W6 K_; obtain ⟨H, cC, cZ, cR, cX, cM⟩ := n5_ K_; clear K_)
   | (go_at_call 67; refine (HR.out _ (Kd.C_below HC1.out H.out.below)).mono ?_; rintro e W7 ⟨v, rfl, hT, hb⟩; clear cC cZ cR cX cM; obtain rfl := yY_ hT; replace H := pc H hb; clear hT; clear hb; obtain ⟨-, cC, cZ, cR, cX, cM⟩ := n5_ H)
   | (apply bh H 19 (tL 0 0 0 0 0 0 0 0 0 0 0 nil_) 35; clear H cC cZ cR cX cM; intro gT W8 H; obtain ⟨-, cT, cC, cZ, cR, cX, cM⟩ := n6_ H)
   | (apply sn H 0 35 19 gT (tL 0 0 0 0 0 0 0 0 0 0 0 nil_))
   | (apply sh H 3 68 4 gR (mL id m u b c z s me o a l (.slice A1 n1 k1) (.slice A2 n2 k2) (.slice A3 n3 k3)); clear H cT cC cZ cR cX cM; intro W9 K_; obtain ⟨H, cT, cC, cZ, cR, cX, cM⟩ := n6_ K_; clear K_)
   | (apply sn H 2 59 7 gZ (oL 0 0 0))
  refine bodyPost_ret (jJ_ rfl _ _ gR gZ _ _ _ _ (0, 0) (0, 0) _ _ rfl (H.out.at_ 3 rfl) Try.underlying68 rfl (by kernel_rfl) rfl (H.out.at_ 2 rfl) Try.underlying59 rfl (by kernel_rfl)) rfl ?_
  exact vl_ HV.out rfl kp_ H.out.below)
theorem rdo_close_ok (id m u b c z s me o a l : Int) (x y q : Value) (D : Mdl) (i p n : Int) (Ad : Option Addr) (kdd : Nat) (d : List Int) (f : Bool) (w : World) (h : MC w x y q D) (hi : MInv id m u b c z s me o a l D) (hd : Kd.C (Kd.int .u8) w Ad d.length d) (hdk : d.length <= kdd) (he : (jV_ id m u b c z s me o a l D.L i).2 = 0) :
  Calls Try.prog 28 #[modV id m u b c z s me o a l x y q, cmdV 6 i p n (.slice Ad d.length kdd) f] w (RsP id m u b c z s me o a l x y q D (doM id m u b c z s me o a l D (⟨6, i, p, n, d, f⟩ : S65)) w) := by
 have hsz0 := hi.2.2.2
 obtain ⟨A1, A2, A3, n1, n2, n3, k1, k2, k3, rfl, rfl, rfl, hn1, hn2, hn3, hC1, hC2, hC3, hk1, hk2, hk3, hrt, hL1, hLp, hlT, hlS, hcb⟩ := jK_ h hi
 obtain ⟨nd, hnd⟩ : ∃ n, n = d.length := ⟨_, rfl⟩
 have hb1 := hcb.1
 have hnm : nd <= 9223372036854775807 := by rw [hnd]; exact hd.2.1
 have hR := fun W h => rclose_any id m u b c z s me o a l A1 k1 D.L i W h hk1 (by omega)
 have hWo := yc_ (id := id) (m := m) (u := u) (b := b) (c := c) (z := z) (s := s) (me := me) (o := o) (a := a) (l := l) (L := D.L) i
 obtain ⟨⟨r0, e0⟩, hr⟩ : ∃ r, jV_ id m u b c z s me o a l D.L i = r := ⟨_, rfl⟩
 rw [hr] at hR he hWo; (try dsimp only at hR he)
 subst he
 obtain ⟨L1, rfl, hl1⟩ : ∃ L1, r0 = some L1 /\ L1.length = D.L.length := by
  rcases hWo with ⟨h, _⟩ | ⟨_, L1, h, h2⟩
  · exact absurd rfl h
  · exact ⟨L1, h, h2⟩
 have hin : 0 <= i /\ i < (D.L.length : Int) := (zS_ (by rw [hr])).imp_right (·.1)
 have hv : doM id m u b c z s me o a l D ⟨6, i, p, n, d, f⟩ = (⟨L1, D.T, D.S⟩, 0, ByteArray.empty, z59) := by show ((jr_ D 6 i (jV_ id m u b c z s me o a l D.L i)).1, (jr_ D 6 i (jV_ id m u b c z s me o a l D.L i)).2, ByteArray.empty, z59) = _; rw [hr]; rfl
 have HV := hid hv
 rw [<- hn1] at hR hin hl1
 rw [<- hnd] at hd hdk ⊢
 have HMC := hid h; have HD := hid hd; have HC1 := hid hC1; have HC2 := hid hC2; have HN1 := hid hn1
 obtain ⟨i0, i1⟩ := hin
 have j0 := i0
 have j1 : i < (n2 : Int) := by omega
 have HR := hid hR
 clear h hi hd hrt hcb hlT hlS hsz0 hn1 hn2 hn3 hnd hk1 hk2 hk3 hC1 hC2 hC3 hv hR hr hWo hl1
 have H := hid (Pk.start w)
 go_enter Try.func28, Try.ntmps28
 go_wp2_with first
  | (apply bh H 2 (mL id m u b c z s me o a l (.slice A1 n1 k1) (.slice A2 n2 k2) (.slice A3 n3 k3)) 68; clear H; intro gM W1 H; obtain ⟨-, cM⟩ := n1_ H)
  | (apply bh H 3 (xL 6 i p n (.slice Ad nd kdd) f) 65; clear H cM; intro gX W2 H; obtain ⟨-, cX, cM⟩ := n2_ H)
  | (apply bh H 4 (mL 0 0 0 0 0 0 0 0 0 0 0 nil_ nil_ nil_) 68; clear H cX cM; intro gR W3 H; obtain ⟨-, cR, cX, cM⟩ := n3_ H)
  | (apply bh H 7 (oL 0 0 0) 59; clear H cR cX cM; intro gZ W4 H; obtain ⟨-, cZ, cR, cX, cM⟩ := n4_ H)
  | (apply bh H 8 (cL 0 0 0 0 0 0 0 0 0 0 0) 23; clear H cZ cR cX cM; intro gC W5 H; obtain ⟨-, cC, cZ, cR, cX, cM⟩ := n5_ H)
  | (apply sh H 0 23 8 gC (cL id m u b c z s me o a l); clear H cC cZ cR cX cM; intro W6 K_; obtain ⟨H, cC, cZ, cR, cX, cM⟩ := n5_ K_; clear K_)
  | (go_at_call 67; refine (HR.out _ (Kd.C_below HC1.out H.out.below)).mono ?_; rintro e W7 ⟨v, rfl, hT, hb⟩; clear cC cZ cR cX cM; obtain ⟨A4, k4, rfl, hL⟩ := vV_ hT HN1.out; replace H := hid ((H.out.called hb).row (RdF k59 59 w.heap.size (.slice A1 n1 k1) D.L (.slice A4 L1.length k4) L1) (kA_ hL H.out.below.size)); clear hT; clear hb; obtain ⟨-, cC, cZ, cR, cX, cM⟩ := n5_ H)
  | (apply bh H 19 (tL 0 0 0 0 0 0 0 0 0 0 0 nil_) 35; clear H cC cZ cR cX cM; intro gT W8 H; obtain ⟨-, cT, cC, cZ, cR, cX, cM⟩ := n6_ H)
  | (apply sh H 0 35 19 gT (tL id m u b c z s me o a l (.slice A4 L1.length k4)); clear H cT cC cZ cR cX cM; intro W9 K_; obtain ⟨H, cT, cC, cZ, cR, cX, cM⟩ := n6_ K_; clear K_)
  | (apply sp H 5 35 213 gM 0 (tL id m u b c z s me o a l (.slice A4 L1.length k4)) (mL id m u b c z s me o a l (.slice A4 L1.length k4) (.slice A2 n2 k2) (.slice A3 n3 k3)); clear H cT cC cZ cR cX cM; intro W10 K_; obtain ⟨H, cT, cC, cZ, cR, cX, cM⟩ := n6_ K_; clear K_)
  | (apply sh H 3 68 4 gR (mL id m u b c z s me o a l (.slice A4 L1.length k4) (.slice A2 n2 k2) (.slice A3 n3 k3)); clear H cT cC cZ cR cX cM; intro W11 K_; obtain ⟨H, cT, cC, cZ, cR, cX, cM⟩ := n6_ K_; clear K_)
  | (apply sn H 2 59 7 gZ (oL 0 0 0))
 refine bodyPost_ret (jJ_ rfl _ _ gR gZ _ _ _ _ (0, 0) (0, 0) _ _ rfl (H.out.at_ 3 rfl) Try.underlying68 rfl (by kernel_rfl) rfl (H.out.at_ 2 rfl) Try.underlying59 rfl (by kernel_rfl)) rfl ?_
 exact vl_ HV.out rfl ⟨(H.out.fact 0 rfl), kd_, kd_⟩ H.out.below
end Go.Proofs.Ytgckcaoncjhgbaa
