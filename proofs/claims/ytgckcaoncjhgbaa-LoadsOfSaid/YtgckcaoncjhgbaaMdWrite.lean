/- model.write. -/
import Derived.Test.YtgckcaoncjhgbaaFMb
set_option maxHeartbeats 1000000
set_option maxRecDepth 100000
open Go.Lib (hid)
namespace Go.Proofs.Ytgckcaoncjhgbaa
open Go.RowKit Go.Proofs.Ytgckcaoncjhgbaa.PL Go.Proofs.YtgckcaoncjhgbaaW.PrintWords Go.Proofs.YtgckcaoncjhgbaaW.PrintLast
set_option linter.unusedVariables false
set_option linter.unusedSimpArgs false
attribute [local go_sem] List.getElem?_toArray List.getElem?_cons_succ List.getElem?_cons_zero mL tL cL xL rL oL
def xP_ : Bool × List (List Nat × List Nat) := (true, [([], []), ([0], [0]), ([], []), ([2], [2]), ([], []), ([4], [4]), ([], []), ([6], [6]), ([7], [7]), ([], []), ([9], [9]), ([10], [10]), ([11], [11]), ([8, 12], [8, 12]), ([1, 3, 5, 13], [1, 3, 5, 13]), ([14], [14]), ([15], [15]), ([15], [15]), ([], []), ([18, 16, 14, 0, 1, 2, 3, 4, 5, 6, 7, 8, 9, 10, 11, 12, 13, 14, 15, 16, 18], [16, 18]), ([17, 19, 0, 1, 2, 3, 4, 5, 6, 7, 8, 9, 10, 11, 12, 13, 14, 15, 16, 17, 18, 19], [17])])
theorem vv_ : rtab .any (kT_ Try.f74 5) = xP_ := by kernel_rfl
theorem vi_ : jO_ xP_.2 [0, 1, 0, 4, 0, 16, 0, 64, 192, 0, 512, 1536, 3584, 8128, 16383, 32767, 65535, 65535, 0, 393215, 1048575] = true := by kernel_rfl
def xO_ : Bool × List (List Nat × List Nat) := (true, [([], []), ([], []), ([1], [1]), ([], []), ([3], [3]), ([], []), ([5], [5]), ([4, 6], [4, 6]), ([7], [7]), ([], []), ([9], [9]), ([10], [10]), ([8, 11], [8, 11]), ([], []), ([13], [13]), ([], []), ([15], [15]), ([14, 16], [14, 16]), ([17], [17]), ([0, 2, 12, 18], [0, 2, 12, 18]), ([19, 19, 0, 1, 2, 3, 4, 5, 6, 7, 8, 9, 10, 11, 12, 13, 14, 15, 16, 17, 18, 19], [19])])
theorem xm_ : rtab .any (kT_ Try.f74 8) = xO_ := by kernel_rfl
theorem vU_ : jO_ xO_.2 [0, 0, 2, 0, 8, 0, 32, 120, 248, 0, 512, 1536, 4088, 0, 8192, 0, 32768, 122880, 253952, 524287, 1048575] = true := by kernel_rfl
theorem mwrite_a (id m u b c z s me o a l : Int) (x y q : Value) (D : Mdl) (kd i p n : Int) (Ad : Option Addr) (kdd : Nat) (d : List Int) (f : Bool) (w : World) (h : MC w x y q D) (hi : MInv id m u b c z s me o a l D) (hd : Kd.C (Kd.int .u8) w Ad d.length d) (hdk : d.length <= kdd) (hin : ¬ (0 <= i /\ i < (D.T.length : Int))) :
  Calls Try.prog 74 #[modV id m u b c z s me o a l x y q, cmdV kd i p n (.slice Ad d.length kdd) f] w (RepP id m u b c z s me o a l x y q D (jM_ id m u b c z s me o a l D i p d f).1 (jM_ id m u b c z s me o a l D i p d f).2 [] z59 w) := by
 obtain ⟨A1, A2, A3, n1, n2, n3, k1, k2, k3, rfl, rfl, rfl, hn1, hn2, hn3, hC1, hC2, hC3, hk1, hk2, hk3, hrt, hL1, hLp, hlT, hlS, hcb⟩ := jK_ h hi
 have hb1 := hcb.1
 obtain ⟨nd, hnd⟩ : ∃ n, n = d.length := ⟨_, rfl⟩
 have htd : Int.tdiv (nd : Int) b = (nd : Int) / b := Int.tdiv_eq_ediv_of_nonneg (by omega)
 have htm : Int.tmod (nd : Int) b = (nd : Int) % b := Int.tmod_eq_emod_of_nonneg (by omega)
 have hnm : nd <= 9223372036854775807 := by rw [hnd]; exact hd.2.1
 have q0 : 0 <= (nd : Int) / b := Int.ediv_nonneg (by omega) (by omega)
 have q1 : (nd : Int) / b <= (nd : Int) := Int.ediv_le_self _ (by omega)
 have hwq : IntKind.i64.wrap ((nd : Int) / b) = (nd : Int) / b := by rw [kq_]; unfold wrap64; omega
 have hbz : (b = 0) = False := eq_false (by omega)
 have hWo := kY_ (id := id) (m := m) (u := u) (b := b) (c := c) (z := z) (s := s) (me := me) (o := o) (a := a) (l := l) (L := D.L) i p ((nd : Int) / b)
 have hW := fun W h => xJ_ id m u b c z s me o a l A1 k1 D.L i p ((nd : Int) / b) W h hk1
 rw [<- hn1] at hW
 rw [<- hnd] at hd hdk ⊢
 have HMC := hid h; have HD := hid hd; have HC1 := hid hC1; have HC2 := hid hC2; have HC3 := hid hC3
 clear h hi hd hk1 hk2 hk3 hC1 hC2 hC3
 rw [<- hn2] at hin
 have H := hid (Pk.start w)
 have hb0 : decide (0 <= i /\ i < (n2 : Int)) = false := decide_eq_false hin
 have hv : jM_ id m u b c z s me o a l D i p d f = (D, 2) := by unfold jM_; rw [<- hn2, if_pos hin]
 rw [hv]; (try dsimp only)
 have HTH := hid (fun W => xz_ id m u b c z s me o a l (.slice A1 n1 k1) (.slice A3 n3 k3) A2 n2 k2 i W false hb0); clear hb0
 clear hv hin hn1 hn2 hn3 hnd htd htm hW hWo hlT hlS hrt hcb
 go_enter Try.func74, Try.ntmps74
 go_wp2_with first
  | (apply bh H 2 (mL id m u b c z s me o a l (.slice A1 n1 k1) (.slice A2 n2 k2) (.slice A3 n3 k3)) 53; clear H; intro gM W1 H; obtain ⟨-, cM⟩ := n1_ H)
  | (apply bh H 3 (xL kd i p n (.slice Ad nd kdd) f) 65; clear H cM; intro gX W2 H; obtain ⟨-, cX, cM⟩ := n2_ H)
  | (apply bh H 4 (mL 0 0 0 0 0 0 0 0 0 0 0 nil_ nil_ nil_) 53; clear H cX cM; intro gR W3 H; obtain ⟨-, cR, cX, cM⟩ := n3_ H)
  | (apply bh H 5 (rL 0 nil_ 0 0 0) 61; clear H cR cX cM; intro gP W4 H; obtain ⟨-, cP, cR, cX, cM⟩ := n4_ H)
  | (go_at_call 83; refine (HTH.out _).mono ?_; rintro e W5 ⟨rfl, hb⟩; clear cP cR cX cM; replace H := pc H hb; clear hb; obtain ⟨-, cP, cR, cX, cM⟩ := n4_ H)
  | (go_at_call 73; refine (kG_ id m u b c z s me o a l A1 A2 A3 n1 k1 n2 k2 n3 k3 (2) _).mono ?_; rintro e W6 ⟨rfl, hb⟩; clear cP cR cX cM; replace H := pc H hb; clear hb; obtain ⟨-, cP, cR, cX, cM⟩ := n4_ H)
  | (apply sh H 1 53 4 gR (mL id m u b c z s me o a l (.slice A1 n1 k1) (.slice A2 n2 k2) (.slice A3 n3 k3)); clear H cP cR cX cM; intro W7 K_; obtain ⟨H, cP, cR, cX, cM⟩ := n4_ K_; clear K_)
  | (apply sh H 0 61 5 gP (rL 2 nil_ 0 0 0); clear H cP cR cX cM; intro W8 K_; obtain ⟨H, cP, cR, cX, cM⟩ := n4_ K_; clear K_)
 refine bodyPost_ret (jG_ rfl _ _ gR gP 53 61 (mL id m u b c z s me o a l (.slice A1 n1 k1) (.slice A2 n2 k2) (.slice A3 n3 k3)).toArray (rL 2 nil_ 0 0 0).toArray (0, 0) (0, 0) _ _ rfl (H.out.at_ 1 rfl) Try.underlying53 rfl (by kernel_rfl) rfl (H.out.at_ 0 rfl) Try.underlying61 rfl (by kernel_rfl)) rfl ?_
 exact kl_ rfl kp_ (vu_ _) H.out.below
theorem mwrite_b (id m u b c z s me o a l : Int) (x y q : Value) (D : Mdl) (kd i p n : Int) (Ad : Option Addr) (kdd : Nat) (d : List Int) (f : Bool) (w : World) (h : MC w x y q D) (hi : MInv id m u b c z s me o a l D) (hd : Kd.C (Kd.int .u8) w Ad d.length d) (hdk : d.length <= kdd) (hin : 0 <= i /\ i < (D.T.length : Int)) (hal : ¬ (d.length : Int) % b = 0) :
  Calls Try.prog 74 #[modV id m u b c z s me o a l x y q, cmdV kd i p n (.slice Ad d.length kdd) f] w (RepP id m u b c z s me o a l x y q D (jM_ id m u b c z s me o a l D i p d f).1 (jM_ id m u b c z s me o a l D i p d f).2 [] z59 w) := by
 obtain ⟨A1, A2, A3, n1, n2, n3, k1, k2, k3, rfl, rfl, rfl, hn1, hn2, hn3, hC1, hC2, hC3, hk1, hk2, hk3, hrt, hL1, hLp, hlT, hlS, hcb⟩ := jK_ h hi
 have hb1 := hcb.1
 obtain ⟨nd, hnd⟩ : ∃ n, n = d.length := ⟨_, rfl⟩
 have htd : Int.tdiv (nd : Int) b = (nd : Int) / b := Int.tdiv_eq_ediv_of_nonneg (by omega)
 have htm : Int.tmod (nd : Int) b = (nd : Int) % b := Int.tmod_eq_emod_of_nonneg (by omega)
 have hnm : nd <= 9223372036854775807 := by rw [hnd]; exact hd.2.1
 have q0 : 0 <= (nd : Int) / b := Int.ediv_nonneg (by omega) (by omega)
 have q1 : (nd : Int) / b <= (nd : Int) := Int.ediv_le_self _ (by omega)
 have hwq : IntKind.i64.wrap ((nd : Int) / b) = (nd : Int) / b := by rw [kq_]; unfold wrap64; omega
 have hbz : (b = 0) = False := eq_false (by omega)
 have hWo := kY_ (id := id) (m := m) (u := u) (b := b) (c := c) (z := z) (s := s) (me := me) (o := o) (a := a) (l := l) (L := D.L) i p ((nd : Int) / b)
 have hW := fun W h => xJ_ id m u b c z s me o a l A1 k1 D.L i p ((nd : Int) / b) W h hk1
 rw [<- hn1] at hW
 rw [<- hnd] at hd hdk ⊢
 have HMC := hid h; have HD := hid hd; have HC1 := hid hC1; have HC2 := hid hC2; have HC3 := hid hC3
 clear h hi hd hk1 hk2 hk3 hC1 hC2 hC3
 rw [<- hn2] at hin
 rw [<- hnd] at hal
 have hb0 : decide (0 <= i /\ i < (n2 : Int)) = true := decide_eq_true hin
 have HTH := hid (fun W => xz_ id m u b c z s me o a l (.slice A1 n1 k1) (.slice A3 n3 k3) A2 n2 k2 i W true hb0); clear hb0
 have H := hid (Pk.start w)
 have hv : jM_ id m u b c z s me o a l D i p d f = (D, 3) := by unfold jM_; rw [<- hn2, <- hnd, if_neg (by simp [hin]), if_pos hal]
 rw [hv]; (try dsimp only)
 have e1 : ((nd : Int) % b == 0) = false := beq_eq_false_iff_ne.mpr hal; have e2 : ((nd : Int) % b != 0) = true := bne_iff_ne.mpr hal
 clear hv hin hal hn1 hn2 hn3 hnd htd hW hWo hlT hlS hrt hcb
 go_enter Try.func74, Try.ntmps74
 go_wp2_with first
  | (apply bh H 2 (mL id m u b c z s me o a l (.slice A1 n1 k1) (.slice A2 n2 k2) (.slice A3 n3 k3)) 53; clear H; intro gM W1 H; obtain ⟨-, cM⟩ := n1_ H)
  | (apply bh H 3 (xL kd i p n (.slice Ad nd kdd) f) 65; clear H cM; intro gX W2 H; obtain ⟨-, cX, cM⟩ := n2_ H)
  | (apply bh H 4 (mL 0 0 0 0 0 0 0 0 0 0 0 nil_ nil_ nil_) 53; clear H cX cM; intro gR W3 H; obtain ⟨-, cR, cX, cM⟩ := n3_ H)
  | (apply bh H 5 (rL 0 nil_ 0 0 0) 61; clear H cR cX cM; intro gP W4 H; obtain ⟨-, cP, cR, cX, cM⟩ := n4_ H)
  | (go_at_call 83; refine (HTH.out _).mono ?_; rintro e W5 ⟨rfl, hb⟩; clear cP cR cX cM; replace H := pc H hb; clear hb; obtain ⟨-, cP, cR, cX, cM⟩ := n4_ H)
  | (go_at_call 73; refine (kG_ id m u b c z s me o a l A1 A2 A3 n1 k1 n2 k2 n3 k3 (3) _).mono ?_; rintro e W6 ⟨rfl, hb⟩; clear cP cR cX cM; replace H := pc H hb; clear hb; obtain ⟨-, cP, cR, cX, cM⟩ := n4_ H)
  | (apply sh H 1 53 4 gR (mL id m u b c z s me o a l (.slice A1 n1 k1) (.slice A2 n2 k2) (.slice A3 n3 k3)); clear H cP cR cX cM; intro W7 K_; obtain ⟨H, cP, cR, cX, cM⟩ := n4_ K_; clear K_)
  | (apply sh H 0 61 5 gP (rL 3 nil_ 0 0 0); clear H cP cR cX cM; intro W8 K_; obtain ⟨H, cP, cR, cX, cM⟩ := n4_ K_; clear K_)
 refine bodyPost_ret (jG_ rfl _ _ gR gP 53 61 (mL id m u b c z s me o a l (.slice A1 n1 k1) (.slice A2 n2 k2) (.slice A3 n3 k3)).toArray (rL 3 nil_ 0 0 0).toArray (0, 0) (0, 0) _ _ rfl (H.out.at_ 1 rfl) Try.underlying53 rfl (by kernel_rfl) rfl (H.out.at_ 0 rfl) Try.underlying61 rfl (by kernel_rfl)) rfl ?_
 exact kl_ rfl kp_ (vu_ _) H.out.below
theorem mwrite_c (id m u b c z s me o a l : Int) (x y q : Value) (D : Mdl) (kd i p n : Int) (Ad : Option Addr) (kdd : Nat) (d : List Int) (f : Bool) (w : World) (h : MC w x y q D) (hi : MInv id m u b c z s me o a l D) (hd : Kd.C (Kd.int .u8) w Ad d.length d) (hdk : d.length <= kdd) (hin : 0 <= i /\ i < (D.T.length : Int)) (hal : (d.length : Int) % b = 0) (he : ¬ (ke_ id m u b c z s me o a l D.L i p ((d.length : Int) / b)).2 = 0) :
  Calls Try.prog 74 #[modV id m u b c z s me o a l x y q, cmdV kd i p n (.slice Ad d.length kdd) f] w (RepP id m u b c z s me o a l x y q D (jM_ id m u b c z s me o a l D i p d f).1 (jM_ id m u b c z s me o a l D i p d f).2 [] z59 w) := by
 obtain ⟨A1, A2, A3, n1, n2, n3, k1, k2, k3, rfl, rfl, rfl, hn1, hn2, hn3, hC1, hC2, hC3, hk1, hk2, hk3, hrt, hL1, hLp, hlT, hlS, hcb⟩ := jK_ h hi
 have hb1 := hcb.1
 obtain ⟨nd, hnd⟩ : ∃ n, n = d.length := ⟨_, rfl⟩
 have htd : Int.tdiv (nd : Int) b = (nd : Int) / b := Int.tdiv_eq_ediv_of_nonneg (by omega)
 have htm : Int.tmod (nd : Int) b = (nd : Int) % b := Int.tmod_eq_emod_of_nonneg (by omega)
 have hnm : nd <= 9223372036854775807 := by rw [hnd]; exact hd.2.1
 have q0 : 0 <= (nd : Int) / b := Int.ediv_nonneg (by omega) (by omega)
 have q1 : (nd : Int) / b <= (nd : Int) := Int.ediv_le_self _ (by omega)
 have hwq : IntKind.i64.wrap ((nd : Int) / b) = (nd : Int) / b := by rw [kq_]; unfold wrap64; omega
 have hbz : (b = 0) = False := eq_false (by omega)
 have hWo := kY_ (id := id) (m := m) (u := u) (b := b) (c := c) (z := z) (s := s) (me := me) (o := o) (a := a) (l := l) (L := D.L) i p ((nd : Int) / b)
 have hW := fun W h => xJ_ id m u b c z s me o a l A1 k1 D.L i p ((nd : Int) / b) W h hk1
 rw [<- hn1] at hW
 rw [<- hnd] at hd hdk ⊢
 have HMC := hid h; have HD := hid hd; have HC1 := hid hC1; have HC2 := hid hC2; have HC3 := hid hC3
 clear h hi hd hk1 hk2 hk3 hC1 hC2 hC3
 rw [<- hn2] at hin
 rw [<- hnd] at hal
 rw [<- hnd] at he
 have hb0 : decide (0 <= i /\ i < (n2 : Int)) = true := decide_eq_true hin
 have HTH := hid (fun W => xz_ id m u b c z s me o a l (.slice A1 n1 k1) (.slice A3 n3 k3) A2 n2 k2 i W true hb0); clear hb0
 have e1 : ((nd : Int) % b == 0) = true := beq_iff_eq.mpr hal; have e2 : ((nd : Int) % b != 0) = false := bne_eq_false_iff_eq.mpr hal
 obtain ⟨⟨r0, e0⟩, hr⟩ : ∃ r, ke_ id m u b c z s me o a l D.L i p ((nd : Int) / b) = r := ⟨_, rfl⟩
 rw [hr] at he; (try dsimp only at he)
 have H := hid (Pk.start w)
 have hv : jM_ id m u b c z s me o a l D i p d f = (D, e0) := by unfold jM_; rw [<- hn2, <- hnd, if_neg (by simp [hin]), if_neg (by simp [hal]), hr, if_pos he]
 rw [hv]; (try dsimp only)
 rw [hr] at hW; (try dsimp only at hW); have hr1 : r0 = none := by rw [hr] at hWo; rcases hWo with ⟨_, h⟩ | ⟨h, _⟩; exact h; exact absurd h he
 subst hr1
 have HW := hid hW; have eb : (e0 == 0) = false := beq_eq_false_iff_ne.mpr he; have eb2 : (e0 != 0) = true := bne_iff_ne.mpr he
 clear hv hin hal hn1 hn2 hn3 hnd hW hWo hr he hlT hlS hrt hcb
 go_enter Try.func74, Try.ntmps74
 go_wp2_with first
  | (apply bh H 2 (mL id m u b c z s me o a l (.slice A1 n1 k1) (.slice A2 n2 k2) (.slice A3 n3 k3)) 53; clear H; intro gM W1 H; obtain ⟨-, cM⟩ := n1_ H)
  | (apply bh H 3 (xL kd i p n (.slice Ad nd kdd) f) 65; clear H cM; intro gX W2 H; obtain ⟨-, cX, cM⟩ := n2_ H)
  | (apply bh H 4 (mL 0 0 0 0 0 0 0 0 0 0 0 nil_ nil_ nil_) 53; clear H cX cM; intro gR W3 H; obtain ⟨-, cR, cX, cM⟩ := n3_ H)
  | (apply bh H 5 (rL 0 nil_ 0 0 0) 61; clear H cR cX cM; intro gP W4 H; obtain ⟨-, cP, cR, cX, cM⟩ := n4_ H)
  | (go_at_call 83; refine (HTH.out _).mono ?_; rintro e W5 ⟨rfl, hb⟩; clear cP cR cX cM; replace H := pc H hb; clear hb; obtain ⟨-, cP, cR, cX, cM⟩ := n4_ H)
 clear cP cR cX cM
 refine jN_ (n := 21) (S := fun W => bW W gM (mL id m u b c z s me o a l (.slice A1 n1 k1) (.slice A2 n2 k2) (.slice A3 n3 k3)) /\ bW W gX (xL kd i p n (.slice Ad nd kdd) f)) (ds := []) (bq 21 0) (by kernel_rfl) rfl (by kernel_rfl) ⟨H.out.drew.cell 3 rfl, H.out.drew.cell 2 rfl⟩ (fun hHeld => ?_)
 refine jw_ vv_ vi_ (fun HT_ HW_ => ?_)
 have zH := H.out.drew
 generalize W5.drew = W6 at zH hHeld ⊢
 replace H := hid zH; clear zH
 apply pu 0 33 (bq 21 1) HT_
 apply tw 1 34 (bq 21 3) HT_ HW_ hHeld
 apply pu 2 35 (bq 21 7) HT_
 apply tw 3 36 (bq 21 15) HT_ HW_ hHeld
 apply pu 4 37 (bq 21 31) HT_
 apply tw 5 38 (bq 21 63) HT_ HW_ hHeld
 apply pu 6 39 (bq 21 127) HT_
 apply tw 7 40 (bq 21 255) HT_ HW_ hHeld
 apply pu 8 41 (bq 21 511) HT_
 apply pu 9 42 (bq 21 1023) HT_
 apply pu 10 43 (bq 21 2047) HT_
 apply pu 11 44 (bq 21 4095) HT_
 apply tw 12 45 (bq 21 8191) HT_ HW_ hHeld
 apply pu 13 46 (bq 21 16383) HT_
 have b0 := hid (Below.refl W6.heap.size W6)
 refine zM_ (σ := Nat) 2 (bq 21 524287) (fun y => [(47, .tuple #[tabV 0 0 0 0 0 0 0 0 0 0 0 (.slice none 0 0), .int .i64 e0]), (32, .tuple #[tabV 0 0 0 0 0 0 0 0 0 0 0 (.slice none 0 0), .int .i64 e0]), (48, tabV 0 0 0 0 0 0 0 0 0 0 0 (.slice none 0 0)), (49, .int .i64 e0), (6, .pointer (some ⟨y, 0, none⟩))]) (fun y W => (bW W gM (mL id m u b c z s me o a l (.slice A1 n1 k1) (.slice A2 n2 k2) (.slice A3 n3 k3)) /\ bW W gX (xL kd i p n (.slice Ad nd kdd) f)) /\ Below W6.heap.size W6 W /\ W.heap[y]? = some (.cells (tL 0 0 0 0 0 0 0 0 0 0 0 nil_).toArray 27 (0, 0)) /\ W6.heap.size <= y) ?_ ?_
 rotate_left
 ·
  intro hCont
  refine two_ (i := 14) (j := 18) (Ni := some 47) (Nj := some 6) (bq 21 32767) (bq 21 278527) rfl rfl rfl rfl (vL_ HT_.out (by kernel_rfl)) (by decide) (by decide) (fun K hK => ?_) (fun K hK => ?_)
  ·
   refine gs Try.func56 #[tabV id m u b c z s me o a l (.slice A1 n1 k1), .int .i64 i, .int .i64 p, .int .i64 ((nd : Int) / b)] ?_
   refine (HW.out _ (Kd.C_below HC1.out H.out.below)).mono ?_
   rintro e W7 ⟨v, rfl, hT, hb⟩
   refine ⟨_, rfl, ?_⟩
   obtain rfl := xv_ hT
   replace H := pc H hb
   replace b0 := hid (jc_ b0.out hb)
   clear hT
   clear hb
   refine hK.out _ _ ⟨H.out.cell 3 rfl, H.out.cell 2 rfl⟩ (fun hHeld => ?_)
   clear hK K
   apply nm 0
   apply pu 15 32 (bq 21 65535) HT_
   apply pu 16 48 (bq 21 131071) HT_
   apply pu 17 49 (bq 21 262143) HT_
   apply on 18 (some 6) (bq 21 524287) HT_; intro K hK
   obtain ⟨-, cP, cR, cX, cM⟩ := n4_ H
   apply bhs H 6 (tL 0 0 0 0 0 0 0 0 0 0 0 nil_) 27
   clear H cP cR cX cM
   intro gT W8 hg hb H
   have GT := hid (Nat.le_trans b0.out.size hg)
   replace b0 := hid (jc_ b0.out hb)
   clear hb hg
   refine hK.out _ _ ⟨H.out.cell 4 rfl, H.out.cell 3 rfl⟩ (fun hHeld => ?_)
   clear hK K
   apply nm 0
   exact kw_ (by simp only [jS_, Act.put, List.setIfInBounds_toArray, List.set_cons_zero, List.set_cons_succ]) (hCont (gT) _ ⟨hHeld, b0.out, H.out.at_ 0 rfl, GT.out⟩)
  ·
   obtain ⟨-, cP, cR, cX, cM⟩ := n4_ H
   apply bhs H 6 (tL 0 0 0 0 0 0 0 0 0 0 0 nil_) 27
   clear H cP cR cX cM
   intro gT W7 hg hb H
   have GT := hid (Nat.le_trans b0.out.size hg)
   replace b0 := hid (jc_ b0.out hb)
   clear hb hg
   refine hK.out _ _ ⟨H.out.cell 4 rfl, H.out.cell 3 rfl⟩ (fun hHeld => ?_)
   clear hK K
   apply nm 0
   apply on 14 (some 47) (bq 21 294911) HT_; intro K hK
   refine gs Try.func56 #[tabV id m u b c z s me o a l (.slice A1 n1 k1), .int .i64 i, .int .i64 p, .int .i64 ((nd : Int) / b)] ?_
   refine (HW.out _ (Kd.C_below HC1.out H.out.below)).mono ?_
   rintro e W8 ⟨v, rfl, hT, hb⟩
   refine ⟨_, rfl, ?_⟩
   obtain rfl := xv_ hT
   replace H := pc H hb
   replace b0 := hid (jc_ b0.out hb)
   clear hT
   clear hb
   refine hK.out _ _ ⟨H.out.cell 4 rfl, H.out.cell 3 rfl⟩ (fun hHeld => ?_)
   clear hK K
   apply nm 0
   apply pu 15 32 (bq 21 327679) HT_
   apply pu 16 48 (bq 21 393215) HT_
   apply pu 17 49 (bq 21 524287) HT_
   exact kw_ (by simp only [jS_, Act.put, List.setIfInBounds_toArray, List.set_cons_zero, List.set_cons_succ]) (hCont (gT) _ ⟨hHeld, b0.out, H.out.at_ 0 rfl, GT.out⟩)
 rintro gT W59 ⟨hHeld, hb, hT, hGT⟩
 (try dsimp only at hHeld hT hGT ⊢)
 replace H := hid (H.out.join hb hT hGT)
 clear b0 hb hT hGT
 refine kw_ (a' := ?_) ?_ ?_
 rotate_left
 ·
  simp only [jS_, Act.put, List.setIfInBounds_toArray, List.set_cons_zero, List.set_cons_succ]
  rfl
 apply on 19 none (bq 21 1048575) HT_; intro K hK
 obtain ⟨-, cT, cP, cR, cX, cM⟩ := n5_ H
 apply sns H 0 27 6 gT (tL 0 0 0 0 0 0 0 0 0 0 0 nil_)
 clear cT cP cR cX cM
 refine hK.out _ _ ⟨H.out.cell 4 rfl, H.out.cell 3 rfl⟩ (fun hHeld => ?_)
 clear hK K
 apply pu 20 7 (bq 21 2097151) HT_
 refine kk_ (jF_ HT_.out (by kernel_rfl)) ?_
 obtain ⟨-, cT, cP, cR, cX, cM⟩ := n5_ H
 go_wp2_with first
  | (go_at_call 73; refine (kG_ id m u b c z s me o a l A1 A2 A3 n1 k1 n2 k2 n3 k3 (e0) _).mono ?_; rintro e W60 ⟨rfl, hb⟩; clear cT cP cR cX cM; replace H := pc H hb; clear hb; obtain ⟨-, cT, cP, cR, cX, cM⟩ := n5_ H)
  | (apply sh H 2 53 4 gR (mL id m u b c z s me o a l (.slice A1 n1 k1) (.slice A2 n2 k2) (.slice A3 n3 k3)); clear H cT cP cR cX cM; intro W61 K_; obtain ⟨H, cT, cP, cR, cX, cM⟩ := n5_ K_; clear K_)
  | (apply sh H 1 61 5 gP (rL e0 nil_ 0 0 0); clear H cT cP cR cX cM; intro W62 K_; obtain ⟨H, cT, cP, cR, cX, cM⟩ := n5_ K_; clear K_)
 refine bodyPost_ret (jG_ rfl _ _ gR gP 53 61 (mL id m u b c z s me o a l (.slice A1 n1 k1) (.slice A2 n2 k2) (.slice A3 n3 k3)).toArray (rL e0 nil_ 0 0 0).toArray (0, 0) (0, 0) _ _ rfl (H.out.at_ 2 rfl) Try.underlying53 rfl (by kernel_rfl) rfl (H.out.at_ 1 rfl) Try.underlying61 rfl (by kernel_rfl)) rfl ?_
 exact kl_ rfl kp_ (vu_ _) H.out.below
theorem mwrite_d (id m u b c z s me o a l : Int) (x y q : Value) (D : Mdl) (kd i p n : Int) (Ad : Option Addr) (kdd : Nat) (d : List Int) (w : World) (h : MC w x y q D) (hi : MInv id m u b c z s me o a l D) (hd : Kd.C (Kd.int .u8) w Ad d.length d) (hdk : d.length <= kdd) (hin : 0 <= i /\ i < (D.T.length : Int)) (hal : (d.length : Int) % b = 0) (he : (ke_ id m u b c z s me o a l D.L i p ((d.length : Int) / b)).2 = 0) :
  Calls Try.prog 74 #[modV id m u b c z s me o a l x y q, cmdV kd i p n (.slice Ad d.length kdd) false] w (RepP id m u b c z s me o a l x y q D (jM_ id m u b c z s me o a l D i p d false).1 (jM_ id m u b c z s me o a l D i p d false).2 [] z59 w) := by
 have hs := xy_ hi hal he
 obtain ⟨A1, A2, A3, n1, n2, n3, k1, k2, k3, rfl, rfl, rfl, hn1, hn2, hn3, hC1, hC2, hC3, hk1, hk2, hk3, hrt, hL1, hLp, hlT, hlS, hcb⟩ := jK_ h hi
 have hb1 := hcb.1
 obtain ⟨nd, hnd⟩ : ∃ n, n = d.length := ⟨_, rfl⟩
 have htd : Int.tdiv (nd : Int) b = (nd : Int) / b := Int.tdiv_eq_ediv_of_nonneg (by omega)
 have htm : Int.tmod (nd : Int) b = (nd : Int) % b := Int.tmod_eq_emod_of_nonneg (by omega)
 have hnm : nd <= 9223372036854775807 := by rw [hnd]; exact hd.2.1
 have q0 : 0 <= (nd : Int) / b := Int.ediv_nonneg (by omega) (by omega)
 have q1 : (nd : Int) / b <= (nd : Int) := Int.ediv_le_self _ (by omega)
 have hwq : IntKind.i64.wrap ((nd : Int) / b) = (nd : Int) / b := by rw [kq_]; unfold wrap64; omega
 have hbz : (b = 0) = False := eq_false (by omega)
 have hWo := kY_ (id := id) (m := m) (u := u) (b := b) (c := c) (z := z) (s := s) (me := me) (o := o) (a := a) (l := l) (L := D.L) i p ((nd : Int) / b)
 have hW := fun W h => xJ_ id m u b c z s me o a l A1 k1 D.L i p ((nd : Int) / b) W h hk1
 rw [<- hn1] at hW
 rw [<- hnd] at hd hdk ⊢
 have HMC := hid h; have HD := hid hd; have HC1 := hid hC1; have HC2 := hid hC2; have HC3 := hid hC3
 clear h hi hd hk1 hk2 hk3 hC1 hC2 hC3
 rw [<- hn2] at hin
 rw [<- hnd] at hal
 rw [<- hnd] at he
 have hb0 : decide (0 <= i /\ i < (n2 : Int)) = true := decide_eq_true hin
 have HTH := hid (fun W => xz_ id m u b c z s me o a l (.slice A1 n1 k1) (.slice A3 n3 k3) A2 n2 k2 i W true hb0); clear hb0
 have e1 : ((nd : Int) % b == 0) = true := beq_iff_eq.mpr hal; have e2 : ((nd : Int) % b != 0) = false := bne_eq_false_iff_eq.mpr hal
 obtain ⟨⟨r0, e0⟩, hr⟩ : ∃ r, ke_ id m u b c z s me o a l D.L i p ((nd : Int) / b) = r := ⟨_, rfl⟩
 rw [hr] at he; (try dsimp only at he)
 subst he
 obtain ⟨L1, rfl, hl1⟩ : ∃ L1, r0 = some L1 /\ L1.length = n1 := by
  rw [hr] at hWo; rcases hWo with ⟨h, _⟩ | ⟨_, L1, h, h2⟩
  · exact absurd rfl h
  · exact ⟨L1, h, by rw [h2, hn1]⟩
 rw [hr] at hW
 (try dsimp only at hW)
 have H := hid (Pk.start w)
 have hv : jM_ id m u b c z s me o a l D i p d false = (⟨L1, D.T.set i.toNat (rdOf default D.T i ++ strOfNums d), D.S.set i.toNat (rdOf default D.S i)⟩, 0) := by unfold jM_; rw [<- hn2, <- hnd, if_neg (by simp [hin]), if_neg (by simp [hal]), hr, if_neg (by simp)]; rfl
 rw [hv]; (try dsimp only)
 have i0 := hin.1; have i1 := hin.2; have i2 : i < (n3 : Int) := by omega
 obtain ⟨ad2, rfl⟩ := zh_ HC2.out (by omega)
 obtain ⟨ad3, rfl⟩ := zh_ HC3.out (by omega)
 obtain ⟨tx, htx⟩ : ∃ t, t = rdOf default D.T i := ⟨_, rfl⟩
 obtain ⟨sf, hsf⟩ : ∃ t, t = rdOf default D.S i := ⟨_, rfl⟩
 obtain ⟨ds, hds⟩ : ∃ t, t = strOfNums d := ⟨_, rfl⟩
 rw [<- htx] at hs ⊢
 rw [<- hds]
 have hwi := fun W h => zK_ id m u b c z s me o a l (.slice A1 n1 k1) (.slice (some ad2) n2 k2) (.slice (some ad3) n3 k3) D i (tx ++ ds) sf W h i0 (by omega) (by omega) (by omega) (by omega)
 have hcs : (9223372036854775807 < tx.size + ds.size) = False := eq_false (by rw [hds, xR_]; omega)
 have HWI := hid hwi; have HTX := hid htx; have HSF := hid hsf; have HDS := hid hds; have HL1 := hid hl1; have HLP := hid hLp; have HS := hid hs; have HW := hid hW
 rw [<- hsf]
 clear hv hin hal hn1 hn2 hn3 hnd hWo hlT hlS hs hrt hcb hwi htx hsf hds hl1 hW
 go_enter Try.func74, Try.ntmps74
 go_wp2_with first
  | (apply bh H 2 (mL id m u b c z s me o a l (.slice A1 n1 k1) (.slice (some ad2) n2 k2) (.slice (some ad3) n3 k3)) 53; clear H; intro gM W1 H; obtain ⟨-, cM⟩ := n1_ H)
  | (apply bh H 3 (xL kd i p n (.slice Ad nd kdd) false) 65; clear H cM; intro gX W2 H; obtain ⟨-, cX, cM⟩ := n2_ H)
  | (apply bh H 4 (mL 0 0 0 0 0 0 0 0 0 0 0 nil_ nil_ nil_) 53; clear H cX cM; intro gR W3 H; obtain ⟨-, cR, cX, cM⟩ := n3_ H)
  | (apply bh H 5 (rL 0 nil_ 0 0 0) 61; clear H cR cX cM; intro gP W4 H; obtain ⟨-, cP, cR, cX, cM⟩ := n4_ H)
  | (go_at_call 83; refine (HTH.out _).mono ?_; rintro e W5 ⟨rfl, hb⟩; clear cP cR cX cM; replace H := pc H hb; clear hb; obtain ⟨-, cP, cR, cX, cM⟩ := n4_ H)
 clear cP cR cX cM
 refine jN_ (n := 21) (S := fun W => bW W gM (mL id m u b c z s me o a l (.slice A1 n1 k1) (.slice (some ad2) n2 k2) (.slice (some ad3) n3 k3)) /\ bW W gX (xL kd i p n (.slice Ad nd kdd) false)) (ds := []) (bq 21 0) (by kernel_rfl) rfl (by kernel_rfl) ⟨H.out.drew.cell 3 rfl, H.out.drew.cell 2 rfl⟩ (fun hHeld => ?_)
 refine jw_ vv_ vi_ (fun HT_ HW_ => ?_)
 have zH := H.out.drew
 generalize W5.drew = W6 at zH hHeld ⊢
 replace H := hid zH; clear zH
 apply pu 0 33 (bq 21 1) HT_
 apply tw 1 34 (bq 21 3) HT_ HW_ hHeld
 apply pu 2 35 (bq 21 7) HT_
 apply tw 3 36 (bq 21 15) HT_ HW_ hHeld
 apply pu 4 37 (bq 21 31) HT_
 apply tw 5 38 (bq 21 63) HT_ HW_ hHeld
 apply pu 6 39 (bq 21 127) HT_
 apply tw 7 40 (bq 21 255) HT_ HW_ hHeld
 apply pu 8 41 (bq 21 511) HT_
 apply pu 9 42 (bq 21 1023) HT_
 apply pu 10 43 (bq 21 2047) HT_
 apply pu 11 44 (bq 21 4095) HT_
 apply tw 12 45 (bq 21 8191) HT_ HW_ hHeld
 apply pu 13 46 (bq 21 16383) HT_
 have b0 := hid (Below.refl W6.heap.size W6)
 refine zM_ (σ := Option Addr × Nat × Nat) 2 (bq 21 524287) (fun y => [(47, .tuple #[tabV id m u b c z s me o a l (.slice y.1 L1.length y.2.1), .int .i64 0]), (32, .tuple #[tabV id m u b c z s me o a l (.slice y.1 L1.length y.2.1), .int .i64 0]), (48, tabV id m u b c z s me o a l (.slice y.1 L1.length y.2.1)), (49, .int .i64 0), (6, .pointer (some ⟨y.2.2, 0, none⟩))]) (fun y W => (bW W gM (mL id m u b c z s me o a l (.slice A1 n1 k1) (.slice (some ad2) n2 k2) (.slice (some ad3) n3 k3)) /\ bW W gX (xL kd i p n (.slice Ad nd kdd) false)) /\ Below W6.heap.size W6 W /\ W.heap[y.2.2]? = some (.cells (tL 0 0 0 0 0 0 0 0 0 0 0 nil_).toArray 27 (0, 0)) /\ W6.heap.size <= y.2.2 /\ Kd.R k59 59 W w.heap.size (fun _ => True) (.slice y.1 L1.length y.2.1) L1) ?_ ?_
 rotate_left
 ·
  intro hCont
  refine two_ (i := 14) (j := 18) (Ni := some 47) (Nj := some 6) (bq 21 32767) (bq 21 278527) rfl rfl rfl rfl (vL_ HT_.out (by kernel_rfl)) (by decide) (by decide) (fun K hK => ?_) (fun K hK => ?_)
  ·
   refine gs Try.func56 #[tabV id m u b c z s me o a l (.slice A1 n1 k1), .int .i64 i, .int .i64 p, .int .i64 ((nd : Int) / b)] ?_
   refine (HW.out _ (Kd.C_below HC1.out H.out.below)).mono ?_
   rintro e W7 ⟨v, rfl, hT, hb⟩
   refine ⟨_, rfl, ?_⟩
   obtain ⟨A4, k4, rfl, hR⟩ := vA_ hT
   replace H := pr H hb hR
   replace b0 := hid (jc_ b0.out hb)
   clear hT
   clear hb
   refine hK.out _ _ ⟨H.out.cell 3 rfl, H.out.cell 2 rfl⟩ (fun hHeld => ?_)
   clear hK K
   apply nm 0
   apply pu 15 32 (bq 21 65535) HT_
   apply pu 16 48 (bq 21 131071) HT_
   apply pu 17 49 (bq 21 262143) HT_
   apply on 18 (some 6) (bq 21 524287) HT_; intro K hK
   obtain ⟨-, cP, cR, cX, cM⟩ := n4_ H
   apply bhs H 6 (tL 0 0 0 0 0 0 0 0 0 0 0 nil_) 27
   clear H cP cR cX cM
   intro gT W8 hg hb H
   have GT := hid (Nat.le_trans b0.out.size hg)
   replace b0 := hid (jc_ b0.out hb)
   clear hb hg
   refine hK.out _ _ ⟨H.out.cell 4 rfl, H.out.cell 3 rfl⟩ (fun hHeld => ?_)
   clear hK K
   apply nm 0
   exact kw_ (by simp only [jS_, Act.put, List.setIfInBounds_toArray, List.set_cons_zero, List.set_cons_succ]) (hCont (A4, k4, gT) _ ⟨hHeld, b0.out, H.out.at_ 0 rfl, GT.out, H.out.fact 0 rfl⟩)
  ·
   obtain ⟨-, cP, cR, cX, cM⟩ := n4_ H
   apply bhs H 6 (tL 0 0 0 0 0 0 0 0 0 0 0 nil_) 27
   clear H cP cR cX cM
   intro gT W7 hg hb H
   have GT := hid (Nat.le_trans b0.out.size hg)
   replace b0 := hid (jc_ b0.out hb)
   clear hb hg
   refine hK.out _ _ ⟨H.out.cell 4 rfl, H.out.cell 3 rfl⟩ (fun hHeld => ?_)
   clear hK K
   apply nm 0
   apply on 14 (some 47) (bq 21 294911) HT_; intro K hK
   refine gs Try.func56 #[tabV id m u b c z s me o a l (.slice A1 n1 k1), .int .i64 i, .int .i64 p, .int .i64 ((nd : Int) / b)] ?_
   refine (HW.out _ (Kd.C_below HC1.out H.out.below)).mono ?_
   rintro e W8 ⟨v, rfl, hT, hb⟩
   refine ⟨_, rfl, ?_⟩
   obtain ⟨A4, k4, rfl, hR⟩ := vA_ hT
   replace H := pr H hb hR
   replace b0 := hid (jc_ b0.out hb)
   clear hT
   clear hb
   refine hK.out _ _ ⟨H.out.cell 4 rfl, H.out.cell 3 rfl⟩ (fun hHeld => ?_)
   clear hK K
   apply nm 0
   apply pu 15 32 (bq 21 327679) HT_
   apply pu 16 48 (bq 21 393215) HT_
   apply pu 17 49 (bq 21 524287) HT_
   exact kw_ (by simp only [jS_, Act.put, List.setIfInBounds_toArray, List.set_cons_zero, List.set_cons_succ]) (hCont (A4, k4, gT) _ ⟨hHeld, b0.out, H.out.at_ 0 rfl, GT.out, H.out.fact 0 rfl⟩)
 rintro ⟨A4, k4, gT⟩ W59 ⟨hHeld, hb, hT, hGT, hrL⟩
 (try dsimp only at hHeld hT hGT hrL ⊢)
 replace H := hid (H.out.join hb hT hGT)
 replace H := hid (H.out.row (RowF k59 59 w.heap.size (.slice A4 L1.length k4) L1) hrL)
 clear b0 hb hT hGT hrL
 refine kw_ (a' := ?_) ?_ ?_
 rotate_left
 ·
  simp only [jS_, Act.put, List.setIfInBounds_toArray, List.set_cons_zero, List.set_cons_succ]
  rfl
 apply on 19 none (bq 21 1048575) HT_; intro K hK
 obtain ⟨-, cT, cP, cR, cX, cM⟩ := n5_ H
 apply shs H 0 27 6 gT (tL id m u b c z s me o a l (.slice A4 L1.length k4))
 clear H cT cP cR cX cM
 intro W60 K_
 have H := (n5_ K_).1; clear K_
 refine hK.out _ _ ⟨H.out.cell 4 rfl, H.out.cell 3 rfl⟩ (fun hHeld => ?_)
 clear hK K
 apply pu 20 7 (bq 21 2097151) HT_
 refine kk_ (jF_ HT_.out (by kernel_rfl)) ?_
 obtain ⟨-, cT, cP, cR, cX, cM⟩ := n5_ H
 go_wp2
 clear cT cP cR cX cM
 refine jN_ (n := 21) (S := fun W => bW W gM (mL id m u b c z s me o a l (.slice A1 n1 k1) (.slice (some ad2) n2 k2) (.slice (some ad3) n3 k3)) /\ bW W gX (xL kd i p n (.slice Ad nd kdd) false) /\ W.cell? (ad2.add i.toNat) = some (.string tx) /\ W.cell? (ad3.add i.toNat) = some (.int .i64 sf) /\ (convert 57 9 (.slice Ad nd kdd)).run Try.prog W = .ok (.string ds) W) (ds := [20]) (bq 21 0) (by kernel_rfl) rfl (by kernel_rfl) ⟨H.out.drew.cell 4 rfl, H.out.drew.cell 3 rfl, (by rw [HTX.out]; exact C_el default (Kd.C_below HC2.out (H.out.drew).below) i i0 i1), (by rw [HSF.out]; exact C_el default (Kd.C_below HC3.out (H.out.drew).below) i i0 i2), (by rw [HDS.out]; exact Kd.C_string Try.underlying57 Try.underlying5 Try.underlying9 (Kd.C_below HD.out (H.out.drew).below))⟩ (fun hHeld => ?_)
 refine jw_ xm_ vU_ (fun HT_ HW_ => ?_)
 have zH := H.out.drew
 generalize W60.drew = W61 at zH hHeld ⊢
 replace H := hid zH; clear zH
 apply tw 0 57 (bq 21 1) HT_ HW_ hHeld
 apply pu 1 58 (bq 21 3) HT_
 apply tw 2 59 (bq 21 7) HT_ HW_ hHeld
 apply pu 3 60 (bq 21 15) HT_
 apply tw 4 61 (bq 21 31) HT_ HW_ hHeld
 apply pu 5 62 (bq 21 63) HT_
 apply tw 6 63 (bq 21 127) HT_ HW_ hHeld
 apply pu 7 64 (bq 21 255) HT_
 apply tw 8 65 (bq 21 511) HT_ HW_ hHeld
 apply pu 9 66 (bq 21 1023) HT_
 apply tw 10 67 (bq 21 2047) HT_ HW_ hHeld
 apply tw 11 68 (bq 21 4095) HT_ HW_ hHeld
 apply pu 12 69 (bq 21 8191) HT_
 apply pu 13 70 (bq 21 16383) HT_
 apply tw 14 71 (bq 21 32767) HT_ HW_ hHeld
 apply pu 15 72 (bq 21 65535) HT_
 apply tw 16 73 (bq 21 131071) HT_ HW_ hHeld
 apply pu 17 74 (bq 21 262143) HT_
 apply tw 18 75 (bq 21 524287) HT_ HW_ hHeld
 apply on 19 (some 76) (bq 21 1048575) HT_; intro K hK
 refine gs Try.func85 #[modV id m u b c z s me o a l (.slice A1 n1 k1) (.slice (some ad2) n2 k2) (.slice (some ad3) n3 k3), .int .i64 i, .string (tx ++ ds), .int .i64 sf] ?_
 refine (HWI.out _ (kL_ HMC.out H.out.below)).mono ?_
 rintro e W62 ⟨y5, q5, rfl, hY, hQ, hb⟩
 refine ⟨_, rfl, ?_⟩
 obtain ⟨A5, k5, rfl⟩ := Kd.R_slice hY
 obtain ⟨A6, k6, rfl⟩ := Kd.R_slice hQ
 simp only [List.length_set] at hY hQ ⊢
 have hb0_ := H.out.below.size; replace H := hid ((H.out.called hb).row (RowF Kd.string 9 w.heap.size (.slice A5 D.T.length k5) (D.T.set i.toNat (tx ++ ds))) (Kd.R_lower (hY) H.out.below.size))
 replace H := hid ((H.out).row (RowF (Kd.int .i64) 3 w.heap.size (.slice A6 D.S.length k6) (D.S.set i.toNat sf)) (Kd.R_lower (hQ) hb0_))
 clear hb0_
 clear hY hQ
 clear hb
 refine hK.out _ _ ⟨H.out.cell 4 rfl, H.out.cell 3 rfl, (by rw [HTX.out]; exact C_el default (Kd.C_below HC2.out H.out.below) i i0 i1), (by rw [HSF.out]; exact C_el default (Kd.C_below HC3.out H.out.below) i i0 i2), (by rw [HDS.out]; exact Kd.C_string Try.underlying57 Try.underlying5 Try.underlying9 (Kd.C_below HD.out H.out.below))⟩ (fun hHeld => ?_)
 clear hK K
 apply nm 0
 apply onl 20 none (bq 21 2097151) HT_; intro K hK
 obtain ⟨-, cT, cP, cR, cX, cM⟩ := n5_ H
 apply shs H 4 53 2 gM (mL id m u b c z s me o a l (.slice A1 n1 k1) (.slice A5 D.T.length k5) (.slice A6 D.S.length k6))
 clear H cT cP cR cX cM
 intro W63 K_
 have H := (n5_ K_).1; clear K_
 refine hK.out _ _ ?_
 clear hK K
 refine kk_ (jF_ HT_.out (by kernel_rfl)) ?_
 obtain ⟨-, cT, cP, cR, cX, cM⟩ := n5_ H
 go_wp2_with first
  | (apply sp H 4 27 78 gM 0 (tL id m u b c z s me o a l (.slice A4 L1.length k4)) (mL id m u b c z s me o a l (.slice A4 L1.length k4) (.slice A5 D.T.length k5) (.slice A6 D.S.length k6)); clear H cT cP cR cX cM; intro W64 K_; obtain ⟨H, cT, cP, cR, cX, cM⟩ := n5_ K_; clear K_)
  | (apply sh H 2 53 4 gR (mL id m u b c z s me o a l (.slice A4 L1.length k4) (.slice A5 D.T.length k5) (.slice A6 D.S.length k6)); clear H cT cP cR cX cM; intro W65 K_; obtain ⟨H, cT, cP, cR, cX, cM⟩ := n5_ K_; clear K_)
  | (apply sn H 1 61 5 gP (rL 0 nil_ 0 0 0))
 refine bodyPost_ret (jG_ rfl _ _ gR gP 53 61 (mL id m u b c z s me o a l (.slice A4 L1.length k4) (.slice A5 D.T.length k5) (.slice A6 D.S.length k6)).toArray (rL 0 nil_ 0 0 0).toArray (0, 0) (0, 0) _ _ rfl (H.out.at_ 2 rfl) Try.underlying53 rfl (by kernel_rfl) rfl (H.out.at_ 1 rfl) Try.underlying61 rfl (by kernel_rfl)) rfl ?_
 exact kl_ rfl ⟨.inr (H.out.fact 2 rfl), .inr (H.out.fact 1 rfl), .inr (H.out.fact 0 rfl)⟩ (vu_ _) H.out.below
theorem mwrite_e (id m u b c z s me o a l : Int) (x y q : Value) (D : Mdl) (kd i p n : Int) (Ad : Option Addr) (kdd : Nat) (d : List Int) (w : World) (h : MC w x y q D) (hi : MInv id m u b c z s me o a l D) (hd : Kd.C (Kd.int .u8) w Ad d.length d) (hdk : d.length <= kdd) (hin : 0 <= i /\ i < (D.T.length : Int)) (hal : (d.length : Int) % b = 0) (he : (ke_ id m u b c z s me o a l D.L i p ((d.length : Int) / b)).2 = 0) :
  Calls Try.prog 74 #[modV id m u b c z s me o a l x y q, cmdV kd i p n (.slice Ad d.length kdd) true] w (RepP id m u b c z s me o a l x y q D (jM_ id m u b c z s me o a l D i p d true).1 (jM_ id m u b c z s me o a l D i p d true).2 [] z59 w) := by
 have hs := xy_ hi hal he
 obtain ⟨A1, A2, A3, n1, n2, n3, k1, k2, k3, rfl, rfl, rfl, hn1, hn2, hn3, hC1, hC2, hC3, hk1, hk2, hk3, hrt, hL1, hLp, hlT, hlS, hcb⟩ := jK_ h hi
 have hb1 := hcb.1
 obtain ⟨nd, hnd⟩ : ∃ n, n = d.length := ⟨_, rfl⟩
 have htd : Int.tdiv (nd : Int) b = (nd : Int) / b := Int.tdiv_eq_ediv_of_nonneg (by omega)
 have htm : Int.tmod (nd : Int) b = (nd : Int) % b := Int.tmod_eq_emod_of_nonneg (by omega)
 have hnm : nd <= 9223372036854775807 := by rw [hnd]; exact hd.2.1
 have q0 : 0 <= (nd : Int) / b := Int.ediv_nonneg (by omega) (by omega)
 have q1 : (nd : Int) / b <= (nd : Int) := Int.ediv_le_self _ (by omega)
 have hwq : IntKind.i64.wrap ((nd : Int) / b) = (nd : Int) / b := by rw [kq_]; unfold wrap64; omega
 have hbz : (b = 0) = False := eq_false (by omega)
 have hWo := kY_ (id := id) (m := m) (u := u) (b := b) (c := c) (z := z) (s := s) (me := me) (o := o) (a := a) (l := l) (L := D.L) i p ((nd : Int) / b)
 have hW := fun W h => xJ_ id m u b c z s me o a l A1 k1 D.L i p ((nd : Int) / b) W h hk1
 rw [<- hn1] at hW
 rw [<- hnd] at hd hdk ⊢
 have HMC := hid h; have HD := hid hd; have HC1 := hid hC1; have HC2 := hid hC2; have HC3 := hid hC3
 clear h hi hd hk1 hk2 hk3 hC1 hC2 hC3
 rw [<- hn2] at hin
 rw [<- hnd] at hal
 rw [<- hnd] at he
 have hb0 : decide (0 <= i /\ i < (n2 : Int)) = true := decide_eq_true hin
 have HTH := hid (fun W => xz_ id m u b c z s me o a l (.slice A1 n1 k1) (.slice A3 n3 k3) A2 n2 k2 i W true hb0); clear hb0
 have e1 : ((nd : Int) % b == 0) = true := beq_iff_eq.mpr hal; have e2 : ((nd : Int) % b != 0) = false := bne_eq_false_iff_eq.mpr hal
 obtain ⟨⟨r0, e0⟩, hr⟩ : ∃ r, ke_ id m u b c z s me o a l D.L i p ((nd : Int) / b) = r := ⟨_, rfl⟩
 rw [hr] at he; (try dsimp only at he)
 subst he
 obtain ⟨L1, rfl, hl1⟩ : ∃ L1, r0 = some L1 /\ L1.length = n1 := by
  rw [hr] at hWo; rcases hWo with ⟨h, _⟩ | ⟨_, L1, h, h2⟩
  · exact absurd rfl h
  · exact ⟨L1, h, by rw [h2, hn1]⟩
 rw [hr] at hW
 (try dsimp only at hW)
 have H := hid (Pk.start w)
 have hv : jM_ id m u b c z s me o a l D i p d true = (⟨L1, D.T.set i.toNat (rdOf default D.T i ++ strOfNums d), L1.map (·.f1)⟩, 0) := by unfold jM_; rw [<- hn2, <- hnd, if_neg (by simp [hin]), if_neg (by simp [hal]), hr, if_neg (by simp)]; rfl
 rw [hv]; (try dsimp only)
 have i0 := hin.1; have i1 := hin.2; have i2 : i < (n3 : Int) := by omega
 obtain ⟨ad2, rfl⟩ := zh_ HC2.out (by omega)
 obtain ⟨ad3, rfl⟩ := zh_ HC3.out (by omega)
 obtain ⟨tx, htx⟩ : ∃ t, t = rdOf default D.T i := ⟨_, rfl⟩
 obtain ⟨sf, hsf⟩ : ∃ t, t = rdOf default D.S i := ⟨_, rfl⟩
 obtain ⟨ds, hds⟩ : ∃ t, t = strOfNums d := ⟨_, rfl⟩
 rw [<- htx] at hs ⊢
 rw [<- hds]
 have hwi := fun W h => zK_ id m u b c z s me o a l (.slice A1 n1 k1) (.slice (some ad2) n2 k2) (.slice (some ad3) n3 k3) D i (tx ++ ds) sf W h i0 (by omega) (by omega) (by omega) (by omega)
 have hcs : (9223372036854775807 < tx.size + ds.size) = False := eq_false (by rw [hds, xR_]; omega)
 have HWI := hid hwi; have HTX := hid htx; have HSF := hid hsf; have HDS := hid hds; have HL1 := hid hl1; have HLP := hid hLp; have HS := hid hs; have HW := hid hW
 have HFL := hid (show (D.S.set i.toNat sf).length = L1.length by rw [List.length_set]; omega)
 have HLQ := hid (show 0 < L1.length by omega)
 have HLR := hid (show L1.length < 1000000000 by omega)
 clear hv hin hal hn1 hn2 hn3 hnd hWo hlT hlS hs hrt hcb hwi htx hsf hds hl1 hW
 go_enter Try.func74, Try.ntmps74
 go_wp2_with first
  | (apply bh H 2 (mL id m u b c z s me o a l (.slice A1 n1 k1) (.slice (some ad2) n2 k2) (.slice (some ad3) n3 k3)) 53; clear H; intro gM W1 H; obtain ⟨-, cM⟩ := n1_ H)
  | (apply bh H 3 (xL kd i p n (.slice Ad nd kdd) true) 65; clear H cM; intro gX W2 H; obtain ⟨-, cX, cM⟩ := n2_ H)
  | (apply bh H 4 (mL 0 0 0 0 0 0 0 0 0 0 0 nil_ nil_ nil_) 53; clear H cX cM; intro gR W3 H; obtain ⟨-, cR, cX, cM⟩ := n3_ H)
  | (apply bh H 5 (rL 0 nil_ 0 0 0) 61; clear H cR cX cM; intro gP W4 H; obtain ⟨-, cP, cR, cX, cM⟩ := n4_ H)
  | (go_at_call 83; refine (HTH.out _).mono ?_; rintro e W5 ⟨rfl, hb⟩; clear cP cR cX cM; replace H := pc H hb; clear hb; obtain ⟨-, cP, cR, cX, cM⟩ := n4_ H)
 clear cP cR cX cM
 refine jN_ (n := 21) (S := fun W => bW W gM (mL id m u b c z s me o a l (.slice A1 n1 k1) (.slice (some ad2) n2 k2) (.slice (some ad3) n3 k3)) /\ bW W gX (xL kd i p n (.slice Ad nd kdd) true)) (ds := []) (bq 21 0) (by kernel_rfl) rfl (by kernel_rfl) ⟨H.out.drew.cell 3 rfl, H.out.drew.cell 2 rfl⟩ (fun hHeld => ?_)
 refine jw_ vv_ vi_ (fun HT_ HW_ => ?_)
 have zH := H.out.drew
 generalize W5.drew = W6 at zH hHeld ⊢
 replace H := hid zH; clear zH
 apply pu 0 33 (bq 21 1) HT_
 apply tw 1 34 (bq 21 3) HT_ HW_ hHeld
 apply pu 2 35 (bq 21 7) HT_
 apply tw 3 36 (bq 21 15) HT_ HW_ hHeld
 apply pu 4 37 (bq 21 31) HT_
 apply tw 5 38 (bq 21 63) HT_ HW_ hHeld
 apply pu 6 39 (bq 21 127) HT_
 apply tw 7 40 (bq 21 255) HT_ HW_ hHeld
 apply pu 8 41 (bq 21 511) HT_
 apply pu 9 42 (bq 21 1023) HT_
 apply pu 10 43 (bq 21 2047) HT_
 apply pu 11 44 (bq 21 4095) HT_
 apply tw 12 45 (bq 21 8191) HT_ HW_ hHeld
 apply pu 13 46 (bq 21 16383) HT_
 have b0 := hid (Below.refl W6.heap.size W6)
 refine zM_ (σ := Option Addr × Nat × Nat) 2 (bq 21 524287) (fun y => [(47, .tuple #[tabV id m u b c z s me o a l (.slice y.1 L1.length y.2.1), .int .i64 0]), (32, .tuple #[tabV id m u b c z s me o a l (.slice y.1 L1.length y.2.1), .int .i64 0]), (48, tabV id m u b c z s me o a l (.slice y.1 L1.length y.2.1)), (49, .int .i64 0), (6, .pointer (some ⟨y.2.2, 0, none⟩))]) (fun y W => (bW W gM (mL id m u b c z s me o a l (.slice A1 n1 k1) (.slice (some ad2) n2 k2) (.slice (some ad3) n3 k3)) /\ bW W gX (xL kd i p n (.slice Ad nd kdd) true)) /\ Below W6.heap.size W6 W /\ W.heap[y.2.2]? = some (.cells (tL 0 0 0 0 0 0 0 0 0 0 0 nil_).toArray 27 (0, 0)) /\ W6.heap.size <= y.2.2 /\ Kd.R k59 59 W w.heap.size (fun _ => True) (.slice y.1 L1.length y.2.1) L1) ?_ ?_
 rotate_left
 ·
  intro hCont
  refine two_ (i := 14) (j := 18) (Ni := some 47) (Nj := some 6) (bq 21 32767) (bq 21 278527) rfl rfl rfl rfl (vL_ HT_.out (by kernel_rfl)) (by decide) (by decide) (fun K hK => ?_) (fun K hK => ?_)
  ·
   refine gs Try.func56 #[tabV id m u b c z s me o a l (.slice A1 n1 k1), .int .i64 i, .int .i64 p, .int .i64 ((nd : Int) / b)] ?_
   refine (HW.out _ (Kd.C_below HC1.out H.out.below)).mono ?_
   rintro e W7 ⟨v, rfl, hT, hb⟩
   refine ⟨_, rfl, ?_⟩
   obtain ⟨A4, k4, rfl, hR⟩ := vA_ hT
   replace H := pr H hb hR
   replace b0 := hid (jc_ b0.out hb)
   clear hT
   clear hb
   refine hK.out _ _ ⟨H.out.cell 3 rfl, H.out.cell 2 rfl⟩ (fun hHeld => ?_)
   clear hK K
   apply nm 0
   apply pu 15 32 (bq 21 65535) HT_
   apply pu 16 48 (bq 21 131071) HT_
   apply pu 17 49 (bq 21 262143) HT_
   apply on 18 (some 6) (bq 21 524287) HT_; intro K hK
   obtain ⟨-, cP, cR, cX, cM⟩ := n4_ H
   apply bhs H 6 (tL 0 0 0 0 0 0 0 0 0 0 0 nil_) 27
   clear H cP cR cX cM
   intro gT W8 hg hb H
   have GT := hid (Nat.le_trans b0.out.size hg)
   replace b0 := hid (jc_ b0.out hb)
   clear hb hg
   refine hK.out _ _ ⟨H.out.cell 4 rfl, H.out.cell 3 rfl⟩ (fun hHeld => ?_)
   clear hK K
   apply nm 0
   exact kw_ (by simp only [jS_, Act.put, List.setIfInBounds_toArray, List.set_cons_zero, List.set_cons_succ]) (hCont (A4, k4, gT) _ ⟨hHeld, b0.out, H.out.at_ 0 rfl, GT.out, H.out.fact 0 rfl⟩)
  ·
   obtain ⟨-, cP, cR, cX, cM⟩ := n4_ H
   apply bhs H 6 (tL 0 0 0 0 0 0 0 0 0 0 0 nil_) 27
   clear H cP cR cX cM
   intro gT W7 hg hb H
   have GT := hid (Nat.le_trans b0.out.size hg)
   replace b0 := hid (jc_ b0.out hb)
   clear hb hg
   refine hK.out _ _ ⟨H.out.cell 4 rfl, H.out.cell 3 rfl⟩ (fun hHeld => ?_)
   clear hK K
   apply nm 0
   apply on 14 (some 47) (bq 21 294911) HT_; intro K hK
   refine gs Try.func56 #[tabV id m u b c z s me o a l (.slice A1 n1 k1), .int .i64 i, .int .i64 p, .int .i64 ((nd : Int) / b)] ?_
   refine (HW.out _ (Kd.C_below HC1.out H.out.below)).mono ?_
   rintro e W8 ⟨v, rfl, hT, hb⟩
   refine ⟨_, rfl, ?_⟩
   obtain ⟨A4, k4, rfl, hR⟩ := vA_ hT
   replace H := pr H hb hR
   replace b0 := hid (jc_ b0.out hb)
   clear hT
   clear hb
   refine hK.out _ _ ⟨H.out.cell 4 rfl, H.out.cell 3 rfl⟩ (fun hHeld => ?_)
   clear hK K
   apply nm 0
   apply pu 15 32 (bq 21 327679) HT_
   apply pu 16 48 (bq 21 393215) HT_
   apply pu 17 49 (bq 21 524287) HT_
   exact kw_ (by simp only [jS_, Act.put, List.setIfInBounds_toArray, List.set_cons_zero, List.set_cons_succ]) (hCont (A4, k4, gT) _ ⟨hHeld, b0.out, H.out.at_ 0 rfl, GT.out, H.out.fact 0 rfl⟩)
 rintro ⟨A4, k4, gT⟩ W59 ⟨hHeld, hb, hT, hGT, hrL⟩
 (try dsimp only at hHeld hT hGT hrL ⊢)
 replace H := hid (H.out.join hb hT hGT)
 replace H := hid (H.out.row (RowF k59 59 w.heap.size (.slice A4 L1.length k4) L1) hrL)
 clear b0 hb hT hGT hrL
 refine kw_ (a' := ?_) ?_ ?_
 rotate_left
 ·
  simp only [jS_, Act.put, List.setIfInBounds_toArray, List.set_cons_zero, List.set_cons_succ]
  rfl
 apply on 19 none (bq 21 1048575) HT_; intro K hK
 obtain ⟨-, cT, cP, cR, cX, cM⟩ := n5_ H
 apply shs H 0 27 6 gT (tL id m u b c z s me o a l (.slice A4 L1.length k4))
 clear H cT cP cR cX cM
 intro W60 K_
 have H := (n5_ K_).1; clear K_
 refine hK.out _ _ ⟨H.out.cell 4 rfl, H.out.cell 3 rfl⟩ (fun hHeld => ?_)
 clear hK K
 apply pu 20 7 (bq 21 2097151) HT_
 refine kk_ (jF_ HT_.out (by kernel_rfl)) ?_
 obtain ⟨-, cT, cP, cR, cX, cM⟩ := n5_ H
 go_wp2
 clear cT cP cR cX cM
 refine jN_ (n := 21) (S := fun W => bW W gM (mL id m u b c z s me o a l (.slice A1 n1 k1) (.slice (some ad2) n2 k2) (.slice (some ad3) n3 k3)) /\ bW W gX (xL kd i p n (.slice Ad nd kdd) true) /\ W.cell? (ad2.add i.toNat) = some (.string tx) /\ W.cell? (ad3.add i.toNat) = some (.int .i64 sf) /\ (convert 57 9 (.slice Ad nd kdd)).run Try.prog W = .ok (.string ds) W) (ds := [20]) (bq 21 0) (by kernel_rfl) rfl (by kernel_rfl) ⟨H.out.drew.cell 4 rfl, H.out.drew.cell 3 rfl, (by rw [HTX.out]; exact C_el default (Kd.C_below HC2.out (H.out.drew).below) i i0 i1), (by rw [HSF.out]; exact C_el default (Kd.C_below HC3.out (H.out.drew).below) i i0 i2), (by rw [HDS.out]; exact Kd.C_string Try.underlying57 Try.underlying5 Try.underlying9 (Kd.C_below HD.out (H.out.drew).below))⟩ (fun hHeld => ?_)
 refine jw_ xm_ vU_ (fun HT_ HW_ => ?_)
 have zH := H.out.drew
 generalize W60.drew = W61 at zH hHeld ⊢
 replace H := hid zH; clear zH
 apply tw 0 57 (bq 21 1) HT_ HW_ hHeld
 apply pu 1 58 (bq 21 3) HT_
 apply tw 2 59 (bq 21 7) HT_ HW_ hHeld
 apply pu 3 60 (bq 21 15) HT_
 apply tw 4 61 (bq 21 31) HT_ HW_ hHeld
 apply pu 5 62 (bq 21 63) HT_
 apply tw 6 63 (bq 21 127) HT_ HW_ hHeld
 apply pu 7 64 (bq 21 255) HT_
 apply tw 8 65 (bq 21 511) HT_ HW_ hHeld
 apply pu 9 66 (bq 21 1023) HT_
 apply tw 10 67 (bq 21 2047) HT_ HW_ hHeld
 apply tw 11 68 (bq 21 4095) HT_ HW_ hHeld
 apply pu 12 69 (bq 21 8191) HT_
 apply pu 13 70 (bq 21 16383) HT_
 apply tw 14 71 (bq 21 32767) HT_ HW_ hHeld
 apply pu 15 72 (bq 21 65535) HT_
 apply tw 16 73 (bq 21 131071) HT_ HW_ hHeld
 apply pu 17 74 (bq 21 262143) HT_
 apply tw 18 75 (bq 21 524287) HT_ HW_ hHeld
 apply on 19 (some 76) (bq 21 1048575) HT_; intro K hK
 refine gs Try.func85 #[modV id m u b c z s me o a l (.slice A1 n1 k1) (.slice (some ad2) n2 k2) (.slice (some ad3) n3 k3), .int .i64 i, .string (tx ++ ds), .int .i64 sf] ?_
 refine (HWI.out _ (kL_ HMC.out H.out.below)).mono ?_
 rintro e W62 ⟨y5, q5, rfl, hY, hQ, hb⟩
 refine ⟨_, rfl, ?_⟩
 obtain ⟨A5, k5, rfl⟩ := Kd.R_slice hY
 obtain ⟨A6, k6, rfl⟩ := Kd.R_slice hQ
 simp only [List.length_set] at hY hQ ⊢
 have hb0_ := H.out.below.size; replace H := hid ((H.out.called hb).row (RowF Kd.string 9 w.heap.size (.slice A5 D.T.length k5) (D.T.set i.toNat (tx ++ ds))) (Kd.R_lower (hY) H.out.below.size))
 replace H := hid ((H.out).row (RowF (Kd.int .i64) 3 w.heap.size (.slice A6 D.S.length k6) (D.S.set i.toNat sf)) (Kd.R_lower (hQ) hb0_))
 clear hb0_
 clear hY hQ
 clear hb
 refine hK.out _ _ ⟨H.out.cell 4 rfl, H.out.cell 3 rfl, (by rw [HTX.out]; exact C_el default (Kd.C_below HC2.out H.out.below) i i0 i1), (by rw [HSF.out]; exact C_el default (Kd.C_below HC3.out H.out.below) i i0 i2), (by rw [HDS.out]; exact Kd.C_string Try.underlying57 Try.underlying5 Try.underlying9 (Kd.C_below HD.out H.out.below))⟩ (fun hHeld => ?_)
 clear hK K
 apply nm 0
 apply onl 20 none (bq 21 2097151) HT_; intro K hK
 obtain ⟨-, cT, cP, cR, cX, cM⟩ := n5_ H
 apply shs H 4 53 2 gM (mL id m u b c z s me o a l (.slice A1 n1 k1) (.slice A5 D.T.length k5) (.slice A6 D.S.length k6))
 clear H cT cP cR cX cM
 intro W63 K_
 have H := (n5_ K_).1; clear K_
 refine hK.out _ _ ?_
 clear hK K
 refine kk_ (jF_ HT_.out (by kernel_rfl)) ?_
 obtain ⟨-, cT, cP, cR, cX, cM⟩ := n5_ H
 go_wp2_with first
  | (apply sp H 4 27 78 gM 0 (tL id m u b c z s me o a l (.slice A4 L1.length k4)) (mL id m u b c z s me o a l (.slice A4 L1.length k4) (.slice A5 D.T.length k5) (.slice A6 D.S.length k6)); clear H cT cP cR cX cM; intro W64 K_; obtain ⟨H, cT, cP, cR, cX, cM⟩ := n5_ K_; clear K_)
  | (go_at_call 76; refine (yn_ id m u b c z s me o a l (.slice A4 L1.length k4) (.slice A5 D.T.length k5) (.slice A6 D.S.length k6) ⟨L1, D.T.set i.toNat (tx ++ ds), D.S.set i.toNat sf⟩ _ (MC_R ⟨(H.out.fact 2 rfl), (H.out.fact 1 rfl), (H.out.fact 0 rfl)⟩) HLQ.out HFL.out HLR.out).mono ?_; rintro e W65 ⟨q7, rfl, hF, hb⟩; clear cT cP cR cX cM; obtain ⟨A7, k7, rfl⟩ := Kd.R_slice hF; simp only [List.length_map] at hF ⊢; replace H := pr H hb hF; clear hF; clear hb; obtain ⟨-, cT, cP, cR, cX, cM⟩ := n5_ H)
  | (apply sh H 4 53 2 gM (mL id m u b c z s me o a l (.slice A4 L1.length k4) (.slice A5 D.T.length k5) (.slice A7 L1.length k7)); clear H cT cP cR cX cM; intro W66 K_; obtain ⟨H, cT, cP, cR, cX, cM⟩ := n5_ K_; clear K_)
  | (apply sh H 2 53 4 gR (mL id m u b c z s me o a l (.slice A4 L1.length k4) (.slice A5 D.T.length k5) (.slice A7 L1.length k7)); clear H cT cP cR cX cM; intro W67 K_; obtain ⟨H, cT, cP, cR, cX, cM⟩ := n5_ K_; clear K_)
  | (apply sn H 1 61 5 gP (rL 0 nil_ 0 0 0))
 refine bodyPost_ret (jG_ rfl _ _ gR gP 53 61 (mL id m u b c z s me o a l (.slice A4 L1.length k4) (.slice A5 D.T.length k5) (.slice A7 L1.length k7)).toArray (rL 0 nil_ 0 0 0).toArray (0, 0) (0, 0) _ _ rfl (H.out.at_ 2 rfl) Try.underlying53 rfl (by kernel_rfl) rfl (H.out.at_ 1 rfl) Try.underlying61 rfl (by kernel_rfl)) rfl ?_
 exact kl_ rfl ⟨.inr (H.out.fact 3 rfl), .inr (H.out.fact 2 rfl), .inr (H.out.fact 0 rfl)⟩ (vu_ _) H.out.below
theorem mwrite_any (id m u b c z s me o a l : Int) (x y q : Value) (D : Mdl) (kd i p n : Int) (Ad : Option Addr) (kdd : Nat) (d : List Int) (f : Bool) (w : World) (h : MC w x y q D) (hi : MInv id m u b c z s me o a l D) (hd : Kd.C (Kd.int .u8) w Ad d.length d) (hdk : d.length <= kdd) :
  Calls Try.prog 74 #[modV id m u b c z s me o a l x y q, cmdV kd i p n (.slice Ad d.length kdd) f] w (RepP id m u b c z s me o a l x y q D (jM_ id m u b c z s me o a l D i p d f).1 (jM_ id m u b c z s me o a l D i p d f).2 [] z59 w) := by
 by_cases hin : ¬ (0 <= i /\ i < (D.T.length : Int))
 · exact mwrite_a id m u b c z s me o a l x y q D kd i p n Ad kdd d f w h hi hd hdk hin
 have hin := Decidable.not_not.mp hin
 by_cases hal : ¬ (d.length : Int) % b = 0
 · exact mwrite_b id m u b c z s me o a l x y q D kd i p n Ad kdd d f w h hi hd hdk hin hal
 have hal := Decidable.not_not.mp hal
 by_cases he : ¬ (ke_ id m u b c z s me o a l D.L i p ((d.length : Int) / b)).2 = 0
 · exact mwrite_c id m u b c z s me o a l x y q D kd i p n Ad kdd d f w h hi hd hdk hin hal he
 have he := Decidable.not_not.mp he
 cases f
 · exact mwrite_d id m u b c z s me o a l x y q D kd i p n Ad kdd d w h hi hd hdk hin hal he
 · exact mwrite_e id m u b c z s me o a l x y q D kd i p n Ad kdd d w h hi hd hdk hin hal he
end Go.Proofs.Ytgckcaoncjhgbaa
