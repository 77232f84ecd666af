/- model.Do. -/
import Derived.Test.YtgckcaoncjhgbaaMdWrite
import Derived.Test.YtgckcaoncjhgbaaFMr
set_option maxHeartbeats 1000000
set_option maxRecDepth 100000
open Go.Lib (hid)
namespace Go.Proofs.Ytgckcaoncjhgbaa
open Go.RowKit Go.Proofs.Ytgckcaoncjhgbaa.PL Go.Proofs.YtgckcaoncjhgbaaW.PrintWords Go.Proofs.YtgckcaoncjhgbaaW.PrintLast
set_option linter.unusedVariables false
set_option linter.unusedSimpArgs false
attribute [local go_sem] List.getElem?_toArray List.getElem?_cons_succ List.getElem?_cons_zero mL tL cL xL rL oL
def yH_ : Bool × List (List Nat × List Nat) := (true, [([], []), ([], []), ([1], [1]), ([0, 0], [0]), ([2, 3, 0, 1, 2, 3], [2])])
theorem zw_ : rtab .any (kT_ Try.f26 19) = yH_ := by kernel_rfl
theorem zn_ : jO_ yH_.2 [0, 0, 2, 1, 15] = true := by kernel_rfl
theorem mdo_write (id m u b c z s me o a l : Int) (x y q : Value) (D : Mdl) (i p n : Int) (Ad : Option Addr) (kdd : Nat) (d : List Int) (f : Bool) (w : World) (h : MC w x y q D) (hi : MInv id m u b c z s me o a l D) (hd : Kd.C (Kd.int .u8) w Ad d.length d) (hdk : d.length <= kdd) :
  Calls Try.prog 26 #[modV id m u b c z s me o a l x y q, cmdV 0 i p n (.slice Ad d.length kdd) f] w (RepP id m u b c z s me o a l x y q D (doM id m u b c z s me o a l D (⟨0, i, p, n, d, f⟩ : S65)).1 (doM id m u b c z s me o a l D (⟨0, i, p, n, d, f⟩ : S65)).2.1 (kb_ (doM id m u b c z s me o a l D (⟨0, i, p, n, d, f⟩ : S65)).2.2.1) (doM id m u b c z s me o a l D (⟨0, i, p, n, d, f⟩ : S65)).2.2.2 w) := by
 have hi0 := hi
 obtain ⟨A1, A2, A3, n1, n2, n3, k1, k2, k3, rfl, rfl, rfl, hn1, hn2, hn3, hC1, hC2, hC3, hk1, hk2, hk3, hrt, hL1, hLp, hlT, hlS, hcb⟩ := jK_ h hi
 have hb1 := hcb.1
 have hRT := fun W h => ky_ id m u b c z s me o a l A1 k1 D.L W h hk1
 rw [hrt] at hRT
 rw [<- hn1] at hRT
 have HMC := hid h; have HC1 := hid hC1; have HRT := hid hRT
 have H := hid (Pk.start w)
 have HK := hid (fun W (h : MC W (.slice A1 n1 k1) (.slice A2 n2 k2) (.slice A3 n3 k3) D) (hd : Kd.C (Kd.int .u8) W Ad d.length d) => mwrite_any id m u b c z s me o a l (.slice A1 n1 k1) (.slice A2 n2 k2) (.slice A3 n3 k3) D 0 i p n Ad kdd d f W h hi0 hd hdk)
 have HD := hid hd
 clear hRT h hi hi0 hd hdk hrt hcb hlT hlS hn1 hn2 hn3 hk1 hk2 hk3 hC1 hC2 hC3
 go_enter Try.func26, Try.ntmps26
 go_wp2_with first
  | (apply bh H 2 (mL id m u b c z s me o a l (.slice A1 n1 k1) (.slice A2 n2 k2) (.slice A3 n3 k3)) 53; clear H; intro gM W1 H; obtain ⟨-, cM⟩ := n1_ H)
  | (apply bh H 3 (xL 0 i p n (.slice Ad d.length kdd) f) 65; clear H cM; intro gX W2 H; obtain ⟨-, cX, cM⟩ := n2_ H)
  | (apply bh H 4 (mL 0 0 0 0 0 0 0 0 0 0 0 nil_ nil_ nil_) 53; clear H cX cM; intro gR W3 H; obtain ⟨-, cR, cX, cM⟩ := n3_ H)
  | (apply bh H 5 (rL 0 nil_ 0 0 0) 61; clear H cR cX cM; intro gP W4 H; obtain ⟨-, cP, cR, cX, cM⟩ := n4_ H)
  | (go_at_call 21; refine (HRT.out _ (Kd.C_below HC1.out H.out.below)).mono ?_; rintro e W5 ⟨rfl, hb⟩; clear cP cR cX cM; replace H := pc H hb; clear hb; obtain ⟨-, cP, cR, cX, cM⟩ := n4_ H)
  | (go_at_call 74; refine (HK.out _ (kL_ HMC.out H.out.below) (Kd.C_below HD.out H.out.below)).mono ?_; rintro e W6 hP; obtain ⟨B1, m1, j1, B2, m2, j2, B3, m3, j3, B4, m4, j4, rfl, hM, hB, hb⟩ := vC_ hP; clear hP; clear cP cR cX cM; have hl_ := H.out.below.size; replace H := hid (((H.out.called hb).row (MdF w.heap.size (.slice A1 n1 k1) (.slice A2 n2 k2) (.slice A3 n3 k3) D (.slice B1 m1 j1) (.slice B2 m2 j2) (.slice B3 m3 j3) ((jM_ id m u b c z s me o a l D i p d f).1)) (ye_ hM hl_)).row (BytF (.slice B4 m4 j4) []) hB); clear hb hM hB hl_; obtain ⟨-, cP, cR, cX, cM⟩ := n4_ H)
  | (apply sh H 1 53 4 gR (mL id m u b c z s me o a l (.slice B1 m1 j1) (.slice B2 m2 j2) (.slice B3 m3 j3)); clear H cP cR cX cM; intro W7 K_; obtain ⟨H, cP, cR, cX, cM⟩ := n4_ K_; clear K_)
  | (apply sh H 0 61 5 gP (rL ((jM_ id m u b c z s me o a l D i p d f).2) (.slice B4 m4 j4) 0 0 0); clear H cP cR cX cM; intro W8 K_; obtain ⟨H, cP, cR, cX, cM⟩ := n4_ K_; clear K_)
 refine bodyPost_ret (jG_ rfl _ _ gR gP 53 61 (mL id m u b c z s me o a l (.slice B1 m1 j1) (.slice B2 m2 j2) (.slice B3 m3 j3)).toArray (rL ((jM_ id m u b c z s me o a l D i p d f).2) (.slice B4 m4 j4) 0 0 0).toArray (0, 0) (0, 0) _ _ rfl (H.out.at_ 1 rfl) Try.underlying53 rfl (by kernel_rfl) rfl (H.out.at_ 0 rfl) Try.underlying61 rfl (by kernel_rfl)) rfl ?_
 exact kl_ rfl (H.out.fact 1 rfl) (H.out.fact 0 rfl) H.out.below
theorem mdo_read (id m u b c z s me o a l : Int) (x y q : Value) (D : Mdl) (i p n : Int) (Ad : Option Addr) (kdd : Nat) (d : List Int) (f : Bool) (w : World) (h : MC w x y q D) (hi : MInv id m u b c z s me o a l D) (hd : Kd.C (Kd.int .u8) w Ad d.length d) (hdk : d.length <= kdd) :
  Calls Try.prog 26 #[modV id m u b c z s me o a l x y q, cmdV 1 i p n (.slice Ad d.length kdd) f] w (RepP id m u b c z s me o a l x y q D (doM id m u b c z s me o a l D (⟨1, i, p, n, d, f⟩ : S65)).1 (doM id m u b c z s me o a l D (⟨1, i, p, n, d, f⟩ : S65)).2.1 (kb_ (doM id m u b c z s me o a l D (⟨1, i, p, n, d, f⟩ : S65)).2.2.1) (doM id m u b c z s me o a l D (⟨1, i, p, n, d, f⟩ : S65)).2.2.2 w) := by
 have hi0 := hi
 obtain ⟨A1, A2, A3, n1, n2, n3, k1, k2, k3, rfl, rfl, rfl, hn1, hn2, hn3, hC1, hC2, hC3, hk1, hk2, hk3, hrt, hL1, hLp, hlT, hlS, hcb⟩ := jK_ h hi
 have hb1 := hcb.1
 have hRT := fun W h => ky_ id m u b c z s me o a l A1 k1 D.L W h hk1
 rw [hrt] at hRT
 rw [<- hn1] at hRT
 have HMC := hid h; have HC1 := hid hC1; have HRT := hid hRT
 have H := hid (Pk.start w)
 have HK := hid (fun W (h : MC W (.slice A1 n1 k1) (.slice A2 n2 k2) (.slice A3 n3 k3) D) (hd : Kd.C (Kd.int .u8) W Ad d.length d) => mread_any id m u b c z s me o a l (.slice A1 n1 k1) (.slice A2 n2 k2) (.slice A3 n3 k3) D 1 i p n Ad d.length kdd f W h hi0)
 have HD := hid hd
 clear hRT h hi hi0 hd hdk hrt hcb hlT hlS hn1 hn2 hn3 hk1 hk2 hk3 hC1 hC2 hC3
 go_enter Try.func26, Try.ntmps26
 go_wp2_with first
  | (apply bh H 2 (mL id m u b c z s me o a l (.slice A1 n1 k1) (.slice A2 n2 k2) (.slice A3 n3 k3)) 53; clear H; intro gM W1 H; obtain ⟨-, cM⟩ := n1_ H)
  | (apply bh H 3 (xL 1 i p n (.slice Ad d.length kdd) f) 65; clear H cM; intro gX W2 H; obtain ⟨-, cX, cM⟩ := n2_ H)
  | (apply bh H 4 (mL 0 0 0 0 0 0 0 0 0 0 0 nil_ nil_ nil_) 53; clear H cX cM; intro gR W3 H; obtain ⟨-, cR, cX, cM⟩ := n3_ H)
  | (apply bh H 5 (rL 0 nil_ 0 0 0) 61; clear H cR cX cM; intro gP W4 H; obtain ⟨-, cP, cR, cX, cM⟩ := n4_ H)
  | (go_at_call 21; refine (HRT.out _ (Kd.C_below HC1.out H.out.below)).mono ?_; rintro e W5 ⟨rfl, hb⟩; clear cP cR cX cM; replace H := pc H hb; clear hb; obtain ⟨-, cP, cR, cX, cM⟩ := n4_ H)
  | (go_at_call 75; refine (HK.out _ (kL_ HMC.out H.out.below) (Kd.C_below HD.out H.out.below)).mono ?_; rintro e W6 hP; obtain ⟨B1, m1, j1, B2, m2, j2, B3, m3, j3, B4, m4, j4, rfl, hM, hB, hb⟩ := vC_ hP; clear hP; clear cP cR cX cM; have hl_ := H.out.below.size; replace H := hid (((H.out.called hb).row (MdF w.heap.size (.slice A1 n1 k1) (.slice A2 n2 k2) (.slice A3 n3 k3) D (.slice B1 m1 j1) (.slice B2 m2 j2) (.slice B3 m3 j3) (D)) (ye_ hM hl_)).row (BytF (.slice B4 m4 j4) (kb_ (vY_ id m u b c z s me o a l D i p n).2)) hB); clear hb hM hB hl_; obtain ⟨-, cP, cR, cX, cM⟩ := n4_ H)
  | (apply sh H 1 53 4 gR (mL id m u b c z s me o a l (.slice B1 m1 j1) (.slice B2 m2 j2) (.slice B3 m3 j3)); clear H cP cR cX cM; intro W7 K_; obtain ⟨H, cP, cR, cX, cM⟩ := n4_ K_; clear K_)
  | (apply sh H 0 61 5 gP (rL ((vY_ id m u b c z s me o a l D i p n).1) (.slice B4 m4 j4) 0 0 0); clear H cP cR cX cM; intro W8 K_; obtain ⟨H, cP, cR, cX, cM⟩ := n4_ K_; clear K_)
 refine bodyPost_ret (jG_ rfl _ _ gR gP 53 61 (mL id m u b c z s me o a l (.slice B1 m1 j1) (.slice B2 m2 j2) (.slice B3 m3 j3)).toArray (rL ((vY_ id m u b c z s me o a l D i p n).1) (.slice B4 m4 j4) 0 0 0).toArray (0, 0) (0, 0) _ _ rfl (H.out.at_ 1 rfl) Try.underlying53 rfl (by kernel_rfl) rfl (H.out.at_ 0 rfl) Try.underlying61 rfl (by kernel_rfl)) rfl ?_
 exact kl_ rfl (H.out.fact 1 rfl) (H.out.fact 0 rfl) H.out.below
theorem mdo_reset (id m u b c z s me o a l : Int) (x y q : Value) (D : Mdl) (i p n : Int) (Ad : Option Addr) (kdd : Nat) (d : List Int) (f : Bool) (w : World) (h : MC w x y q D) (hi : MInv id m u b c z s me o a l D) (hd : Kd.C (Kd.int .u8) w Ad d.length d) (hdk : d.length <= kdd) :
  Calls Try.prog 26 #[modV id m u b c z s me o a l x y q, cmdV 3 i p n (.slice Ad d.length kdd) f] w (RepP id m u b c z s me o a l x y q D (doM id m u b c z s me o a l D (⟨3, i, p, n, d, f⟩ : S65)).1 (doM id m u b c z s me o a l D (⟨3, i, p, n, d, f⟩ : S65)).2.1 (kb_ (doM id m u b c z s me o a l D (⟨3, i, p, n, d, f⟩ : S65)).2.2.1) (doM id m u b c z s me o a l D (⟨3, i, p, n, d, f⟩ : S65)).2.2.2 w) := by
 have hi0 := hi
 obtain ⟨A1, A2, A3, n1, n2, n3, k1, k2, k3, rfl, rfl, rfl, hn1, hn2, hn3, hC1, hC2, hC3, hk1, hk2, hk3, hrt, hL1, hLp, hlT, hlS, hcb⟩ := jK_ h hi
 have hb1 := hcb.1
 have hRT := fun W h => ky_ id m u b c z s me o a l A1 k1 D.L W h hk1
 rw [hrt] at hRT
 rw [<- hn1] at hRT
 have HMC := hid h; have HC1 := hid hC1; have HRT := hid hRT
 have H := hid (Pk.start w)
 have HK := hid (fun W (h : MC W (.slice A1 n1 k1) (.slice A2 n2 k2) (.slice A3 n3 k3) D) (hd : Kd.C (Kd.int .u8) W Ad d.length d) => mreset_any id m u b c z s me o a l (.slice A1 n1 k1) (.slice A2 n2 k2) (.slice A3 n3 k3) D i p n Ad d.length kdd f W h hi0)
 have HD := hid hd
 clear hRT h hi hi0 hd hdk hrt hcb hlT hlS hn1 hn2 hn3 hk1 hk2 hk3 hC1 hC2 hC3
 go_enter Try.func26, Try.ntmps26
 go_wp2_with first
  | (apply bh H 2 (mL id m u b c z s me o a l (.slice A1 n1 k1) (.slice A2 n2 k2) (.slice A3 n3 k3)) 53; clear H; intro gM W1 H; obtain ⟨-, cM⟩ := n1_ H)
  | (apply bh H 3 (xL 3 i p n (.slice Ad d.length kdd) f) 65; clear H cM; intro gX W2 H; obtain ⟨-, cX, cM⟩ := n2_ H)
  | (apply bh H 4 (mL 0 0 0 0 0 0 0 0 0 0 0 nil_ nil_ nil_) 53; clear H cX cM; intro gR W3 H; obtain ⟨-, cR, cX, cM⟩ := n3_ H)
  | (apply bh H 5 (rL 0 nil_ 0 0 0) 61; clear H cR cX cM; intro gP W4 H; obtain ⟨-, cP, cR, cX, cM⟩ := n4_ H)
  | (go_at_call 21; refine (HRT.out _ (Kd.C_below HC1.out H.out.below)).mono ?_; rintro e W5 ⟨rfl, hb⟩; clear cP cR cX cM; replace H := pc H hb; clear hb; obtain ⟨-, cP, cR, cX, cM⟩ := n4_ H)
  | (go_at_call 77; refine (HK.out _ (kL_ HMC.out H.out.below) (Kd.C_below HD.out H.out.below)).mono ?_; rintro e W6 hP; obtain ⟨B1, m1, j1, B2, m2, j2, B3, m3, j3, B4, m4, j4, rfl, hM, hB, hb⟩ := vC_ hP; clear hP; clear cP cR cX cM; have hl_ := H.out.below.size; replace H := hid (((H.out.called hb).row (MdF w.heap.size (.slice A1 n1 k1) (.slice A2 n2 k2) (.slice A3 n3 k3) D (.slice B1 m1 j1) (.slice B2 m2 j2) (.slice B3 m3 j3) ((jr_ D 3 i (jT_ id m u b c z s me o a l D.L i)).1)) (ye_ hM hl_)).row (BytF (.slice B4 m4 j4) []) hB); clear hb hM hB hl_; obtain ⟨-, cP, cR, cX, cM⟩ := n4_ H)
  | (apply sh H 1 53 4 gR (mL id m u b c z s me o a l (.slice B1 m1 j1) (.slice B2 m2 j2) (.slice B3 m3 j3)); clear H cP cR cX cM; intro W7 K_; obtain ⟨H, cP, cR, cX, cM⟩ := n4_ K_; clear K_)
  | (apply sh H 0 61 5 gP (rL ((jr_ D 3 i (jT_ id m u b c z s me o a l D.L i)).2) (.slice B4 m4 j4) 0 0 0); clear H cP cR cX cM; intro W8 K_; obtain ⟨H, cP, cR, cX, cM⟩ := n4_ K_; clear K_)
 refine bodyPost_ret (jG_ rfl _ _ gR gP 53 61 (mL id m u b c z s me o a l (.slice B1 m1 j1) (.slice B2 m2 j2) (.slice B3 m3 j3)).toArray (rL ((jr_ D 3 i (jT_ id m u b c z s me o a l D.L i)).2) (.slice B4 m4 j4) 0 0 0).toArray (0, 0) (0, 0) _ _ rfl (H.out.at_ 1 rfl) Try.underlying53 rfl (by kernel_rfl) rfl (H.out.at_ 0 rfl) Try.underlying61 rfl (by kernel_rfl)) rfl ?_
 exact kl_ rfl (H.out.fact 1 rfl) (H.out.fact 0 rfl) H.out.below
theorem mdo_finish (id m u b c z s me o a l : Int) (x y q : Value) (D : Mdl) (i p n : Int) (Ad : Option Addr) (kdd : Nat) (d : List Int) (f : Bool) (w : World) (h : MC w x y q D) (hi : MInv id m u b c z s me o a l D) (hd : Kd.C (Kd.int .u8) w Ad d.length d) (hdk : d.length <= kdd) :
  Calls Try.prog 26 #[modV id m u b c z s me o a l x y q, cmdV 4 i p n (.slice Ad d.length kdd) f] w (RepP id m u b c z s me o a l x y q D (doM id m u b c z s me o a l D (⟨4, i, p, n, d, f⟩ : S65)).1 (doM id m u b c z s me o a l D (⟨4, i, p, n, d, f⟩ : S65)).2.1 (kb_ (doM id m u b c z s me o a l D (⟨4, i, p, n, d, f⟩ : S65)).2.2.1) (doM id m u b c z s me o a l D (⟨4, i, p, n, d, f⟩ : S65)).2.2.2 w) := by
 have hi0 := hi
 obtain ⟨A1, A2, A3, n1, n2, n3, k1, k2, k3, rfl, rfl, rfl, hn1, hn2, hn3, hC1, hC2, hC3, hk1, hk2, hk3, hrt, hL1, hLp, hlT, hlS, hcb⟩ := jK_ h hi
 have hb1 := hcb.1
 have hRT := fun W h => ky_ id m u b c z s me o a l A1 k1 D.L W h hk1
 rw [hrt] at hRT
 rw [<- hn1] at hRT
 have HMC := hid h; have HC1 := hid hC1; have HRT := hid hRT
 have H := hid (Pk.start w)
 have HK := hid (fun W (h : MC W (.slice A1 n1 k1) (.slice A2 n2 k2) (.slice A3 n3 k3) D) (hd : Kd.C (Kd.int .u8) W Ad d.length d) => mfinish_any id m u b c z s me o a l (.slice A1 n1 k1) (.slice A2 n2 k2) (.slice A3 n3 k3) D i p n Ad d.length kdd f W h hi0)
 have HD := hid hd
 clear hRT h hi hi0 hd hdk hrt hcb hlT hlS hn1 hn2 hn3 hk1 hk2 hk3 hC1 hC2 hC3
 go_enter Try.func26, Try.ntmps26
 go_wp2_with first
  | (apply bh H 2 (mL id m u b c z s me o a l (.slice A1 n1 k1) (.slice A2 n2 k2) (.slice A3 n3 k3)) 53; clear H; intro gM W1 H; obtain ⟨-, cM⟩ := n1_ H)
  | (apply bh H 3 (xL 4 i p n (.slice Ad d.length kdd) f) 65; clear H cM; intro gX W2 H; obtain ⟨-, cX, cM⟩ := n2_ H)
  | (apply bh H 4 (mL 0 0 0 0 0 0 0 0 0 0 0 nil_ nil_ nil_) 53; clear H cX cM; intro gR W3 H; obtain ⟨-, cR, cX, cM⟩ := n3_ H)
  | (apply bh H 5 (rL 0 nil_ 0 0 0) 61; clear H cR cX cM; intro gP W4 H; obtain ⟨-, cP, cR, cX, cM⟩ := n4_ H)
  | (go_at_call 21; refine (HRT.out _ (Kd.C_below HC1.out H.out.below)).mono ?_; rintro e W5 ⟨rfl, hb⟩; clear cP cR cX cM; replace H := pc H hb; clear hb; obtain ⟨-, cP, cR, cX, cM⟩ := n4_ H)
  | (go_at_call 77; refine (HK.out _ (kL_ HMC.out H.out.below) (Kd.C_below HD.out H.out.below)).mono ?_; rintro e W6 hP; obtain ⟨B1, m1, j1, B2, m2, j2, B3, m3, j3, B4, m4, j4, rfl, hM, hB, hb⟩ := vC_ hP; clear hP; clear cP cR cX cM; have hl_ := H.out.below.size; replace H := hid (((H.out.called hb).row (MdF w.heap.size (.slice A1 n1 k1) (.slice A2 n2 k2) (.slice A3 n3 k3) D (.slice B1 m1 j1) (.slice B2 m2 j2) (.slice B3 m3 j3) ((jr_ D 4 i (jL_ id m u b c z s me o a l D.L i)).1)) (ye_ hM hl_)).row (BytF (.slice B4 m4 j4) []) hB); clear hb hM hB hl_; obtain ⟨-, cP, cR, cX, cM⟩ := n4_ H)
  | (apply sh H 1 53 4 gR (mL id m u b c z s me o a l (.slice B1 m1 j1) (.slice B2 m2 j2) (.slice B3 m3 j3)); clear H cP cR cX cM; intro W7 K_; obtain ⟨H, cP, cR, cX, cM⟩ := n4_ K_; clear K_)
  | (apply sh H 0 61 5 gP (rL ((jr_ D 4 i (jL_ id m u b c z s me o a l D.L i)).2) (.slice B4 m4 j4) 0 0 0); clear H cP cR cX cM; intro W8 K_; obtain ⟨H, cP, cR, cX, cM⟩ := n4_ K_; clear K_)
 refine bodyPost_ret (jG_ rfl _ _ gR gP 53 61 (mL id m u b c z s me o a l (.slice B1 m1 j1) (.slice B2 m2 j2) (.slice B3 m3 j3)).toArray (rL ((jr_ D 4 i (jL_ id m u b c z s me o a l D.L i)).2) (.slice B4 m4 j4) 0 0 0).toArray (0, 0) (0, 0) _ _ rfl (H.out.at_ 1 rfl) Try.underlying53 rfl (by kernel_rfl) rfl (H.out.at_ 0 rfl) Try.underlying61 rfl (by kernel_rfl)) rfl ?_
 exact kl_ rfl (H.out.fact 1 rfl) (H.out.fact 0 rfl) H.out.below
theorem mdo_open (id m u b c z s me o a l : Int) (x y q : Value) (D : Mdl) (i p n : Int) (Ad : Option Addr) (kdd : Nat) (d : List Int) (f : Bool) (w : World) (h : MC w x y q D) (hi : MInv id m u b c z s me o a l D) (hd : Kd.C (Kd.int .u8) w Ad d.length d) (hdk : d.length <= kdd) :
  Calls Try.prog 26 #[modV id m u b c z s me o a l x y q, cmdV 5 i p n (.slice Ad d.length kdd) f] w (RepP id m u b c z s me o a l x y q D (doM id m u b c z s me o a l D (⟨5, i, p, n, d, f⟩ : S65)).1 (doM id m u b c z s me o a l D (⟨5, i, p, n, d, f⟩ : S65)).2.1 (kb_ (doM id m u b c z s me o a l D (⟨5, i, p, n, d, f⟩ : S65)).2.2.1) (doM id m u b c z s me o a l D (⟨5, i, p, n, d, f⟩ : S65)).2.2.2 w) := by
 have hi0 := hi
 obtain ⟨A1, A2, A3, n1, n2, n3, k1, k2, k3, rfl, rfl, rfl, hn1, hn2, hn3, hC1, hC2, hC3, hk1, hk2, hk3, hrt, hL1, hLp, hlT, hlS, hcb⟩ := jK_ h hi
 have hb1 := hcb.1
 have hRT := fun W h => ky_ id m u b c z s me o a l A1 k1 D.L W h hk1
 rw [hrt] at hRT
 rw [<- hn1] at hRT
 have HMC := hid h; have HC1 := hid hC1; have HRT := hid hRT
 have H := hid (Pk.start w)
 have HK := hid (fun W (h : MC W (.slice A1 n1 k1) (.slice A2 n2 k2) (.slice A3 n3 k3) D) (hd : Kd.C (Kd.int .u8) W Ad d.length d) => mopen_any id m u b c z s me o a l (.slice A1 n1 k1) (.slice A2 n2 k2) (.slice A3 n3 k3) D i p n Ad d.length kdd f W h hi0)
 have HD := hid hd
 clear hRT h hi hi0 hd hdk hrt hcb hlT hlS hn1 hn2 hn3 hk1 hk2 hk3 hC1 hC2 hC3
 go_enter Try.func26, Try.ntmps26
 go_wp2_with first
  | (apply bh H 2 (mL id m u b c z s me o a l (.slice A1 n1 k1) (.slice A2 n2 k2) (.slice A3 n3 k3)) 53; clear H; intro gM W1 H; obtain ⟨-, cM⟩ := n1_ H)
  | (apply bh H 3 (xL 5 i p n (.slice Ad d.length kdd) f) 65; clear H cM; intro gX W2 H; obtain ⟨-, cX, cM⟩ := n2_ H)
  | (apply bh H 4 (mL 0 0 0 0 0 0 0 0 0 0 0 nil_ nil_ nil_) 53; clear H cX cM; intro gR W3 H; obtain ⟨-, cR, cX, cM⟩ := n3_ H)
  | (apply bh H 5 (rL 0 nil_ 0 0 0) 61; clear H cR cX cM; intro gP W4 H; obtain ⟨-, cP, cR, cX, cM⟩ := n4_ H)
  | (go_at_call 21; refine (HRT.out _ (Kd.C_below HC1.out H.out.below)).mono ?_; rintro e W5 ⟨rfl, hb⟩; clear cP cR cX cM; replace H := pc H hb; clear hb; obtain ⟨-, cP, cR, cX, cM⟩ := n4_ H)
  | (go_at_call 77; refine (HK.out _ (kL_ HMC.out H.out.below) (Kd.C_below HD.out H.out.below)).mono ?_; rintro e W6 hP; obtain ⟨B1, m1, j1, B2, m2, j2, B3, m3, j3, B4, m4, j4, rfl, hM, hB, hb⟩ := vC_ hP; clear hP; clear cP cR cX cM; have hl_ := H.out.below.size; replace H := hid (((H.out.called hb).row (MdF w.heap.size (.slice A1 n1 k1) (.slice A2 n2 k2) (.slice A3 n3 k3) D (.slice B1 m1 j1) (.slice B2 m2 j2) (.slice B3 m3 j3) ((jr_ D 5 i (kv_ id m u b c z s me o a l D.L i)).1)) (ye_ hM hl_)).row (BytF (.slice B4 m4 j4) []) hB); clear hb hM hB hl_; obtain ⟨-, cP, cR, cX, cM⟩ := n4_ H)
  | (apply sh H 1 53 4 gR (mL id m u b c z s me o a l (.slice B1 m1 j1) (.slice B2 m2 j2) (.slice B3 m3 j3)); clear H cP cR cX cM; intro W7 K_; obtain ⟨H, cP, cR, cX, cM⟩ := n4_ K_; clear K_)
  | (apply sh H 0 61 5 gP (rL ((jr_ D 5 i (kv_ id m u b c z s me o a l D.L i)).2) (.slice B4 m4 j4) 0 0 0); clear H cP cR cX cM; intro W8 K_; obtain ⟨H, cP, cR, cX, cM⟩ := n4_ K_; clear K_)
 refine bodyPost_ret (jG_ rfl _ _ gR gP 53 61 (mL id m u b c z s me o a l (.slice B1 m1 j1) (.slice B2 m2 j2) (.slice B3 m3 j3)).toArray (rL ((jr_ D 5 i (kv_ id m u b c z s me o a l D.L i)).2) (.slice B4 m4 j4) 0 0 0).toArray (0, 0) (0, 0) _ _ rfl (H.out.at_ 1 rfl) Try.underlying53 rfl (by kernel_rfl) rfl (H.out.at_ 0 rfl) Try.underlying61 rfl (by kernel_rfl)) rfl ?_
 exact kl_ rfl (H.out.fact 1 rfl) (H.out.fact 0 rfl) H.out.below
theorem mdo_close (id m u b c z s me o a l : Int) (x y q : Value) (D : Mdl) (i p n : Int) (Ad : Option Addr) (kdd : Nat) (d : List Int) (f : Bool) (w : World) (h : MC w x y q D) (hi : MInv id m u b c z s me o a l D) (hd : Kd.C (Kd.int .u8) w Ad d.length d) (hdk : d.length <= kdd) :
  Calls Try.prog 26 #[modV id m u b c z s me o a l x y q, cmdV 6 i p n (.slice Ad d.length kdd) f] w (RepP id m u b c z s me o a l x y q D (doM id m u b c z s me o a l D (⟨6, i, p, n, d, f⟩ : S65)).1 (doM id m u b c z s me o a l D (⟨6, i, p, n, d, f⟩ : S65)).2.1 (kb_ (doM id m u b c z s me o a l D (⟨6, i, p, n, d, f⟩ : S65)).2.2.1) (doM id m u b c z s me o a l D (⟨6, i, p, n, d, f⟩ : S65)).2.2.2 w) := by
 have hi0 := hi
 obtain ⟨A1, A2, A3, n1, n2, n3, k1, k2, k3, rfl, rfl, rfl, hn1, hn2, hn3, hC1, hC2, hC3, hk1, hk2, hk3, hrt, hL1, hLp, hlT, hlS, hcb⟩ := jK_ h hi
 have hb1 := hcb.1
 have hRT := fun W h => ky_ id m u b c z s me o a l A1 k1 D.L W h hk1
 rw [hrt] at hRT
 rw [<- hn1] at hRT
 have HMC := hid h; have HC1 := hid hC1; have HRT := hid hRT
 have H := hid (Pk.start w)
 have HK := hid (fun W (h : MC W (.slice A1 n1 k1) (.slice A2 n2 k2) (.slice A3 n3 k3) D) (hd : Kd.C (Kd.int .u8) W Ad d.length d) => mclose_any id m u b c z s me o a l (.slice A1 n1 k1) (.slice A2 n2 k2) (.slice A3 n3 k3) D i p n Ad d.length kdd f W h hi0)
 have HD := hid hd
 clear hRT h hi hi0 hd hdk hrt hcb hlT hlS hn1 hn2 hn3 hk1 hk2 hk3 hC1 hC2 hC3
 go_enter Try.func26, Try.ntmps26
 go_wp2_with first
  | (apply bh H 2 (mL id m u b c z s me o a l (.slice A1 n1 k1) (.slice A2 n2 k2) (.slice A3 n3 k3)) 53; clear H; intro gM W1 H; obtain ⟨-, cM⟩ := n1_ H)
  | (apply bh H 3 (xL 6 i p n (.slice Ad d.length kdd) f) 65; clear H cM; intro gX W2 H; obtain ⟨-, cX, cM⟩ := n2_ H)
  | (apply bh H 4 (mL 0 0 0 0 0 0 0 0 0 0 0 nil_ nil_ nil_) 53; clear H cX cM; intro gR W3 H; obtain ⟨-, cR, cX, cM⟩ := n3_ H)
  | (apply bh H 5 (rL 0 nil_ 0 0 0) 61; clear H cR cX cM; intro gP W4 H; obtain ⟨-, cP, cR, cX, cM⟩ := n4_ H)
  | (go_at_call 21; refine (HRT.out _ (Kd.C_below HC1.out H.out.below)).mono ?_; rintro e W5 ⟨rfl, hb⟩; clear cP cR cX cM; replace H := pc H hb; clear hb; obtain ⟨-, cP, cR, cX, cM⟩ := n4_ H)
  | (go_at_call 77; refine (HK.out _ (kL_ HMC.out H.out.below) (Kd.C_below HD.out H.out.below)).mono ?_; rintro e W6 hP; obtain ⟨B1, m1, j1, B2, m2, j2, B3, m3, j3, B4, m4, j4, rfl, hM, hB, hb⟩ := vC_ hP; clear hP; clear cP cR cX cM; have hl_ := H.out.below.size; replace H := hid (((H.out.called hb).row (MdF w.heap.size (.slice A1 n1 k1) (.slice A2 n2 k2) (.slice A3 n3 k3) D (.slice B1 m1 j1) (.slice B2 m2 j2) (.slice B3 m3 j3) ((jr_ D 6 i (jV_ id m u b c z s me o a l D.L i)).1)) (ye_ hM hl_)).row (BytF (.slice B4 m4 j4) []) hB); clear hb hM hB hl_; obtain ⟨-, cP, cR, cX, cM⟩ := n4_ H)
  | (apply sh H 1 53 4 gR (mL id m u b c z s me o a l (.slice B1 m1 j1) (.slice B2 m2 j2) (.slice B3 m3 j3)); clear H cP cR cX cM; intro W7 K_; obtain ⟨H, cP, cR, cX, cM⟩ := n4_ K_; clear K_)
  | (apply sh H 0 61 5 gP (rL ((jr_ D 6 i (jV_ id m u b c z s me o a l D.L i)).2) (.slice B4 m4 j4) 0 0 0); clear H cP cR cX cM; intro W8 K_; obtain ⟨H, cP, cR, cX, cM⟩ := n4_ K_; clear K_)
 refine bodyPost_ret (jG_ rfl _ _ gR gP 53 61 (mL id m u b c z s me o a l (.slice B1 m1 j1) (.slice B2 m2 j2) (.slice B3 m3 j3)).toArray (rL ((jr_ D 6 i (jV_ id m u b c z s me o a l D.L i)).2) (.slice B4 m4 j4) 0 0 0).toArray (0, 0) (0, 0) _ _ rfl (H.out.at_ 1 rfl) Try.underlying53 rfl (by kernel_rfl) rfl (H.out.at_ 0 rfl) Try.underlying61 rfl (by kernel_rfl)) rfl ?_
 exact kl_ rfl (H.out.fact 1 rfl) (H.out.fact 0 rfl) H.out.below
theorem mdo_flush (id m u b c z s me o a l : Int) (x y q : Value) (D : Mdl) (i p n : Int) (Ad : Option Addr) (kdd : Nat) (d : List Int) (f : Bool) (w : World) (h : MC w x y q D) (hi : MInv id m u b c z s me o a l D) (hd : Kd.C (Kd.int .u8) w Ad d.length d) (hdk : d.length <= kdd) :
  Calls Try.prog 26 #[modV id m u b c z s me o a l x y q, cmdV 2 i p n (.slice Ad d.length kdd) f] w (RepP id m u b c z s me o a l x y q D (doM id m u b c z s me o a l D (⟨2, i, p, n, d, f⟩ : S65)).1 (doM id m u b c z s me o a l D (⟨2, i, p, n, d, f⟩ : S65)).2.1 (kb_ (doM id m u b c z s me o a l D (⟨2, i, p, n, d, f⟩ : S65)).2.2.1) (doM id m u b c z s me o a l D (⟨2, i, p, n, d, f⟩ : S65)).2.2.2 w) := by
 have hi0 := hi
 obtain ⟨A1, A2, A3, n1, n2, n3, k1, k2, k3, rfl, rfl, rfl, hn1, hn2, hn3, hC1, hC2, hC3, hk1, hk2, hk3, hrt, hL1, hLp, hlT, hlS, hcb⟩ := jK_ h hi
 have hb1 := hcb.1
 have hRT := fun W h => ky_ id m u b c z s me o a l A1 k1 D.L W h hk1
 rw [hrt] at hRT
 rw [<- hn1] at hRT
 have HMC := hid h; have HC1 := hid hC1; have HRT := hid hRT
 have H := hid (Pk.start w)
 have HFI := hid (fun W h => yn_ id m u b c z s me o a l (.slice A1 n1 k1) (.slice A2 n2 k2) (.slice A3 n3 k3) D W h (by omega) (by omega) (by omega))
 clear hRT h hi hi0 hd hdk hrt hcb hlT hlS hn1 hn2 hn3 hk1 hk2 hk3 hC1 hC2 hC3
 go_enter Try.func26, Try.ntmps26
 go_wp2_with first
  | (apply bh H 2 (mL id m u b c z s me o a l (.slice A1 n1 k1) (.slice A2 n2 k2) (.slice A3 n3 k3)) 53; clear H; intro gM W1 H; obtain ⟨-, cM⟩ := n1_ H)
  | (apply bh H 3 (xL 2 i p n (.slice Ad d.length kdd) f) 65; clear H cM; intro gX W2 H; obtain ⟨-, cX, cM⟩ := n2_ H)
  | (apply bh H 4 (mL 0 0 0 0 0 0 0 0 0 0 0 nil_ nil_ nil_) 53; clear H cX cM; intro gR W3 H; obtain ⟨-, cR, cX, cM⟩ := n3_ H)
  | (apply bh H 5 (rL 0 nil_ 0 0 0) 61; clear H cR cX cM; intro gP W4 H; obtain ⟨-, cP, cR, cX, cM⟩ := n4_ H)
  | (go_at_call 21; refine (HRT.out _ (Kd.C_below HC1.out H.out.below)).mono ?_; rintro e W5 ⟨rfl, hb⟩; clear cP cR cX cM; replace H := pc H hb; clear hb; obtain ⟨-, cP, cR, cX, cM⟩ := n4_ H)
  | (go_at_call 76; refine (HFI.out _ (kL_ HMC.out H.out.below)).mono ?_; rintro e W6 ⟨q7, rfl, hF, hb⟩; clear cP cR cX cM; obtain ⟨A7, k7, rfl⟩ := Kd.R_slice hF; simp only [List.length_map] at hF ⊢; replace H := pr H hb hF; clear hF; clear hb; obtain ⟨-, cP, cR, cX, cM⟩ := n4_ H)
  | (apply sh H 1 53 4 gR (mL id m u b c z s me o a l (.slice A1 n1 k1) (.slice A2 n2 k2) (.slice A7 D.L.length k7)); clear H cP cR cX cM; intro W7 K_; obtain ⟨H, cP, cR, cX, cM⟩ := n4_ K_; clear K_)
  | (apply sn H 0 61 5 gP (rL 0 nil_ 0 0 0))
 refine bodyPost_ret (jG_ rfl _ _ gR gP 53 61 (mL id m u b c z s me o a l (.slice A1 n1 k1) (.slice A2 n2 k2) (.slice A7 D.L.length k7)).toArray (rL 0 nil_ 0 0 0).toArray (0, 0) (0, 0) _ _ rfl (H.out.at_ 1 rfl) Try.underlying53 rfl (by kernel_rfl) rfl (H.out.at_ 0 rfl) Try.underlying61 rfl (by kernel_rfl)) rfl ?_
 exact kl_ rfl ⟨kd_, kd_, .inr (H.out.fact 0 rfl)⟩ (vu_ _) H.out.below
theorem mdo_zone (id m u b c z s me o a l : Int) (x y q : Value) (D : Mdl) (i p n : Int) (Ad : Option Addr) (kdd : Nat) (d : List Int) (f : Bool) (w : World) (h : MC w x y q D) (hi : MInv id m u b c z s me o a l D) (hd : Kd.C (Kd.int .u8) w Ad d.length d) (hdk : d.length <= kdd) (hin : 0 <= i /\ i < (D.T.length : Int)) :
  Calls Try.prog 26 #[modV id m u b c z s me o a l x y q, cmdV 7 i p n (.slice Ad d.length kdd) f] w (RepP id m u b c z s me o a l x y q D (doM id m u b c z s me o a l D (⟨7, i, p, n, d, f⟩ : S65)).1 (doM id m u b c z s me o a l D (⟨7, i, p, n, d, f⟩ : S65)).2.1 (kb_ (doM id m u b c z s me o a l D (⟨7, i, p, n, d, f⟩ : S65)).2.2.1) (doM id m u b c z s me o a l D (⟨7, i, p, n, d, f⟩ : S65)).2.2.2 w) := by
 have hi0 := hi
 obtain ⟨A1, A2, A3, n1, n2, n3, k1, k2, k3, rfl, rfl, rfl, hn1, hn2, hn3, hC1, hC2, hC3, hk1, hk2, hk3, hrt, hL1, hLp, hlT, hlS, hcb⟩ := jK_ h hi
 have hb1 := hcb.1
 have hRT := fun W h => ky_ id m u b c z s me o a l A1 k1 D.L W h hk1
 rw [hrt] at hRT
 rw [<- hn1] at hRT
 have HMC := hid h; have HC1 := hid hC1; have HRT := hid hRT
 have H := hid (Pk.start w)
 have hz := fun W h => mzone_any id m u b c z s me o a l (.slice A1 n1 k1) (.slice A2 n2 k2) (.slice A3 n3 k3) D i W h (by omega)
 rw [if_pos hin, decide_eq_true hin] at hz
 have HZ := hid hz
 have hv : doM id m u b c z s me o a l D ⟨7, i, p, n, d, f⟩ = (D, 0, ByteArray.empty, jl_ D.L i) := by show (if 0 <= i /\ i < (D.T.length : Int) then _ else _) = _; rw [if_pos hin]
 have HV := hid hv
 clear hRT h hi hi0 hd hdk hrt hcb hlT hlS hn1 hn2 hn3 hk1 hk2 hk3 hC1 hC2 hC3 hz hv hin
 go_enter Try.func26, Try.ntmps26
 go_wp2_with first
  | (apply bh H 2 (mL id m u b c z s me o a l (.slice A1 n1 k1) (.slice A2 n2 k2) (.slice A3 n3 k3)) 53; clear H; intro gM W1 H; obtain ⟨-, cM⟩ := n1_ H)
  | (apply bh H 3 (xL 7 i p n (.slice Ad d.length kdd) f) 65; clear H cM; intro gX W2 H; obtain ⟨-, cX, cM⟩ := n2_ H)
  | (apply bh H 4 (mL 0 0 0 0 0 0 0 0 0 0 0 nil_ nil_ nil_) 53; clear H cX cM; intro gR W3 H; obtain ⟨-, cR, cX, cM⟩ := n3_ H)
  | (apply bh H 5 (rL 0 nil_ 0 0 0) 61; clear H cR cX cM; intro gP W4 H; obtain ⟨-, cP, cR, cX, cM⟩ := n4_ H)
  | (go_at_call 21; refine (HRT.out _ (Kd.C_below HC1.out H.out.below)).mono ?_; rintro e W5 ⟨rfl, hb⟩; clear cP cR cX cM; replace H := pc H hb; clear hb; obtain ⟨-, cP, cR, cX, cM⟩ := n4_ H)
  | (go_at_call 32; refine (HZ.out _ (kL_ HMC.out H.out.below)).mono ?_; rintro e W6 ⟨rfl, hb⟩; clear cP cR cX cM; replace H := pc H hb; clear hb; obtain ⟨-, cP, cR, cX, cM⟩ := n4_ H)
  | (apply bh H 6 (oL 0 0 0) 59; clear H cP cR cX cM; intro gV W7 H; obtain ⟨-, cV, cP, cR, cX, cM⟩ := n5_ H)
  | (apply sh H 0 59 6 gV (oL ((jl_ D.L i).f0) ((jl_ D.L i).f1) ((jl_ D.L i).f2)); clear H cV cP cR cX cM; intro W8 K_; obtain ⟨H, cV, cP, cR, cX, cM⟩ := n5_ K_; clear K_)
 clear cV cP cR cX cM
 refine jN_ (n := 5) (S := fun W => bW W gM (mL id m u b c z s me o a l (.slice A1 n1 k1) (.slice A2 n2 k2) (.slice A3 n3 k3)) /\ bW W gV (oL ((jl_ D.L i).f0) ((jl_ D.L i).f1) ((jl_ D.L i).f2))) (ds := []) (bq 5 0) (by kernel_rfl) rfl (by kernel_rfl) ⟨H.out.drew.cell 4 rfl, H.out.drew.cell 0 rfl⟩ (fun hHeld => ?_)
 refine jw_ zw_ zn_ (fun HT_ HW_ => ?_)
 have zH := H.out.drew
 generalize W8.drew = W9 at zH hHeld ⊢
 replace H := hid zH; clear zH
 apply tw 0 62 (bq 5 1) HT_ HW_ hHeld
 apply tw 1 63 (bq 5 3) HT_ HW_ hHeld
 apply pu 2 64 (bq 5 7) HT_
 apply on 3 none (bq 5 15) HT_; intro K hK
 obtain ⟨-, cV, cP, cR, cX, cM⟩ := n5_ H
 apply shs H 2 53 4 gR (mL id m u b c z s me o a l (.slice A1 n1 k1) (.slice A2 n2 k2) (.slice A3 n3 k3))
 clear H cV cP cR cX cM
 intro W10 K_
 have H := (n5_ K_).1; clear K_
 refine hK.out _ _ ⟨H.out.cell 4 rfl, H.out.cell 0 rfl⟩ (fun hHeld => ?_)
 clear hK K
 apply on 4 none (bq 5 31) HT_; intro K hK
 obtain ⟨-, cV, cP, cR, cX, cM⟩ := n5_ H
 apply shs H 1 61 5 gP (rL 0 nil_ ((jl_ D.L i).f0) ((jl_ D.L i).f1) ((jl_ D.L i).f2))
 clear H cV cP cR cX cM
 intro W11 K_
 have H := (n5_ K_).1; clear K_
 refine hK.out _ _ ⟨H.out.cell 4 rfl, H.out.cell 0 rfl⟩ (fun hHeld => ?_)
 clear hK K
 refine kk_ (jF_ HT_.out (by kernel_rfl)) ?_
 obtain ⟨-, cV, cP, cR, cX, cM⟩ := n5_ H
 go_wp2
 refine bodyPost_ret (jG_ rfl _ _ gR gP 53 61 (mL id m u b c z s me o a l (.slice A1 n1 k1) (.slice A2 n2 k2) (.slice A3 n3 k3)).toArray (rL 0 nil_ ((jl_ D.L i).f0) ((jl_ D.L i).f1) ((jl_ D.L i).f2)).toArray (0, 0) (0, 0) _ _ rfl (H.out.at_ 2 rfl) Try.underlying53 rfl (by kernel_rfl) rfl (H.out.at_ 1 rfl) Try.underlying61 rfl (by kernel_rfl)) rfl ?_
 rw [HV.out]
 exact kl_ rfl kp_ (vu_ _) H.out.below
theorem mdo_nozone (id m u b c z s me o a l : Int) (x y q : Value) (D : Mdl) (i p n : Int) (Ad : Option Addr) (kdd : Nat) (d : List Int) (f : Bool) (w : World) (h : MC w x y q D) (hi : MInv id m u b c z s me o a l D) (hd : Kd.C (Kd.int .u8) w Ad d.length d) (hdk : d.length <= kdd) (hin : ¬ (0 <= i /\ i < (D.T.length : Int))) :
  Calls Try.prog 26 #[modV id m u b c z s me o a l x y q, cmdV 7 i p n (.slice Ad d.length kdd) f] w (RepP id m u b c z s me o a l x y q D (doM id m u b c z s me o a l D (⟨7, i, p, n, d, f⟩ : S65)).1 (doM id m u b c z s me o a l D (⟨7, i, p, n, d, f⟩ : S65)).2.1 (kb_ (doM id m u b c z s me o a l D (⟨7, i, p, n, d, f⟩ : S65)).2.2.1) (doM id m u b c z s me o a l D (⟨7, i, p, n, d, f⟩ : S65)).2.2.2 w) := by
 have hi0 := hi
 obtain ⟨A1, A2, A3, n1, n2, n3, k1, k2, k3, rfl, rfl, rfl, hn1, hn2, hn3, hC1, hC2, hC3, hk1, hk2, hk3, hrt, hL1, hLp, hlT, hlS, hcb⟩ := jK_ h hi
 have hb1 := hcb.1
 have hRT := fun W h => ky_ id m u b c z s me o a l A1 k1 D.L W h hk1
 rw [hrt] at hRT
 rw [<- hn1] at hRT
 have HMC := hid h; have HC1 := hid hC1; have HRT := hid hRT
 have H := hid (Pk.start w)
 have hz := fun W h => mzone_any id m u b c z s me o a l (.slice A1 n1 k1) (.slice A2 n2 k2) (.slice A3 n3 k3) D i W h (by omega)
 rw [if_neg hin, decide_eq_false hin] at hz
 have HZ := hid hz
 have hv : doM id m u b c z s me o a l D ⟨7, i, p, n, d, f⟩ = (D, 2, ByteArray.empty, z59) := by show (if 0 <= i /\ i < (D.T.length : Int) then _ else _) = _; rw [if_neg hin]
 have HV := hid hv
 clear hRT h hi hi0 hd hdk hrt hcb hlT hlS hn1 hn2 hn3 hk1 hk2 hk3 hC1 hC2 hC3 hz hv hin
 go_enter Try.func26, Try.ntmps26
 go_wp2_with first
  | (apply bh H 2 (mL id m u b c z s me o a l (.slice A1 n1 k1) (.slice A2 n2 k2) (.slice A3 n3 k3)) 53; clear H; intro gM W1 H; obtain ⟨-, cM⟩ := n1_ H)
  | (apply bh H 3 (xL 7 i p n (.slice Ad d.length kdd) f) 65; clear H cM; intro gX W2 H; obtain ⟨-, cX, cM⟩ := n2_ H)
  | (apply bh H 4 (mL 0 0 0 0 0 0 0 0 0 0 0 nil_ nil_ nil_) 53; clear H cX cM; intro gR W3 H; obtain ⟨-, cR, cX, cM⟩ := n3_ H)
  | (apply bh H 5 (rL 0 nil_ 0 0 0) 61; clear H cR cX cM; intro gP W4 H; obtain ⟨-, cP, cR, cX, cM⟩ := n4_ H)
  | (go_at_call 21; refine (HRT.out _ (Kd.C_below HC1.out H.out.below)).mono ?_; rintro e W5 ⟨rfl, hb⟩; clear cP cR cX cM; replace H := pc H hb; clear hb; obtain ⟨-, cP, cR, cX, cM⟩ := n4_ H)
  | (go_at_call 32; refine (HZ.out _ (kL_ HMC.out H.out.below)).mono ?_; rintro e W6 ⟨rfl, hb⟩; clear cP cR cX cM; replace H := pc H hb; clear hb; obtain ⟨-, cP, cR, cX, cM⟩ := n4_ H)
  | (apply bh H 6 (oL 0 0 0) 59; clear H cP cR cX cM; intro gV W7 H; obtain ⟨-, cV, cP, cR, cX, cM⟩ := n5_ H)
  | (apply sn H 0 59 6 gV (oL 0 0 0))
  | (go_at_call 73; refine (kG_ id m u b c z s me o a l A1 A2 A3 n1 k1 n2 k2 n3 k3 (2) _).mono ?_; rintro e W8 ⟨rfl, hb⟩; clear cV cP cR cX cM; replace H := pc H hb; clear hb; obtain ⟨-, cV, cP, cR, cX, cM⟩ := n5_ H)
  | (apply sh H 2 53 4 gR (mL id m u b c z s me o a l (.slice A1 n1 k1) (.slice A2 n2 k2) (.slice A3 n3 k3)); clear H cV cP cR cX cM; intro W9 K_; obtain ⟨H, cV, cP, cR, cX, cM⟩ := n5_ K_; clear K_)
  | (apply sh H 1 61 5 gP (rL 2 nil_ 0 0 0); clear H cV cP cR cX cM; intro W10 K_; obtain ⟨H, cV, cP, cR, cX, cM⟩ := n5_ K_; clear K_)
 refine bodyPost_ret (jG_ rfl _ _ gR gP 53 61 (mL id m u b c z s me o a l (.slice A1 n1 k1) (.slice A2 n2 k2) (.slice A3 n3 k3)).toArray (rL 2 nil_ 0 0 0).toArray (0, 0) (0, 0) _ _ rfl (H.out.at_ 2 rfl) Try.underlying53 rfl (by kernel_rfl) rfl (H.out.at_ 1 rfl) Try.underlying61 rfl (by kernel_rfl)) rfl ?_
 rw [HV.out]
 exact kl_ rfl kp_ (vu_ _) H.out.below
theorem mdo_other (id m u b c z s me o a l : Int) (x y q : Value) (D : Mdl) (kd : Int) (i p n : Int) (Ad : Option Addr) (kdd : Nat) (d : List Int) (f : Bool) (w : World) (h : MC w x y q D) (hi : MInv id m u b c z s me o a l D) (hd : Kd.C (Kd.int .u8) w Ad d.length d) (hdk : d.length <= kdd) (k0 : ¬ kd = 0) (k1_ : ¬ kd = 1) (k2_ : ¬ kd = 2) (k3_ : ¬ kd = 3) (k4_ : ¬ kd = 4) (k5_ : ¬ kd = 5) (k6_ : ¬ kd = 6) (k7_ : ¬ kd = 7) :
  Calls Try.prog 26 #[modV id m u b c z s me o a l x y q, cmdV kd i p n (.slice Ad d.length kdd) f] w (RepP id m u b c z s me o a l x y q D (doM id m u b c z s me o a l D (⟨kd, i, p, n, d, f⟩ : S65)).1 (doM id m u b c z s me o a l D (⟨kd, i, p, n, d, f⟩ : S65)).2.1 (kb_ (doM id m u b c z s me o a l D (⟨kd, i, p, n, d, f⟩ : S65)).2.2.1) (doM id m u b c z s me o a l D (⟨kd, i, p, n, d, f⟩ : S65)).2.2.2 w) := by
 have hi0 := hi
 obtain ⟨A1, A2, A3, n1, n2, n3, k1, k2, k3, rfl, rfl, rfl, hn1, hn2, hn3, hC1, hC2, hC3, hk1, hk2, hk3, hrt, hL1, hLp, hlT, hlS, hcb⟩ := jK_ h hi
 have hb1 := hcb.1
 have hRT := fun W h => ky_ id m u b c z s me o a l A1 k1 D.L W h hk1
 rw [hrt] at hRT
 rw [<- hn1] at hRT
 have HMC := hid h; have HC1 := hid hC1; have HRT := hid hRT
 have H := hid (Pk.start w)
 have hv : doM id m u b c z s me o a l D ⟨kd, i, p, n, d, f⟩ = (D, 1, ByteArray.empty, z59) := by unfold doM; simp only [if_neg k0, if_neg k1_, if_neg k2_, if_neg k3_, if_neg k4_, if_neg k5_, if_neg k6_, if_neg k7_]
 have HV := hid hv
 have b0_ : (kd == 0) = false := beq_eq_false_iff_ne.mpr k0
 have b1_ : (kd == 1) = false := beq_eq_false_iff_ne.mpr k1_
 have b2_ : (kd == 2) = false := beq_eq_false_iff_ne.mpr k2_
 have b3_ : (kd == 3) = false := beq_eq_false_iff_ne.mpr k3_
 have b4_ : (kd == 4) = false := beq_eq_false_iff_ne.mpr k4_
 have b5_ : (kd == 5) = false := beq_eq_false_iff_ne.mpr k5_
 have b6_ : (kd == 6) = false := beq_eq_false_iff_ne.mpr k6_
 have b7_ : (kd == 7) = false := beq_eq_false_iff_ne.mpr k7_
 clear hRT h hi hi0 hd hdk hrt hcb hlT hlS hn1 hn2 hn3 hk1 hk2 hk3 hC1 hC2 hC3 hv k0 k1_ k2_ k3_ k4_ k5_ k6_ k7_
 go_enter Try.func26, Try.ntmps26
 go_wp2_with first
  | (apply bh H 2 (mL id m u b c z s me o a l (.slice A1 n1 k1) (.slice A2 n2 k2) (.slice A3 n3 k3)) 53; clear H; intro gM W1 H; obtain ⟨-, cM⟩ := n1_ H)
  | (apply bh H 3 (xL kd i p n (.slice Ad d.length kdd) f) 65; clear H cM; intro gX W2 H; obtain ⟨-, cX, cM⟩ := n2_ H)
  | (apply bh H 4 (mL 0 0 0 0 0 0 0 0 0 0 0 nil_ nil_ nil_) 53; clear H cX cM; intro gR W3 H; obtain ⟨-, cR, cX, cM⟩ := n3_ H)
  | (apply bh H 5 (rL 0 nil_ 0 0 0) 61; clear H cR cX cM; intro gP W4 H; obtain ⟨-, cP, cR, cX, cM⟩ := n4_ H)
  | (go_at_call 21; refine (HRT.out _ (Kd.C_below HC1.out H.out.below)).mono ?_; rintro e W5 ⟨rfl, hb⟩; clear cP cR cX cM; replace H := pc H hb; clear hb; obtain ⟨-, cP, cR, cX, cM⟩ := n4_ H)
  | (go_at_call 73; refine (kG_ id m u b c z s me o a l A1 A2 A3 n1 k1 n2 k2 n3 k3 (1) _).mono ?_; rintro e W6 ⟨rfl, hb⟩; clear cP cR cX cM; replace H := pc H hb; clear hb; obtain ⟨-, cP, cR, cX, cM⟩ := n4_ H)
  | (apply sh H 1 53 4 gR (mL id m u b c z s me o a l (.slice A1 n1 k1) (.slice A2 n2 k2) (.slice A3 n3 k3)); clear H cP cR cX cM; intro W7 K_; obtain ⟨H, cP, cR, cX, cM⟩ := n4_ K_; clear K_)
  | (apply sh H 0 61 5 gP (rL 1 nil_ 0 0 0); clear H cP cR cX cM; intro W8 K_; obtain ⟨H, cP, cR, cX, cM⟩ := n4_ K_; clear K_)
 refine bodyPost_ret (jG_ rfl _ _ gR gP 53 61 (mL id m u b c z s me o a l (.slice A1 n1 k1) (.slice A2 n2 k2) (.slice A3 n3 k3)).toArray (rL 1 nil_ 0 0 0).toArray (0, 0) (0, 0) _ _ rfl (H.out.at_ 1 rfl) Try.underlying53 rfl (by kernel_rfl) rfl (H.out.at_ 0 rfl) Try.underlying61 rfl (by kernel_rfl)) rfl ?_
 rw [HV.out]
 exact kl_ rfl kp_ (vu_ _) H.out.below
theorem mdo_any (id m u b c z s me o a l : Int) (x y q : Value) (D : Mdl) (kd : Int) (i p n : Int) (Ad : Option Addr) (kdd : Nat) (d : List Int) (f : Bool) (w : World) (h : MC w x y q D) (hi : MInv id m u b c z s me o a l D) (hd : Kd.C (Kd.int .u8) w Ad d.length d) (hdk : d.length <= kdd) :
  Calls Try.prog 26 #[modV id m u b c z s me o a l x y q, cmdV kd i p n (.slice Ad d.length kdd) f] w (RepP id m u b c z s me o a l x y q D (doM id m u b c z s me o a l D (⟨kd, i, p, n, d, f⟩ : S65)).1 (doM id m u b c z s me o a l D (⟨kd, i, p, n, d, f⟩ : S65)).2.1 (kb_ (doM id m u b c z s me o a l D (⟨kd, i, p, n, d, f⟩ : S65)).2.2.1) (doM id m u b c z s me o a l D (⟨kd, i, p, n, d, f⟩ : S65)).2.2.2 w) := by
 by_cases k0 : kd = 0
 · subst k0; exact mdo_write id m u b c z s me o a l x y q D i p n Ad kdd d f w h hi hd hdk
 by_cases k1_ : kd = 1
 · subst k1_; exact mdo_read id m u b c z s me o a l x y q D i p n Ad kdd d f w h hi hd hdk
 by_cases k2_ : kd = 2
 · subst k2_; exact mdo_flush id m u b c z s me o a l x y q D i p n Ad kdd d f w h hi hd hdk
 by_cases k3_ : kd = 3
 · subst k3_; exact mdo_reset id m u b c z s me o a l x y q D i p n Ad kdd d f w h hi hd hdk
 by_cases k4_ : kd = 4
 · subst k4_; exact mdo_finish id m u b c z s me o a l x y q D i p n Ad kdd d f w h hi hd hdk
 by_cases k5_ : kd = 5
 · subst k5_; exact mdo_open id m u b c z s me o a l x y q D i p n Ad kdd d f w h hi hd hdk
 by_cases k6_ : kd = 6
 · subst k6_; exact mdo_close id m u b c z s me o a l x y q D i p n Ad kdd d f w h hi hd hdk
 by_cases k7_ : kd = 7
 ·
  subst k7_
  by_cases hin : 0 <= i /\ i < (D.T.length : Int)
  · exact mdo_zone id m u b c z s me o a l x y q D i p n Ad kdd d f w h hi hd hdk hin
  · exact mdo_nozone id m u b c z s me o a l x y q D i p n Ad kdd d f w h hi hd hdk hin
 exact mdo_other id m u b c z s me o a l x y q D kd i p n Ad kdd d f w h hi hd hdk k0 k1_ k2_ k3_ k4_ k5_ k6_ k7_
end Go.Proofs.Ytgckcaoncjhgbaa
