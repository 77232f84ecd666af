/- revetmentref29.High; revetmentref25.within. -/
import Derived.WalkKit
import Derived.WalkSpells
import Derived.WalkLawsBesides
import Derived.Lib.Hide
import Derived.Test.YtgckcaoncjhgbaaFGw
import Derived.Test.YtgckcaoncjhgbaaJdThere
import Derived.Test.YtgckcaoncjhgbaaFJf
import Derived.Test.YtgckcaoncjhgbaaRmDo
import Derived.Test.YtgckcaoncjhgbaaFMe
namespace Go.Proofs.Ytgckcaoncjhgbaa
open Go.RowKit Go.Proofs.Ytgckcaoncjhgbaa.PL Go.Proofs.YtgckcaoncjhgbaaW.PrintWords Go.Proofs.YtgckcaoncjhgbaaW.PrintLast
set_option linter.unusedVariables false
set_option linter.unusedSimpArgs false
attribute [local go_sem] List.getElem?_toArray List.getElem?_cons_succ List.getElem?_cons_zero mL tL cL xL rL oL
def withinB (gw lo Y : Int) (tx wh : ByteArray) : Bool := if gw < lo then false else if ¬ Y <= (wh.size : Int) then false else if (tx.toList == (wh.extract 0 Y.toNat).toList) = false then false else decide ((tx.size : Int) = Y)
set_option maxHeartbeats 4000000 in
set_option maxRecDepth 100000 in
theorem within_any (id m u b c z s me o a l : Int) (gst gw gg lo Y : Int) (tx wh : ByteArray) (w : World) (hY : wrap64 (gw * b) = Y) (hlo : ¬ gw < lo -> 0 <= Y) (hz : wh.size <= 1099511627776) : Calls Try.prog 111 #[.agg #[.int .i64 id, .int .i64 m, .int .i64 u, .int .i64 b, .int .i64 c, .int .i64 z, .int .i64 s, .int .i64 me, .int .i64 o, .int .i64 a, .int .i64 l], .agg #[.int .i64 gst, .int .i64 gw, .int .i64 gg], .string tx, .int .i64 lo, .string wh] w fun e w' => e = .returned (.bool (withinB gw lo Y tx wh)) /\ Below w.heap.size w w' := by
 have y1 : wrap64 (gw * b) = Y := hY; have y2 : IntKind.i64.wrap (gw * b) = Y := (i64_w _).trans hY
 obtain ⟨V, hV⟩ : ∃ V, V = withinB gw lo Y tx wh := ⟨_, rfl⟩
 rw [<- hV]; unfold withinB at hV
 have hcs : (gw < lo /\ V = false) \/ (¬ gw < lo /\ ¬ Y <= (wh.size : Int) /\ V = false) \/ (¬ gw < lo /\ Y <= (wh.size : Int) /\ (tx.toList == (wh.extract 0 Y.toNat).toList) = false /\ V = false) \/ (¬ gw < lo /\ Y <= (wh.size : Int) /\ (tx.toList == (wh.extract 0 Y.toNat).toList) = true /\ V = decide ((tx.size : Int) = Y)) := by
  rw [hV]
  by_cases a1 : gw < lo
  · simp [a1]
  by_cases a2 : Y <= (wh.size : Int)
  ·
   cases a3 : (tx.toList == (wh.extract 0 Y.toNat).toList)
   · simp [a1, a2, a3]
   · simp [a1, a2, a3]
  · simp [a1, a2]; try omega
 have HLO := Lib.hid hlo; clear hV hY hlo
 rcases hcs with ⟨h1, hv⟩ | ⟨h1, h2, hv⟩ | ⟨h1, h2, h3, hv⟩ | ⟨h1, h2, h3, hv⟩ <;> (
  have HV := Lib.hid hv; clear hv
  (try have q8 : 0 <= Y := HLO.out h1)
  (try have b1 : decide (lo <= gw) = true := decide_eq_true (by omega))
  (try have b1 : decide (lo <= gw) = false := decide_eq_false (by omega))
  (try have b2 : decide (Y <= (wh.size : Int)) = true := decide_eq_true h2)
  (try have b2 : decide (Y <= (wh.size : Int)) = false := decide_eq_false h2)
  (try have q10 : Y.toNat <= wh.size := (by omega))
  have H := Lib.hid (Pk.start w)
  go_enter Try.func111, Try.ntmps111
  go_wp2_with first
   | (apply bh H 5 (cL id m u b c z s me o a l) 23; clear H; intro gC W1 H; obtain ⟨-, cC⟩ := n1_ H)
   | (apply bh H 6 (oL gst gw gg) 59; clear H cC; intro gG W2 H; obtain ⟨-, cG, cC⟩ := n2_ H)
  go_ret
  refine ⟨?_, H.out.below⟩
  rw [HV.out]; first | rfl | (simp))
set_option maxHeartbeats 4000000 in
set_option maxRecDepth 100000 in
theorem rhigh_no (id m u b c z s me o a l : Int) (x y q : Value) (D : Mdl) (kd i p n : Int) (Ad : Option Addr) (kdd : Nat) (d : List Int) (f : Bool) (is : Bool) (z_ : Int) (w : World) (h : MC w x y q D) (hi : MInv2 id m u b c z s me o a l D) (hd : Kd.C (Kd.int .u8) w Ad d.length d) (hdk : d.length <= kdd) (hin : ¬ (0 <= z_ /\ z_ < (D.T.length : Int))) : Calls Try.prog 38 #[modV id m u b c z s me o a l x y q, cmdV kd i p n (.slice Ad d.length kdd) f, .bool is, .int .i64 z_] w fun e w' => e = .returned (.int .i64 0) /\ Below w.heap.size w w' := by
 have hth := fun x y q W h => rthere_any id m u b c z s me o a l x y q D z_ W h
 rw [decide_eq_false hin] at hth
 replace hi := hi.1
 obtain ⟨A1, A2, A3, n1, n2, n3, k1, k2, k3, rfl, rfl, rfl, hn1, hn2, hn3, hC1, hC2, hC3, hk1, hk2, hk3, hrt, hL1, hLp, hlT, hlS, hcb⟩ := mc_open h hi
 have HMC := Lib.hid h; have HTH := Lib.hid hth; clear hth hd hdk hin
 clear h hi hcb hrt hL1 hLp hlT hlS hn1 hn2 hn3 hk1 hk2 hk3 hC1 hC2 hC3
 have H := Lib.hid (Pk.start w)
 go_enter Try.func38, Try.ntmps38
 go_wp2_with first
  | (apply bh H 4 (mL id m u b c z s me o a l (.slice A1 n1 k1) (.slice A2 n2 k2) (.slice A3 n3 k3)) 68; clear H; intro gM W1 H; obtain ⟨-, cM⟩ := n1_ H)
  | (apply bh H 5 (xL kd i p n (.slice Ad d.length kdd) f) 65; clear H cM; intro gX W2 H; obtain ⟨-, cX, cM⟩ := n2_ H)
  | (go_at_call 35; refine (HTH.out _ _ _ _ (MC_below HMC.out H.out.below)).mono ?_; rintro e W3 ⟨rfl, hb⟩; clear cX cM; replace H := pc H hb; clear hb; obtain ⟨-, cX, cM⟩ := n2_ H)
 go_ret
 exact ⟨rfl, H.out.below⟩
set_option maxHeartbeats 4000000 in
set_option maxRecDepth 100000 in
theorem rhigh_in (id m u b c z s me o a l : Int) (x y q : Value) (D : Mdl) (kd i p n : Int) (Ad : Option Addr) (kdd : Nat) (d : List Int) (f : Bool) (is : Bool) (z_ : Int) (w : World) (h : MC w x y q D) (hi : MInv2 id m u b c z s me o a l D) (hd : Kd.C (Kd.int .u8) w Ad d.length d) (hdk : d.length <= kdd) (hin : 0 <= z_ /\ z_ < (D.T.length : Int)) : Calls Try.prog 38 #[modV id m u b c z s me o a l x y q, cmdV kd i p n (.slice Ad d.length kdd) f, .bool is, .int .i64 z_] w fun e w' => e = .returned (.int .i64 (if is = true /\ (doM id m u b c z s me o a l D (⟨kd, i, p, n, d, f⟩ : S65)).2.1 = 0 /\ kd = 0 /\ i = z_ then (rd_T59 (doM id m u b c z s me o a l D (⟨kd, i, p, n, d, f⟩ : S65)).1.L z_).f1 else (rd_T59 D.L z_).f1)) /\ Below w.heap.size w w' := by
 have hth := fun x y q W h => rthere_any id m u b c z s me o a l x y q D z_ W h
 rw [decide_eq_true hin] at hth
 have hrd := fun x y q W h hd => rdo_any id m u b c z s me o a l x y q D kd i p n Ad kdd d f W h hi.1 hd hdk
 have hok := doM_ok hi (⟨kd, i, p, n, d, f⟩ : S65)
 have hln := doM_len hi (⟨kd, i, p, n, d, f⟩ : S65)
 obtain ⟨V, hV⟩ : ∃ V : Int, V = (if is = true /\ (doM id m u b c z s me o a l D (⟨kd, i, p, n, d, f⟩ : S65)).2.1 = 0 /\ kd = 0 /\ i = z_ then (rd_T59 (doM id m u b c z s me o a l D (⟨kd, i, p, n, d, f⟩ : S65)).1.L z_).f1 else (rd_T59 D.L z_).f1) := ⟨_, rfl⟩
 rw [<- hV]
 generalize doM id m u b c z s me o a l D (⟨kd, i, p, n, d, f⟩ : S65) = r at hrd hok hln hV
 obtain ⟨N, E, dt, zz⟩ := r
 dsimp only at hrd hok hln hV
 have hcs : (is = true /\ E = 0 /\ kd = 0 /\ i = z_ /\ V = (rd_T59 N.L z_).f1) \/ (is = false /\ V = (rd_T59 D.L z_).f1) \/ (is = true /\ ¬ E = 0 /\ V = (rd_T59 D.L z_).f1) \/ (is = true /\ E = 0 /\ ¬ kd = 0 /\ V = (rd_T59 D.L z_).f1) \/ (is = true /\ E = 0 /\ kd = 0 /\ ¬ i = z_ /\ V = (rd_T59 D.L z_).f1) := by
  rw [hV]; cases is <;> by_cases a : E = 0 <;> by_cases c : kd = 0 <;> by_cases e : i = z_ <;> simp [a, c, e]
 have hNT : N.T.length = N.L.length := hok.1.1.2.1
 replace hi := hi.1
 obtain ⟨A1, A2, A3, n1, n2, n3, k1, k2, k3, rfl, rfl, rfl, hn1, hn2, hn3, hC1, hC2, hC3, hk1, hk2, hk3, hrt, hL1, hLp, hlT, hlS, hcb⟩ := mc_open h hi
 obtain ⟨ad1, rfl⟩ := zone_some hC1 (by omega)
 have hz1 : D.L.length = n1 := hn1.symm
 have HNL : Hid (0 < N.L.length /\ 0 < N.T.length /\ N.L.length = n1 /\ N.T.length = n1) := Lib.hid (by omega)
 obtain ⟨j0, j1⟩ := hin
 have i1 : z_ < (n1 : Int) := by omega
 have inL : z_ < (N.L.length : Int) := by omega
 have HMC := Lib.hid h; have HD := Lib.hid hd; have HC1 := Lib.hid hC1; have HTH := Lib.hid hth; have HRD := Lib.hid hrd; clear hth hrd hok hln hV hd hNT hz1
 clear h hi hcb hrt hL1 hLp hlT hlS hn1 hn2 hn3 hk1 hk2 hk3 hC1 hC2 hC3
 rcases hcs with ⟨rfl, h1, h2, h3, hv⟩ | hcs
 ·
  have HV := Lib.hid hv; clear hv
  (try have bh1 : (E == 0) = true := beq_iff_eq.mpr h1)
  (try have bh1 : (E == 0) = false := beq_eq_false_iff_ne.mpr h1)
  (try have dh1 : (E != 0) = false := bne_eq_false_iff_eq.mpr h1)
  (try have dh1 : (E != 0) = true := bne_iff_ne.mpr h1)
  (try have Hh1 := Lib.hid h1)
  (try clear h1)
  (try have bh2 : (kd == 0) = true := beq_iff_eq.mpr h2)
  (try have bh2 : (kd == 0) = false := beq_eq_false_iff_ne.mpr h2)
  (try have dh2 : (kd != 0) = false := bne_eq_false_iff_eq.mpr h2)
  (try have dh2 : (kd != 0) = true := bne_iff_ne.mpr h2)
  (try have Hh2 := Lib.hid h2)
  (try clear h2)
  (try have bh3 : (i == z_) = true := beq_iff_eq.mpr h3)
  (try have bh3 : (i == z_) = false := beq_eq_false_iff_ne.mpr h3)
  (try have dh3 : (i != z_) = false := bne_eq_false_iff_eq.mpr h3)
  (try have dh3 : (i != z_) = true := bne_iff_ne.mpr h3)
  (try have Hh3 := Lib.hid h3)
  (try clear h3)
  have H := Lib.hid (Pk.start w)
  go_enter Try.func38, Try.ntmps38
  go_wp2_with first
   | (apply bh H 4 (mL id m u b c z s me o a l (.slice (some ad1) n1 k1) (.slice A2 n2 k2) (.slice A3 n3 k3)) 68; clear H; intro gM W1 H; obtain ⟨-, cM⟩ := n1_ H)
   | (apply bh H 5 (xL kd i p n (.slice Ad d.length kdd) f) 65; clear H cM; intro gX W2 H; obtain ⟨-, cX, cM⟩ := n2_ H)
   | (go_at_call 35; refine (HTH.out _ _ _ _ (MC_below HMC.out H.out.below)).mono ?_; rintro e W3 ⟨rfl, hb⟩; clear cX cM; replace H := pc H hb; clear hb; obtain ⟨-, cX, cM⟩ := n2_ H)
   | (go_at_call 28; refine (HRD.out _ _ _ _ (MC_below HMC.out H.out.below) (Kd.C_below HD.out H.out.below)).mono ?_; rintro e W4 hP; obtain ⟨B51, m51, j51, B52, m52, j52, B53, m53, j53, rfl, hM, hb⟩ := RsP_open hP; clear hP; have hC_ := MD_C hM (MC_below HMC.out (below_step H.out.below hb)); obtain ⟨⟨ad5, rfl⟩, hm5⟩ := slc_some hC_.1 HNL.out.1; obtain ⟨⟨ad6, rfl⟩, hm6⟩ := slc_some hC_.2.1 HNL.out.2.1; have im5 : z_ < (m51 : Int) := (by rw [hm5, HNL.out.2.2.1]; omega); have im6 : z_ < (m52 : Int) := (by rw [hm6, HNL.out.2.2.2]; omega); clear hC_ hm5 hm6; clear cX cM; have hl_ := H.out.below.size; replace H := Lib.hid ((H.out.called hb).row (MdF w.heap.size (.slice (some ad1) n1 k1) (.slice A2 n2 k2) (.slice A3 n3 k3) D (.slice (some ad5) m51 j51) (.slice (some ad6) m52 j52) (.slice B53 m53 j53) (N)) (MD_lower hM hl_)); clear hb hM hl_; obtain ⟨-, cX, cM⟩ := n2_ H)
   | (apply bh H 9 (mL 0 0 0 0 0 0 0 0 0 0 0 nil_ nil_ nil_) 68; clear H cX cM; intro gN W5 H; obtain ⟨-, cN, cX, cM⟩ := n3_ H)
   | (apply bhz H 12 (oL 0 0 0) 59; have HO_ := H; clear H cN cX cM; intro gT W6 hg H; have n_T_G5 := Lib.hid (mdf_lt (HO_.out.fact 0 rfl) hg); clear HO_ hg; obtain ⟨-, cT, cN, cX, cM⟩ := n4_ H)
   | (apply sh H 1 68 9 gN (mL id m u b c z s me o a l (.slice (some ad5) m51 j51) (.slice (some ad6) m52 j52) (.slice B53 m53 j53)); clear H cT cN cX cM; intro W7 K_; obtain ⟨H, cT, cN, cX, cM⟩ := n4_ K_; clear K_)
   | (apply shz H 0 59 12 gT (oL zz.f0 zz.f1 zz.f2) (fun w_ hw_ => fcons (mdf_set hw_ (H.out.fact 0 rfl) n_T_G5.out (H.out.at_ 0 rfl)) (fnil)); clear H cT cN cX cM; intro W8 K_; obtain ⟨H, cT, cN, cX, cM⟩ := n4_ K_; clear K_; have zc := (zone_atI (slc_C (MD_C (H.out.fact 0 rfl) (MC_below HMC.out H.out.below)).1) z_ j0 inL))
  go_ret
  refine ⟨?_, H.out.below⟩
  rw [HV.out]; try rfl
 rcases hcs with ⟨rfl, hv⟩ | ⟨rfl, h1, hv⟩ | ⟨rfl, h1, h2, hv⟩ | ⟨rfl, h1, h2, h3, hv⟩ <;> (
  have HV := Lib.hid hv; clear hv
  (try have bh1 : (E == 0) = true := beq_iff_eq.mpr h1)
  (try have bh1 : (E == 0) = false := beq_eq_false_iff_ne.mpr h1)
  (try have dh1 : (E != 0) = false := bne_eq_false_iff_eq.mpr h1)
  (try have dh1 : (E != 0) = true := bne_iff_ne.mpr h1)
  (try have Hh1 := Lib.hid h1)
  (try clear h1)
  (try have bh2 : (kd == 0) = true := beq_iff_eq.mpr h2)
  (try have bh2 : (kd == 0) = false := beq_eq_false_iff_ne.mpr h2)
  (try have dh2 : (kd != 0) = false := bne_eq_false_iff_eq.mpr h2)
  (try have dh2 : (kd != 0) = true := bne_iff_ne.mpr h2)
  (try have Hh2 := Lib.hid h2)
  (try clear h2)
  (try have bh3 : (i == z_) = true := beq_iff_eq.mpr h3)
  (try have bh3 : (i == z_) = false := beq_eq_false_iff_ne.mpr h3)
  (try have dh3 : (i != z_) = false := bne_eq_false_iff_eq.mpr h3)
  (try have dh3 : (i != z_) = true := bne_iff_ne.mpr h3)
  (try have Hh3 := Lib.hid h3)
  (try clear h3)
  have H := Lib.hid (Pk.start w)
  go_enter Try.func38, Try.ntmps38
  go_wp2_with first
   | (apply bh H 4 (mL id m u b c z s me o a l (.slice (some ad1) n1 k1) (.slice A2 n2 k2) (.slice A3 n3 k3)) 68; clear H; intro gM W1 H; obtain ⟨-, cM⟩ := n1_ H)
   | (apply bh H 5 (xL kd i p n (.slice Ad d.length kdd) f) 65; clear H cM; intro gX W2 H; obtain ⟨-, cX, cM⟩ := n2_ H)
   | (go_at_call 35; refine (HTH.out _ _ _ _ (MC_below HMC.out H.out.below)).mono ?_; rintro e W3 ⟨rfl, hb⟩; clear cX cM; replace H := pc H hb; clear hb; obtain ⟨-, cX, cM⟩ := n2_ H; have zc := zone_atI (Kd.C_below HC1.out H.out.below) z_ j0 i1)
   | (go_at_call 28; refine (HRD.out _ _ _ _ (MC_below HMC.out H.out.below) (Kd.C_below HD.out H.out.below)).mono ?_; rintro e W4 hP; obtain ⟨B51, m51, j51, B52, m52, j52, B53, m53, j53, rfl, hM, hb⟩ := RsP_open hP; clear hP; have hC_ := MD_C hM (MC_below HMC.out (below_step H.out.below hb)); obtain ⟨⟨ad5, rfl⟩, hm5⟩ := slc_some hC_.1 HNL.out.1; obtain ⟨⟨ad6, rfl⟩, hm6⟩ := slc_some hC_.2.1 HNL.out.2.1; have im5 : z_ < (m51 : Int) := (by rw [hm5, HNL.out.2.2.1]; omega); have im6 : z_ < (m52 : Int) := (by rw [hm6, HNL.out.2.2.2]; omega); clear hC_ hm5 hm6; clear cX cM zc; have hl_ := H.out.below.size; replace H := Lib.hid ((H.out.called hb).row (MdF w.heap.size (.slice (some ad1) n1 k1) (.slice A2 n2 k2) (.slice A3 n3 k3) D (.slice (some ad5) m51 j51) (.slice (some ad6) m52 j52) (.slice B53 m53 j53) (N)) (MD_lower hM hl_)); clear hb hM hl_; obtain ⟨-, cX, cM⟩ := n2_ H; have zc := zone_atI (Kd.C_below HC1.out H.out.below) z_ j0 i1)
   | (apply bh H 9 (mL 0 0 0 0 0 0 0 0 0 0 0 nil_ nil_ nil_) 68; clear H cX cM zc; intro gN W5 H; obtain ⟨-, cN, cX, cM⟩ := n3_ H; have zc := zone_atI (Kd.C_below HC1.out H.out.below) z_ j0 i1)
   | (apply bhz H 12 (oL 0 0 0) 59; have HO_ := H; clear H cN cX cM zc; intro gT W6 hg H; have n_T_G5 := Lib.hid (mdf_lt (HO_.out.fact 0 rfl) hg); clear HO_ hg; obtain ⟨-, cT, cN, cX, cM⟩ := n4_ H; have zc := zone_atI (Kd.C_below HC1.out H.out.below) z_ j0 i1)
   | (apply sh H 1 68 9 gN (mL id m u b c z s me o a l (.slice (some ad5) m51 j51) (.slice (some ad6) m52 j52) (.slice B53 m53 j53)); clear H cT cN cX cM zc; intro W7 K_; obtain ⟨H, cT, cN, cX, cM⟩ := n4_ K_; clear K_; have zc := zone_atI (Kd.C_below HC1.out H.out.below) z_ j0 i1)
   | (apply shz H 0 59 12 gT (oL zz.f0 zz.f1 zz.f2) (fun w_ hw_ => fcons (mdf_set hw_ (H.out.fact 0 rfl) n_T_G5.out (H.out.at_ 0 rfl)) (fnil)); clear H cT cN cX cM zc; intro W8 K_; obtain ⟨H, cT, cN, cX, cM⟩ := n4_ K_; clear K_; have zc := zone_atI (Kd.C_below HC1.out H.out.below) z_ j0 i1)
  go_ret
  refine ⟨?_, H.out.below⟩
  rw [HV.out]; try rfl)
theorem rhigh_any (id m u b c z s me o a l : Int) (x y q : Value) (D : Mdl) (kd i p n : Int) (Ad : Option Addr) (kdd : Nat) (d : List Int) (f : Bool) (is : Bool) (z_ : Int) (w : World) (h : MC w x y q D) (hi : MInv2 id m u b c z s me o a l D) (hd : Kd.C (Kd.int .u8) w Ad d.length d) (hdk : d.length <= kdd) : Calls Try.prog 38 #[modV id m u b c z s me o a l x y q, cmdV kd i p n (.slice Ad d.length kdd) f, .bool is, .int .i64 z_] w fun e w' => e = .returned (.int .i64 (highM id m u b c z s me o a l D (⟨kd, i, p, n, d, f⟩ : S65) is z_)) /\ Below w.heap.size w w' := by
 by_cases hin : 0 <= z_ /\ z_ < (D.T.length : Int)
 ·
  have e : highM id m u b c z s me o a l D (⟨kd, i, p, n, d, f⟩ : S65) is z_ = (if is = true /\ (doM id m u b c z s me o a l D (⟨kd, i, p, n, d, f⟩ : S65)).2.1 = 0 /\ kd = 0 /\ i = z_ then (rd_T59 (doM id m u b c z s me o a l D (⟨kd, i, p, n, d, f⟩ : S65)).1.L z_).f1 else (rd_T59 D.L z_).f1) := by
   have hT : (doM id m u b c z s me o a l D (⟨kd, i, p, n, d, f⟩ : S65)).1.T.length = D.T.length := by rw [(doM_ok hi (⟨kd, i, p, n, d, f⟩ : S65)).1.1.2.1, doM_len hi (⟨kd, i, p, n, d, f⟩ : S65), hi.1.2.1]
   unfold highM zoneOf mineB
   rw [hT, if_pos hin, if_pos hin]
   cases is <;> by_cases a : (doM id m u b c z s me o a l D (⟨kd, i, p, n, d, f⟩ : S65)).2.1 = 0 <;> by_cases c : kd = 0 <;> by_cases e : i = z_ <;> simp [a, c, e]
  rw [e]; exact rhigh_in id m u b c z s me o a l x y q D kd i p n Ad kdd d f is z_ w h hi hd hdk hin
 ·
  have e : highM id m u b c z s me o a l D (⟨kd, i, p, n, d, f⟩ : S65) is z_ = 0 := by
   have hT : (doM id m u b c z s me o a l D (⟨kd, i, p, n, d, f⟩ : S65)).1.T.length = D.T.length := by rw [(doM_ok hi (⟨kd, i, p, n, d, f⟩ : S65)).1.1.2.1, doM_len hi (⟨kd, i, p, n, d, f⟩ : S65), hi.1.2.1]
   unfold highM zoneOf
   rw [hT, if_neg hin, if_neg hin]
   split <;> rfl
  rw [e]; exact rhigh_no id m u b c z s me o a l x y q D kd i p n Ad kdd d f is z_ w h hi hd hdk hin
end Go.Proofs.Ytgckcaoncjhgbaa
