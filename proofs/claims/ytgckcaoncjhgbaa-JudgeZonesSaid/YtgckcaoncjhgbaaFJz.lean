/- revetmentref29.Zone. -/
/- judge.Zone answers as the document's Zone: plain Lean, no program in sight. -/
/- The walk of revetmentlaw29.JudgeZones. -/
/- revetmentlaw29.JudgeZones answers true: for all settings, commands, zones, texts. -/
import Derived.WalkKit
import Derived.WalkSpells
import Derived.WalkLawsBesides
import Derived.Lib.Hide
import Derived.Test.YtgckcaoncjhgbaaFGw
import Derived.Test.YtgckcaoncjhgbaaJdAll
import Derived.Deep.CutBlock
import Derived.Test.YtgckcaoncjhgbaaFJl
import Derived.Test.YtgckcaoncjhgbaaFJf
namespace Go.Proofs.Ytgckcaoncjhgbaa
open Go.RowKit Go.Proofs.Ytgckcaoncjhgbaa.PL Go.Proofs.YtgckcaoncjhgbaaW.PrintWords Go.Proofs.YtgckcaoncjhgbaaW.PrintLast
set_option linter.unusedVariables false
set_option linter.unusedSimpArgs false
attribute [local go_sem] List.getElem?_toArray List.getElem?_cons_succ List.getElem?_cons_zero mL tL cL xL rL oL
def zoneR (id m u b c z s me o a l : Int) (D : Mdl) (X : S65) (is : Bool) (z_ : Int) (g : S59) (tx : ByteArray) : Bool :=
 if 0 <= z_ /\ z_ < (D.T.length : Int) then
  if 0 <= g.f1 then if g.f1 <= sizeC m u b c z s me o a l then alQ (sizeC m u b c z s me o a l) (is && ((doM id m u b c z s me o a l D X).2.1 == 0) && (X.f1 == z_)) (cutB (sizeC m u b c z s me o a l) (rd_T59 D.L z_)) (g.f0 == (rd_T59 (doM id m u b c z s me o a l D X).1.L z_).f0 && (g.f1 == (rd_T59 (doM id m u b c z s me o a l D X).1.L z_).f1 && (g.f2 == (rd_T59 (doM id m u b c z s me o a l D X).1.L z_).f2))) X.f0 (rd_T59 D.L z_).f0 (rd_T59 D.L z_).f1 (rd_T59 D.L z_).f2 g.f0 g.f1 g.f2 (rdOf default D.S z_) (g.f1 * b) tx (rdOf default D.T z_) (rdOf default (doM id m u b c z s me o a l D X).1.T z_) else false else false
 else false
def T_revetmentref29_Zone_1 : Bool × List (List Nat × List Nat) := (true, [([], []), ([], []), ([0, 1], [0, 1]), ([2, 2], [2]), ([3], [3]), ([4, 3], [3, 4]), ([5, 3], [3, 5]), ([3, 6], [3, 6]), ([7, 3], [7]), ([8], [8]), ([9, 8], [8, 9]), ([8], [8]), ([11, 8], [8, 11]), ([12, 8], [8, 12]), ([13, 8, 8], [8, 13]), ([10, 14, 8], [8, 10, 14]), ([8, 15], [8, 15]), ([16, 14], [16]), ([17], [17]), ([17], [17]), ([17], [17]), ([17], [17]), ([17], [17]), ([17], [17]), ([18, 19, 20, 21, 22, 23, 17, 17], [17, 18, 19, 20, 21, 22, 23]), ([17, 24], [17, 24]), ([25, 24, 0, 1, 2, 3, 4, 5, 6, 7, 8, 9, 10, 11, 12, 13, 14, 15, 16, 17, 18, 19, 20, 21, 22, 23, 24, 25], [25])])
theorem tab_revetmentref29_Zone_1 : rtab .any (opsOf Try.f40 1) = T_revetmentref29_Zone_1 := by kernel_rfl
theorem bits_revetmentref29_Zone_1 : waitsOk T_revetmentref29_Zone_1.2 [0, 0, 3, 7, 15, 31, 63, 127, 255, 511, 1023, 511, 2559, 6655, 14847, 32767, 65535, 131071, 262143, 262143, 262143, 262143, 262143, 262143, 16777215, 33554431, 67108863] = true := by kernel_rfl
set_option maxHeartbeats 4000000 in
set_option maxRecDepth 100000 in
theorem rzone_q (id m u b c z s me o a l : Int) (x y q : Value) (D : Mdl) (kd i p n : Int) (Ad : Option Addr) (kdd : Nat) (d : List Int) (f : Bool) (is : Bool) (z_ gst gw gg : Int) (tx : ByteArray) (w : World) (h : MC w x y q D) (hi : MInv2 id m u b c z s me o a l D) (hd : Kd.C (Kd.int .u8) w Ad d.length d) (hdk : d.length <= kdd) (V A : Bool) (hV : V = if 0 <= z_ /\ z_ < (D.T.length : Int) then if 0 <= gw then if gw <= sizeC m u b c z s me o a l then A else false else false else false) (hal : ∀ W, Below w.heap.size w W -> MC W x y q D -> Kd.C (Kd.int .u8) W Ad d.length d -> (0 <= z_ /\ z_ < (D.T.length : Int)) -> Calls Try.prog 92 #[modV id m u b c z s me o a l x y q, cmdV kd i p n (.slice Ad d.length kdd) f, .bool is, .int .i64 z_, .agg #[.int .i64 gst, .int .i64 gw, .int .i64 gg], .string tx] W fun e w' => e = .returned (.bool A) /\ Below W.heap.size W w') : Calls Try.prog 40 #[modV id m u b c z s me o a l x y q, cmdV kd i p n (.slice Ad d.length kdd) f, .bool is, .int .i64 z_, .agg #[.int .i64 gst, .int .i64 gw, .int .i64 gg], .string tx] w fun e w' => e = .returned (.bool V) /\ Below w.heap.size w w' := by
 obtain ⟨tb, htb⟩ : ∃ t, t = decide (0 <= z_ /\ z_ < (D.T.length : Int)) := ⟨_, rfl⟩
 have hth := fun x y q W h => rthere_any id m u b c z s me o a l x y q D z_ W h
 rw [<- htb] at hth
 have hsz := fun W => rsize_any id m u b c z s me o a l W
 have hcs : (tb = false /\ V = false) \/ (tb = true /\ ¬ 0 <= gw /\ V = false) \/ (tb = true /\ 0 <= gw /\ ¬ gw <= sizeC m u b c z s me o a l /\ V = false) \/ (tb = true /\ 0 <= gw /\ gw <= sizeC m u b c z s me o a l /\ V = A /\ (0 <= z_ /\ z_ < (D.T.length : Int))) := by
  rw [hV, htb]; by_cases a0 : 0 <= z_ /\ z_ < (D.T.length : Int)
  ·
   by_cases a1 : 0 <= gw
   ·
    by_cases a2 : gw <= sizeC m u b c z s me o a l
    · exact .inr (.inr (.inr ⟨by simp [a0], a1, a2, by simp [a0, a1, a2], a0⟩))
    · simp [a0, a1, a2]; try omega
   · simp [a0, a1]; try omega
  · simp [a0]
 replace hi := hi.1
 generalize sizeC m u b c z s me o a l = Z at hsz hcs
 obtain ⟨A1, A2, A3, n1, n2, n3, k1, k2, k3, rfl, rfl, rfl, hn1, hn2, hn3, hC1, hC2, hC3, hk1, hk2, hk3, hrt, hL1, hLp, hlT, hlS, hcb⟩ := mc_open h hi
 have HMC := Lib.hid h; have HD := Lib.hid hd; have HTH := Lib.hid hth; have HSZ := Lib.hid hsz; have HAL := Lib.hid hal; clear hth hsz hal hd hV htb
 clear h hi hcb hrt hL1 hLp hlT hlS hn1 hn2 hn3 hk1 hk2 hk3 hC1 hC2 hC3
 rcases hcs with ⟨rfl, hv⟩ | ⟨rfl, h1, hv⟩ | ⟨rfl, h1, h2, hv⟩ | ⟨rfl, h1, h2, hv, hin⟩
 ·
  have HV := Lib.hid hv; clear hv
  have H := Lib.hid (Pk.start w)
  go_enter Try.func40, Try.ntmps40
  go_wp2_with first
   | (apply bh H 6 (mL id m u b c z s me o a l (.slice A1 n1 k1) (.slice A2 n2 k2) (.slice A3 n3 k3)) 68; clear H; intro gM W1 H; obtain ⟨-, cM⟩ := n1_ H)
   | (apply bh H 7 (xL kd i p n (.slice Ad d.length kdd) f) 65; clear H cM; intro gX W2 H; obtain ⟨-, cX, cM⟩ := n2_ H)
   | (apply bh H 10 (oL gst gw gg) 59; clear H cX cM; intro gG W3 H; obtain ⟨-, cG, cX, cM⟩ := n3_ H)
  clear cG cX cM
  refine start_ (n := 27) (S := fun W => bW W gM (mL id m u b c z s me o a l (.slice A1 n1 k1) (.slice A2 n2 k2) (.slice A3 n3 k3)) /\ bW W gX (xL kd i p n (.slice Ad d.length kdd) f) /\ bW W gG (oL gst gw gg)) (ds := []) (bq 27 0) (by kernel_rfl) rfl (by kernel_rfl) ⟨H.out.drew.cell 2 rfl, H.out.drew.cell 1 rfl, H.out.drew.cell 0 rfl⟩ (fun hHeld => ?_)
  refine with_tabW tab_revetmentref29_Zone_1 bits_revetmentref29_Zone_1 (fun HT_ HW_ => ?_)
  have zH := H.out.drew
  generalize W3.drew = W4 at zH hHeld ⊢
  replace H := Lib.hid zH; clear zH
  apply tw 0 13 (bq 27 1) HT_ HW_ hHeld
  apply pu 1 14 (bq 27 3) HT_
  apply on 2 (some 15) (bq 27 7) HT_; intro K hK
  refine gs Try.func35 #[modV id m u b c z s me o a l (.slice A1 n1 k1) (.slice A2 n2 k2) (.slice A3 n3 k3), .int .i64 z_] ?_
  refine (HTH.out _ _ _ _ (MC_below HMC.out H.out.below)).mono ?_
  rintro e W5 ⟨rfl, hb⟩
  refine ⟨_, rfl, ?_⟩
  replace H := pc H hb
  clear hb
  refine hK.out _ _ ⟨H.out.cell 2 rfl, H.out.cell 1 rfl, H.out.cell 0 rfl⟩ (fun hHeld => ?_)
  clear hK K
  apply nm 0
  apply pu 3 16 (bq 27 15) HT_
  apply po 4 17 (bq 27 31) HT_
  apply po 5 18 (bq 27 63) HT_
  apply po 6 19 (bq 27 127) HT_
  apply pu 7 20 (bq 27 255) HT_
  apply pu 8 21 (bq 27 511) HT_
  apply po 9 22 (bq 27 1023) HT_
  apply po 10 23 (bq 27 2047) HT_
  apply po 11 24 (bq 27 4095) HT_
  apply po 12 25 (bq 27 8191) HT_
  apply po 13 26 (bq 27 16383) HT_
  apply po 14 27 (bq 27 32767) HT_
  apply po 15 28 (bq 27 65535) HT_
  apply pu 16 29 (bq 27 131071) HT_
  apply pu 17 30 (bq 27 262143) HT_
  apply po 18 31 (bq 27 524287) HT_
  apply po 19 32 (bq 27 1048575) HT_
  apply po 20 33 (bq 27 2097151) HT_
  apply po 21 34 (bq 27 4194303) HT_
  apply po 22 35 (bq 27 8388607) HT_
  apply po 23 36 (bq 27 16777215) HT_
  apply po 24 37 (bq 27 33554431) HT_
  apply pu 25 38 (bq 27 67108863) HT_
  apply pu 26 12 (bq 27 134217727) HT_
  refine done_ (done_of HT_.out (by kernel_rfl)) ?_
  obtain ⟨-, cG, cX, cM⟩ := n3_ H
  go_wp2
  go_ret
  refine ⟨?_, H.out.below⟩
  rw [HV.out]; try rfl
 ·
  have HV := Lib.hid hv; clear hv
  have b1 : decide (0 <= gw) = false := decide_eq_false h1
  have c1 : decide (gw >= 0) = false := decide_eq_false h1
  have H := Lib.hid (Pk.start w)
  go_enter Try.func40, Try.ntmps40
  go_wp2_with first
   | (apply bh H 6 (mL id m u b c z s me o a l (.slice A1 n1 k1) (.slice A2 n2 k2) (.slice A3 n3 k3)) 68; clear H; intro gM W1 H; obtain ⟨-, cM⟩ := n1_ H)
   | (apply bh H 7 (xL kd i p n (.slice Ad d.length kdd) f) 65; clear H cM; intro gX W2 H; obtain ⟨-, cX, cM⟩ := n2_ H)
   | (apply bh H 10 (oL gst gw gg) 59; clear H cX cM; intro gG W3 H; obtain ⟨-, cG, cX, cM⟩ := n3_ H)
  clear cG cX cM
  refine start_ (n := 27) (S := fun W => bW W gM (mL id m u b c z s me o a l (.slice A1 n1 k1) (.slice A2 n2 k2) (.slice A3 n3 k3)) /\ bW W gX (xL kd i p n (.slice Ad d.length kdd) f) /\ bW W gG (oL gst gw gg)) (ds := []) (bq 27 0) (by kernel_rfl) rfl (by kernel_rfl) ⟨H.out.drew.cell 2 rfl, H.out.drew.cell 1 rfl, H.out.drew.cell 0 rfl⟩ (fun hHeld => ?_)
  refine with_tabW tab_revetmentref29_Zone_1 bits_revetmentref29_Zone_1 (fun HT_ HW_ => ?_)
  have zH := H.out.drew
  generalize W3.drew = W4 at zH hHeld ⊢
  replace H := Lib.hid zH; clear zH
  apply tw 0 13 (bq 27 1) HT_ HW_ hHeld
  apply pu 1 14 (bq 27 3) HT_
  apply on 2 (some 15) (bq 27 7) HT_; intro K hK
  refine gs Try.func35 #[modV id m u b c z s me o a l (.slice A1 n1 k1) (.slice A2 n2 k2) (.slice A3 n3 k3), .int .i64 z_] ?_
  refine (HTH.out _ _ _ _ (MC_below HMC.out H.out.below)).mono ?_
  rintro e W5 ⟨rfl, hb⟩
  refine ⟨_, rfl, ?_⟩
  replace H := pc H hb
  clear hb
  refine hK.out _ _ ⟨H.out.cell 2 rfl, H.out.cell 1 rfl, H.out.cell 0 rfl⟩ (fun hHeld => ?_)
  clear hK K
  apply nm 0
  apply pu 3 16 (bq 27 15) HT_
  apply pu 4 17 (bq 27 31) HT_
  apply tw 5 18 (bq 27 63) HT_ HW_ hHeld
  apply pu 6 19 (bq 27 127) HT_
  apply pu 7 20 (bq 27 255) HT_
  apply pu 8 21 (bq 27 511) HT_
  apply po 9 22 (bq 27 1023) HT_
  apply po 10 23 (bq 27 2047) HT_
  apply po 11 24 (bq 27 4095) HT_
  apply po 12 25 (bq 27 8191) HT_
  apply po 13 26 (bq 27 16383) HT_
  apply po 14 27 (bq 27 32767) HT_
  apply po 15 28 (bq 27 65535) HT_
  apply pu 16 29 (bq 27 131071) HT_
  apply pu 17 30 (bq 27 262143) HT_
  apply po 18 31 (bq 27 524287) HT_
  apply po 19 32 (bq 27 1048575) HT_
  apply po 20 33 (bq 27 2097151) HT_
  apply po 21 34 (bq 27 4194303) HT_
  apply po 22 35 (bq 27 8388607) HT_
  apply po 23 36 (bq 27 16777215) HT_
  apply po 24 37 (bq 27 33554431) HT_
  apply pu 25 38 (bq 27 67108863) HT_
  apply pu 26 12 (bq 27 134217727) HT_
  refine done_ (done_of HT_.out (by kernel_rfl)) ?_
  obtain ⟨-, cG, cX, cM⟩ := n3_ H
  go_wp2
  go_ret
  refine ⟨?_, H.out.below⟩
  rw [HV.out]; try rfl
 ·
  have HV := Lib.hid hv; clear hv
  have b1 : decide (0 <= gw) = true := decide_eq_true h1
  have c1 : decide (gw >= 0) = true := decide_eq_true h1
  have b2 : decide (gw <= Z) = false := decide_eq_false h2
  have H := Lib.hid (Pk.start w)
  go_enter Try.func40, Try.ntmps40
  go_wp2_with first
   | (apply bh H 6 (mL id m u b c z s me o a l (.slice A1 n1 k1) (.slice A2 n2 k2) (.slice A3 n3 k3)) 68; clear H; intro gM W1 H; obtain ⟨-, cM⟩ := n1_ H)
   | (apply bh H 7 (xL kd i p n (.slice Ad d.length kdd) f) 65; clear H cM; intro gX W2 H; obtain ⟨-, cX, cM⟩ := n2_ H)
   | (apply bh H 10 (oL gst gw gg) 59; clear H cX cM; intro gG W3 H; obtain ⟨-, cG, cX, cM⟩ := n3_ H)
  clear cG cX cM
  refine start_ (n := 27) (S := fun W => bW W gM (mL id m u b c z s me o a l (.slice A1 n1 k1) (.slice A2 n2 k2) (.slice A3 n3 k3)) /\ bW W gX (xL kd i p n (.slice Ad d.length kdd) f) /\ bW W gG (oL gst gw gg)) (ds := []) (bq 27 0) (by kernel_rfl) rfl (by kernel_rfl) ⟨H.out.drew.cell 2 rfl, H.out.drew.cell 1 rfl, H.out.drew.cell 0 rfl⟩ (fun hHeld => ?_)
  refine with_tabW tab_revetmentref29_Zone_1 bits_revetmentref29_Zone_1 (fun HT_ HW_ => ?_)
  have zH := H.out.drew
  generalize W3.drew = W4 at zH hHeld ⊢
  replace H := Lib.hid zH; clear zH
  apply tw 0 13 (bq 27 1) HT_ HW_ hHeld
  apply pu 1 14 (bq 27 3) HT_
  apply on 2 (some 15) (bq 27 7) HT_; intro K hK
  refine gs Try.func35 #[modV id m u b c z s me o a l (.slice A1 n1 k1) (.slice A2 n2 k2) (.slice A3 n3 k3), .int .i64 z_] ?_
  refine (HTH.out _ _ _ _ (MC_below HMC.out H.out.below)).mono ?_
  rintro e W5 ⟨rfl, hb⟩
  refine ⟨_, rfl, ?_⟩
  replace H := pc H hb
  clear hb
  refine hK.out _ _ ⟨H.out.cell 2 rfl, H.out.cell 1 rfl, H.out.cell 0 rfl⟩ (fun hHeld => ?_)
  clear hK K
  apply nm 0
  apply pu 3 16 (bq 27 15) HT_
  apply pu 4 17 (bq 27 31) HT_
  apply tw 5 18 (bq 27 63) HT_ HW_ hHeld
  apply pu 6 19 (bq 27 127) HT_
  apply pu 7 20 (bq 27 255) HT_
  apply pu 8 21 (bq 27 511) HT_
  apply pu 9 22 (bq 27 1023) HT_
  apply tw 10 23 (bq 27 2047) HT_ HW_ hHeld
  apply pu 11 24 (bq 27 4095) HT_
  apply pu 12 25 (bq 27 8191) HT_
  apply tw 13 26 (bq 27 16383) HT_ HW_ hHeld
  apply on 14 (some 27) (bq 27 32767) HT_; intro K hK
  refine gs Try.func41 #[.agg #[.int .i64 id, .int .i64 m, .int .i64 u, .int .i64 b, .int .i64 c, .int .i64 z, .int .i64 s, .int .i64 me, .int .i64 o, .int .i64 a, .int .i64 l]] ?_
  refine (HSZ.out _).mono ?_
  rintro e W6 ⟨rfl, hb⟩
  refine ⟨_, rfl, ?_⟩
  replace H := pc H hb
  clear hb
  refine hK.out _ _ ⟨H.out.cell 2 rfl, H.out.cell 1 rfl, H.out.cell 0 rfl⟩ (fun hHeld => ?_)
  clear hK K
  apply nm 0
  apply pu 15 28 (bq 27 65535) HT_
  apply pu 16 29 (bq 27 131071) HT_
  apply pu 17 30 (bq 27 262143) HT_
  apply po 18 31 (bq 27 524287) HT_
  apply po 19 32 (bq 27 1048575) HT_
  apply po 20 33 (bq 27 2097151) HT_
  apply po 21 34 (bq 27 4194303) HT_
  apply po 22 35 (bq 27 8388607) HT_
  apply po 23 36 (bq 27 16777215) HT_
  apply po 24 37 (bq 27 33554431) HT_
  apply pu 25 38 (bq 27 67108863) HT_
  apply pu 26 12 (bq 27 134217727) HT_
  refine done_ (done_of HT_.out (by kernel_rfl)) ?_
  obtain ⟨-, cG, cX, cM⟩ := n3_ H
  go_wp2
  go_ret
  refine ⟨?_, H.out.below⟩
  rw [HV.out]; try rfl
 ·
  have HV := Lib.hid hv; clear hv
  have HIN := Lib.hid hin; clear hin
  have b1 : decide (0 <= gw) = true := decide_eq_true h1
  have c1 : decide (gw >= 0) = true := decide_eq_true h1
  have b2 : decide (gw <= Z) = true := decide_eq_true h2
  have H := Lib.hid (Pk.start w)
  go_enter Try.func40, Try.ntmps40
  go_wp2_with first
   | (apply bh H 6 (mL id m u b c z s me o a l (.slice A1 n1 k1) (.slice A2 n2 k2) (.slice A3 n3 k3)) 68; clear H; intro gM W1 H; obtain ⟨-, cM⟩ := n1_ H)
   | (apply bh H 7 (xL kd i p n (.slice Ad d.length kdd) f) 65; clear H cM; intro gX W2 H; obtain ⟨-, cX, cM⟩ := n2_ H)
   | (apply bh H 10 (oL gst gw gg) 59; clear H cX cM; intro gG W3 H; obtain ⟨-, cG, cX, cM⟩ := n3_ H)
  clear cG cX cM
  refine start_ (n := 27) (S := fun W => bW W gM (mL id m u b c z s me o a l (.slice A1 n1 k1) (.slice A2 n2 k2) (.slice A3 n3 k3)) /\ bW W gX (xL kd i p n (.slice Ad d.length kdd) f) /\ bW W gG (oL gst gw gg)) (ds := []) (bq 27 0) (by kernel_rfl) rfl (by kernel_rfl) ⟨H.out.drew.cell 2 rfl, H.out.drew.cell 1 rfl, H.out.drew.cell 0 rfl⟩ (fun hHeld => ?_)
  refine with_tabW tab_revetmentref29_Zone_1 bits_revetmentref29_Zone_1 (fun HT_ HW_ => ?_)
  have zH := H.out.drew
  generalize W3.drew = W4 at zH hHeld ⊢
  replace H := Lib.hid zH; clear zH
  apply tw 0 13 (bq 27 1) HT_ HW_ hHeld
  apply pu 1 14 (bq 27 3) HT_
  apply on 2 (some 15) (bq 27 7) HT_; intro K hK
  refine gs Try.func35 #[modV id m u b c z s me o a l (.slice A1 n1 k1) (.slice A2 n2 k2) (.slice A3 n3 k3), .int .i64 z_] ?_
  refine (HTH.out _ _ _ _ (MC_below HMC.out H.out.below)).mono ?_
  rintro e W5 ⟨rfl, hb⟩
  refine ⟨_, rfl, ?_⟩
  replace H := pc H hb
  clear hb
  refine hK.out _ _ ⟨H.out.cell 2 rfl, H.out.cell 1 rfl, H.out.cell 0 rfl⟩ (fun hHeld => ?_)
  clear hK K
  apply nm 0
  apply pu 3 16 (bq 27 15) HT_
  apply pu 4 17 (bq 27 31) HT_
  apply tw 5 18 (bq 27 63) HT_ HW_ hHeld
  apply pu 6 19 (bq 27 127) HT_
  apply pu 7 20 (bq 27 255) HT_
  apply pu 8 21 (bq 27 511) HT_
  apply pu 9 22 (bq 27 1023) HT_
  apply tw 10 23 (bq 27 2047) HT_ HW_ hHeld
  apply pu 11 24 (bq 27 4095) HT_
  apply pu 12 25 (bq 27 8191) HT_
  apply tw 13 26 (bq 27 16383) HT_ HW_ hHeld
  apply on 14 (some 27) (bq 27 32767) HT_; intro K hK
  refine gs Try.func41 #[.agg #[.int .i64 id, .int .i64 m, .int .i64 u, .int .i64 b, .int .i64 c, .int .i64 z, .int .i64 s, .int .i64 me, .int .i64 o, .int .i64 a, .int .i64 l]] ?_
  refine (HSZ.out _).mono ?_
  rintro e W6 ⟨rfl, hb⟩
  refine ⟨_, rfl, ?_⟩
  replace H := pc H hb
  clear hb
  refine hK.out _ _ ⟨H.out.cell 2 rfl, H.out.cell 1 rfl, H.out.cell 0 rfl⟩ (fun hHeld => ?_)
  clear hK K
  apply nm 0
  apply pu 15 28 (bq 27 65535) HT_
  apply pu 16 29 (bq 27 131071) HT_
  apply pu 17 30 (bq 27 262143) HT_
  apply tw 18 31 (bq 27 524287) HT_ HW_ hHeld
  apply tw 19 32 (bq 27 1048575) HT_ HW_ hHeld
  apply pu 20 33 (bq 27 2097151) HT_
  apply pu 21 34 (bq 27 4194303) HT_
  apply tw 22 35 (bq 27 8388607) HT_ HW_ hHeld
  apply pu 23 36 (bq 27 16777215) HT_
  apply on 24 (some 37) (bq 27 33554431) HT_; intro K hK
  refine gs Try.func92 #[modV id m u b c z s me o a l (.slice A1 n1 k1) (.slice A2 n2 k2) (.slice A3 n3 k3), cmdV kd i p n (.slice Ad d.length kdd) f, .bool is, .int .i64 z_, .agg #[.int .i64 gst, .int .i64 gw, .int .i64 gg], .string tx] ?_
  refine (HAL.out _ H.out.below (MC_below HMC.out H.out.below) (Kd.C_below HD.out H.out.below) HIN.out).mono ?_
  rintro e W7 ⟨rfl, hb⟩
  refine ⟨_, rfl, ?_⟩
  replace H := pc H hb
  clear hb
  refine hK.out _ _ ⟨H.out.cell 2 rfl, H.out.cell 1 rfl, H.out.cell 0 rfl⟩ (fun hHeld => ?_)
  clear hK K
  apply nm 0
  apply pu 25 38 (bq 27 67108863) HT_
  apply pu 26 12 (bq 27 134217727) HT_
  refine done_ (done_of HT_.out (by kernel_rfl)) ?_
  obtain ⟨-, cG, cX, cM⟩ := n3_ H
  go_wp2
  go_ret
  refine ⟨?_, H.out.below⟩
  rw [HV.out]; try rfl
theorem rzone_any (id m u b c z s me o a l : Int) (x y q : Value) (D : Mdl) (kd i p n : Int) (Ad : Option Addr) (kdd : Nat) (d : List Int) (f : Bool) (is : Bool) (z_ gst gw gg : Int) (tx : ByteArray) (w : World) (h : MC w x y q D) (hi : MInv2 id m u b c z s me o a l D) (hd : Kd.C (Kd.int .u8) w Ad d.length d) (hdk : d.length <= kdd) (hg : -100 <= gw /\ gw <= 3932160) : Calls Try.prog 40 #[modV id m u b c z s me o a l x y q, cmdV kd i p n (.slice Ad d.length kdd) f, .bool is, .int .i64 z_, .agg #[.int .i64 gst, .int .i64 gw, .int .i64 gg], .string tx] w fun e w' => e = .returned (.bool (zoneR id m u b c z s me o a l D (⟨kd, i, p, n, d, f⟩ : S65) is z_ ⟨gst, gw, gg⟩ tx)) /\ Below w.heap.size w w' := by
 refine rzone_q id m u b c z s me o a l x y q D kd i p n Ad kdd d f is z_ gst gw gg tx w h hi hd hdk _ _ rfl (fun W hb hW hdW hin => ?_)
 ·
  have hok := doM_ok hi (⟨kd, i, p, n, d, f⟩ : S65)
  have hln := doM_len hi (⟨kd, i, p, n, d, f⟩ : S65)
  have hbb := okC_bd (checkC_ok (rightZ_len hi.1.1).1).1
  have e1 : gw * b <= 3932160 * b := Int.mul_le_mul_of_nonneg_right hg.2 (by omega)
  have e2 : -100 * b <= gw * b := Int.mul_le_mul_of_nonneg_right hg.1 (by omega)
  have hT : D.T.length = D.L.length := hi.1.2.1
  have hT2 : (doM id m u b c z s me o a l D (⟨kd, i, p, n, d, f⟩ : S65)).1.T.length = (doM id m u b c z s me o a l D (⟨kd, i, p, n, d, f⟩ : S65)).1.L.length := hok.1.1.2.1
  refine al_any id m u b c z s me o a l W x y q D (doM id m u b c z s me o a l D (⟨kd, i, p, n, d, f⟩ : S65)).1 kd i p n Ad kdd d f is _ _ _ z_ (doM id m u b c z s me o a l D (⟨kd, i, p, n, d, f⟩ : S65)).2.1 (rd_T59 D.L z_).f0 (rd_T59 D.L z_).f1 (rd_T59 D.L z_).f2 (rd_T59 (doM id m u b c z s me o a l D (⟨kd, i, p, n, d, f⟩ : S65)).1.L z_).f0 (rd_T59 (doM id m u b c z s me o a l D (⟨kd, i, p, n, d, f⟩ : S65)).1.L z_).f1 (rd_T59 (doM id m u b c z s me o a l D (⟨kd, i, p, n, d, f⟩ : S65)).1.L z_).f2 gst gw gg (gw * b) (rdOf default D.S z_) tx (rdOf default D.T z_) (rdOf default (doM id m u b c z s me o a l D (⟨kd, i, p, n, d, f⟩ : S65)).1.T z_) ⟨hW, hi.1, hdW, hdk, fun W2 h2 hd2 => (rdo_any id m u b c z s me o a l x y q D kd i p n Ad kdd d f W2 h2 hi.1 hd2 hdk).mono ?_, hin, ⟨hln, by rw [hT2, hln, hT]⟩, rfl, rfl, rfl, rfl, rfl, ⟨?_, ?_⟩, rfl, rfl, rfl, by unfold wrap64; omega, fun hlo => ?_⟩
  ·
   rintro e w' ⟨x', y', q', he, hM, hb2⟩
   exact ⟨⟨_, _, x', y', q', he, hM⟩, hb2⟩
  · have := text_small hi.1 hin.1 hin.2; omega
  · have := text_small hok.1.1 hin.1 (by rw [hT2, hln, <- hT]; exact hin.2); omega
  ·
   have h0 := (hi.1.2.2.2 z_.toNat (by omega)).2.1
   rw [Int.toNat_of_nonneg hin.1] at h0
   exact Int.mul_nonneg (by omega) (by omega)
end Go.Proofs.Ytgckcaoncjhgbaa
namespace Go.Proofs.Ytgckcaoncjhgbaa
open Go.RowKit Go.Proofs.Ytgckcaoncjhgbaa.PL Go.Proofs.YtgckcaoncjhgbaaW.PrintWords Go.Proofs.YtgckcaoncjhgbaaW.PrintLast
set_option linter.unusedVariables false
set_option linter.unusedSimpArgs false
theorem tl_size {x y : ByteArray} (h : (x.toList == y.toList) = true) : x.size = y.size := by
 have e : x.toList = y.toList := by simpa using h
 rw [ByteArray.toList_eq, ByteArray.toList_eq] at e
 have := congrArg List.length e
 rw [data_length, data_length] at this; exact this
theorem take_str (wh : ByteArray) (n : Nat) : strOfNums ((bytesOf wh).take n) = wh.extract 0 n := by
 apply ByteArray.ext
 apply Array.ext'
 have e : ((fun n : Int => UInt8.ofNat n.toNat) ∘ fun b : UInt8 => (b.toNat : Int)) = id := by funext b; simp
 simp [strOfNums, bytesOf, List.map_take, List.map_map, e]
theorem empty_iff (tx : List Int) : (strOfNums tx).toList.isEmpty = decide (tx.length = 0) := by
 rw [ByteArray.toList_eq]
 cases tx <;> simp [strOfNums]
theorem tail_big {Z b gst gw gg ws ww wg lo hi_ rr Y : Int} {cb : Bool} {tx : List Int} {wh : ByteArray} (hlo : 0 <= lo) (hhi : hi_ <= Z) (hb : 1 <= b) (hY : Y = gw * b) (hw : (wh.size : Int) = hi_ * b) (hrr : rr = if cb = true then 3 else if gw = Z then 3 else if gw = 0 then 0 else 2) :
  tailB gst gw gg ws ww wg lo hi_ rr cb Y tx (bytesOf wh) = if 0 <= gw then if gw <= Z then bigB Z cb ws ww wg gst gw gg lo Y (strOfNums tx) wh else false else false := by
 unfold tailB bigB withinB
 rw [bytesOf_length, <- hrr]
 by_cases q1 : gg = wg
 rotate_left
 · simp [q1]
 simp only [q1, not_true_eq_false, ↓reduceIte]
 by_cases q2 : gw < lo
 · simp [q2]
 have g0 : 0 <= gw := by omega
 simp only [q2, g0, ↓reduceIte]
 by_cases q3 : hi_ < gw
 ·
  have h1 : hi_ * b < gw * b := Int.mul_lt_mul_of_pos_right q3 (by omega)
  have h3 : ¬ Y <= (wh.size : Int) := by omega
  simp [q3, h3]
 have h2 : gw * b <= hi_ * b := Int.mul_le_mul_of_nonneg_right (by omega) (by omega)
 have h3 : Y <= (wh.size : Int) := by omega
 have g1 : gw <= Z := by omega
 simp only [q3, g1, h3, not_true_eq_false, ↓reduceIte]
 by_cases q4 : gst = rr
 rotate_left
 · simp [q4]
 simp only [q4, not_true_eq_false, ↓reduceIte, take_str]
 have h0 : 0 <= Y := by rw [hY]; exact Int.mul_nonneg (by omega) (by omega)
 cases hE : ((strOfNums tx).toList == (wh.extract 0 Y.toNat).toList)
 · simp
 ·
  have hs := tl_size hE
  rw [ByteArray.size_extract] at hs
  have hs2 : ((strOfNums tx).size : Int) = Y := by omega
  by_cases q5 : cb = true /\ ¬ gw = ww
  · simp [q5]
  · simp [q5, hs2]
theorem zone_same (id m u b c z s me o a l : Int) {D : Mdl} (hi : MInv2 id m u b c z s me o a l D) (X : S65) (is : Bool) (z_ : Int) (g : S59) (tx : List Int) : zoneB id m u b c z s me o a l D X is z_ g tx = zoneR id m u b c z s me o a l D X is z_ g (strOfNums tx) := by
 unfold zoneB zoneR
 by_cases hin : 0 <= z_ /\ z_ < (D.T.length : Int)
 rotate_left
 · rw [if_neg hin, if_neg hin]
 rw [if_pos hin, if_pos hin]
 have hok := doM_ok hi X
 have hln := doM_len hi X
 have hbb := okC_bd (checkC_ok (rightZ_len hi.1.1).1).1
 have hT : D.T.length = D.L.length := hi.1.2.1
 have hT2 : (doM id m u b c z s me o a l D X).1.T.length = (doM id m u b c z s me o a l D X).1.L.length := hok.1.1.2.1
 have hin2 : 0 <= z_ /\ z_ < ((doM id m u b c z s me o a l D X).1.T.length : Int) := by rw [hT2, hln, <- hT]; exact hin
 have f0 := rd_wp hi.1 z_.toNat (by omega)
 have f1 := hi.1.2.2.2 z_.toNat (by omega)
 have g0 := rd_wp hok.1.1 z_.toNat (by omega)
 have g1 := hok.1.1.2.2.2 z_.toNat (by omega)
 rw [Int.toNat_of_nonneg hin.1] at f0 f1 g0 g1
 have hm : mineB is X.f1 z_ (doM id m u b c z s me o a l D X).2.1 = (is && ((doM id m u b c z s me o a l D X).2.1 == 0) && (X.f1 == z_)) := by unfold mineB; cases is <;> simp [Bool.and_comm]
 unfold highM textL zoneOf
 rw [if_pos hin, if_pos hin2, hm, if_pos hin, if_pos hin2, strOf_bytesOf]
 generalize (is && ((doM id m u b c z s me o a l D X).2.1 == 0) && (X.f1 == z_)) = mb
 clear hm
 generalize (doM id m u b c z s me o a l D X).1 = N at *
 generalize rd_T59 D.L z_ = wz at *
 generalize rd_T59 N.L z_ = tz at *
 generalize rdOf default D.T z_ = wD at *
 generalize rdOf default N.T z_ = wN at *
 generalize rdOf default D.S z_ = lo at *
 have hrr : restB (sizeC m u b c z s me o a l) wz g.f1 = if cutB (sizeC m u b c z s me o a l) wz = true then 3 else if g.f1 = sizeC m u b c z s me o a l then 3 else if g.f1 = 0 then 0 else 2 := rfl
 have tD := tail_big (Z := sizeC m u b c z s me o a l) (b := b) (gst := g.f0) (gw := g.f1) (gg := g.f2) (ws := wz.f0) (ww := wz.f1) (wg := wz.f2) (lo := lo) (hi_ := wz.f1) (Y := g.f1 * b) (cb := cutB (sizeC m u b c z s me o a l) wz) (tx := tx) (wh := wD) f1.2.1 f0.2 (by omega) rfl f1.1 hrr
 have tN := tail_big (Z := sizeC m u b c z s me o a l) (b := b) (gst := g.f0) (gw := g.f1) (gg := g.f2) (ws := wz.f0) (ww := wz.f1) (wg := wz.f2) (lo := lo) (hi_ := tz.f1) (Y := g.f1 * b) (cb := cutB (sizeC m u b c z s me o a l) wz) (tx := tx) (wh := wN) f1.2.1 g0.2 (by omega) rfl g1.1 hrr
 unfold zoneQ alQ
 rw [empty_iff]
 by_cases c1 : mb = true /\ X.f0 = 0
 ·
  rw [if_pos c1, if_pos c1, if_pos c1, tN]
  have e3 : ¬ (mb = true /\ X.f0 = 3) := fun h => by have := c1.2; omega
  have e4 : ¬ (mb = true /\ X.f0 = 4) := fun h => by have := c1.2; omega
  rw [if_neg e3, if_neg e4]
  split <;> (try rfl)
  split <;> (try rfl)
  cases bigB (sizeC m u b c z s me o a l) (cutB (sizeC m u b c z s me o a l) wz) wz.f0 wz.f1 wz.f2 g.f0 g.f1 g.f2 lo (g.f1 * b) (strOfNums tx) wN <;> rfl
 ·
  rw [if_neg c1, if_neg c1, if_neg c1, tD]
  generalize hB : bigB (sizeC m u b c z s me o a l) (cutB (sizeC m u b c z s me o a l) wz) wz.f0 wz.f1 wz.f2 g.f0 g.f1 g.f2 lo (g.f1 * b) (strOfNums tx) wD = B
  cases hez : (g.f0 == tz.f0 && (g.f1 == tz.f1 && (g.f2 == tz.f2)))
  ·
   simp only [Bool.false_and, Bool.false_eq_true, false_and, and_false, if_false]
   split <;> (try rfl)
   split <;> (try rfl)
   cases B <;> simp
  ·
   have hgw : g.f1 = tz.f1 := by simp only [Bool.and_eq_true, beq_iff_eq] at hez; exact hez.2.1
   have z0 : 0 <= g.f1 := by omega
   have z1 : g.f1 <= sizeC m u b c z s me o a l := by omega
   rw [if_pos z0, if_pos z1, if_pos z0, if_pos z1]
   by_cases c3 : mb = true /\ X.f0 = 3
   ·
    have e4 : ¬ (X.f0 = 4) := by have := c3.2; omega
    by_cases hl : tx.length = 0
    · simp [c3, hl]
    · simp [c3, hl, e4]
   ·
    by_cases c4 : mb = true /\ X.f0 = 4
    ·
     cases hd : ((strOfNums tx).toList == wD.toList)
     · simp [c4]
     · simp [c4]
    ·
     by_cases hmb : mb = true
     ·
      have d3 : ¬ X.f0 = 3 := fun h => c3 ⟨hmb, h⟩
      have d4 : ¬ X.f0 = 4 := fun h => c4 ⟨hmb, h⟩
      simp [d3, d4]
     · simp [hmb]
end Go.Proofs.Ytgckcaoncjhgbaa
namespace Go.Proofs.Ytgckcaoncjhgbaa
open Go.RowKit Go.Proofs.Ytgckcaoncjhgbaa.PL Go.Proofs.YtgckcaoncjhgbaaW.PrintWords Go.Proofs.YtgckcaoncjhgbaaW.PrintLast
set_option linter.unusedVariables false
set_option linter.unusedSimpArgs false
attribute [local go_sem] List.getElem?_toArray List.getElem?_cons_succ List.getElem?_cons_zero mL tL cL xL rL oL
def T_revetmentlaw29_JudgeZones_7 : Bool × List (List Nat × List Nat) := (true, [([], []), ([], []), ([0, 1], [0, 1]), ([], []), ([2, 3], [2, 3]), ([4, 2], [4]), ([5], [5]), ([5], [5]), ([5], [5]), ([5], [5]), ([6, 7, 8, 9, 5, 5], [5, 6, 7, 8, 9]), ([5], [5]), ([5], [5]), ([5], [5]), ([5], [5]), ([11, 12, 13, 14, 10, 5], [5, 11, 12, 13, 14]), ([10, 15, 5], [5, 10, 15]), ([5, 16], [5, 16])])
theorem tab_revetmentlaw29_JudgeZones_7 : rtab .any (opsOf Try.f7 7) = T_revetmentlaw29_JudgeZones_7 := by kernel_rfl
theorem bits_revetmentlaw29_JudgeZones_7 : waitsOk T_revetmentlaw29_JudgeZones_7.2 [0, 0, 3, 0, 15, 31, 63, 63, 63, 63, 1023, 63, 63, 63, 63, 32767, 65535, 131071] = true := by kernel_rfl
def T_revetmentlaw29_JudgeZones_9 : Bool × List (List Nat × List Nat) := (true, [([], []), ([], []), ([], []), ([], []), ([], []), ([], []), ([0, 1, 2, 3, 4, 5], [0, 1, 2, 3, 4, 5]), ([], []), ([], []), ([], []), ([], []), ([], []), ([], []), ([12], [12]), ([7, 8, 9, 10, 11, 13, 6], [7, 8, 9, 10, 11, 13]), ([6, 14], [6, 14]), ([15, 14], [15]), ([16, 16], [16]), ([16, 17], [16, 17]), ([18, 17, 0, 1, 2, 3, 4, 5, 6, 7, 8, 9, 10, 11, 12, 13, 14, 15, 16, 17, 18], [18])])
theorem tab_revetmentlaw29_JudgeZones_9 : rtab .any (opsOf Try.f7 9) = T_revetmentlaw29_JudgeZones_9 := by kernel_rfl
theorem bits_revetmentlaw29_JudgeZones_9 : waitsOk T_revetmentlaw29_JudgeZones_9.2 [0, 0, 0, 0, 0, 0, 63, 0, 0, 0, 0, 0, 0, 4096, 16383, 32767, 65535, 131071, 262143, 524287] = true := by kernel_rfl
set_option maxHeartbeats 16000000 in
set_option maxRecDepth 100000 in
theorem zones_no (id m u b c z s me o a l : Int) (Aa : Option Addr) (ca nx : Nat) (kd i p n : Int) (Ad : Option Addr) (kdd : Nat) (d : List Int) (f : Bool) (is : Bool) (z_ gst gw gg : Int) (At : Option Addr) (kt : Nat) (tx : List Int) (D : Mdl) (w : World) (hd : Kd.C (Kd.int .u8) w Ad d.length d) (hdk : d.length <= kdd) (ht : Kd.C (Kd.int .u8) w At tx.length tx) (htk : tx.length <= kt) (hbo : BothN id m u b c z s me o a l Aa ca nx w) : Calls Try.prog 7 #[.agg #[.int .i64 id, .int .i64 m, .int .i64 u, .int .i64 b, .int .i64 c, .int .i64 z, .int .i64 s, .int .i64 me, .int .i64 o, .int .i64 a, .int .i64 l], .slice Aa nx ca, cmdV kd i p n (.slice Ad d.length kdd) f, .bool is, .int .i64 z_, .agg #[.int .i64 gst, .int .i64 gw, .int .i64 gg], .slice At tx.length kt] w fun e w' => e = .returned (.bool true) /\ Below w.heap.size w w' := by
 have H := Lib.hid (Pk.start w)
 obtain ⟨lt, hlt⟩ : ∃ n, n = tx.length := ⟨_, rfl⟩
 rw [<- hlt] at ht htk ⊢
 have HBO := Lib.hid hbo; clear hbo hd hdk ht htk hlt
 go_enter Try.func7, Try.ntmps7
 go_wp2_with first
  | (apply bh H 7 (cL id m u b c z s me o a l) 23; clear H; intro gC W1 H; obtain ⟨-, cC⟩ := n1_ H)
  | (apply bh H 9 (xL kd i p n (.slice Ad d.length kdd) f) 65; clear H cC; intro gX W2 H; obtain ⟨-, cX, cC⟩ := n2_ H)
  | (apply bh H 12 (oL gst gw gg) 59; clear H cX cC; intro gG W3 H; obtain ⟨-, cG, cX, cC⟩ := n3_ H)
  | (go_at_call 33; refine (HBO.out _ H.out.below).mono ?_; rintro e W4 ⟨rfl, hb⟩; clear cG cX cC; replace H := pc H hb; clear hb; obtain ⟨-, cG, cX, cC⟩ := n3_ H)
  | (apply bh H 15 (mL 0 0 0 0 0 0 0 0 0 0 0 nil_ nil_ nil_) 53; clear H cG cX cC; intro gM W5 H; obtain ⟨-, cM, cG, cX, cC⟩ := n4_ H)
  | (apply bh H 16 (mL 0 0 0 0 0 0 0 0 0 0 0 nil_ nil_ nil_) 68; clear H cM cG cX cC; intro gQ W6 H; obtain ⟨-, cQ, cM, cG, cX, cC⟩ := n5_ H)
  | (apply sn H 1 53 15 gM (mL 0 0 0 0 0 0 0 0 0 0 0 nil_ nil_ nil_))
  | (apply sn H 0 68 16 gQ (mL 0 0 0 0 0 0 0 0 0 0 0 nil_ nil_ nil_))
  | (go_at_call 34; refine (live29_any _).mono ?_; rintro e W7 ⟨rfl, hb⟩; clear cQ cM cG cX cC; replace H := pc H hb; clear hb; obtain ⟨-, cQ, cM, cG, cX, cC⟩ := n5_ H)
 go_ret
 exact ⟨rfl, H.out.below⟩
set_option maxHeartbeats 16000000 in
set_option maxRecDepth 100000 in
theorem zones_live (id m u b c z s me o a l : Int) (Aa : Option Addr) (ca nx : Nat) (kd i p n : Int) (Ad : Option Addr) (kdd : Nat) (d : List Int) (f : Bool) (is : Bool) (z_ gst gw gg : Int) (At : Option Addr) (kt : Nat) (tx : List Int) (D : Mdl) (w : World) (hd : Kd.C (Kd.int .u8) w Ad d.length d) (hdk : d.length <= kdd) (ht : Kd.C (Kd.int .u8) w At tx.length tx) (htk : tx.length <= kt) (hi : MInv2 id m u b c z s me o a l D) (hbo : BothP id m u b c z s me o a l Aa ca nx w D) (hl : (muchB id m u b c z s me o a l [(⟨kd, i, p, n, d, f⟩ : S65)] = true) \/ (muchB id m u b c z s me o a l [(⟨kd, i, p, n, d, f⟩ : S65)] = false /\ 8000 < tx.length) \/ (muchB id m u b c z s me o a l [(⟨kd, i, p, n, d, f⟩ : S65)] = false /\ ¬ 8000 < tx.length /\ gw < -100) \/ (muchB id m u b c z s me o a l [(⟨kd, i, p, n, d, f⟩ : S65)] = false /\ ¬ 8000 < tx.length /\ ¬ gw < -100 /\ 10000 < gw)) : Calls Try.prog 7 #[.agg #[.int .i64 id, .int .i64 m, .int .i64 u, .int .i64 b, .int .i64 c, .int .i64 z, .int .i64 s, .int .i64 me, .int .i64 o, .int .i64 a, .int .i64 l], .slice Aa nx ca, cmdV kd i p n (.slice Ad d.length kdd) f, .bool is, .int .i64 z_, .agg #[.int .i64 gst, .int .i64 gw, .int .i64 gg], .slice At tx.length kt] w fun e w' => e = .returned (.bool true) /\ Below w.heap.size w w' := by
 obtain ⟨lt, hlt⟩ : ∃ n, n = tx.length := ⟨_, rfl⟩
 rw [<- hlt] at ht htk ⊢
 rw [<- hlt] at hl
 have HBO := Lib.hid hbo; have HD := Lib.hid hd; have HDK := Lib.hid hdk; have HX := Lib.hid ht; have HLX := Lib.hid hlt; have HI := Lib.hid hi; clear hbo hd hdk htk hi ht
 rcases hl with hmx | ⟨hmx, h8⟩ | ⟨hmx, h8, hl⟩ | ⟨hmx, h8, hl, hh⟩ <;> (
  have HMX := Lib.hid hmx; clear hmx
  (try have b8 : decide ((lt : Int) > 8000) = true := decide_eq_true (by omega))
  (try have b8 : decide ((lt : Int) > 8000) = false := decide_eq_false (by omega))
  (try have bl : decide (gw < -100) = true := decide_eq_true (by omega))
  (try have bl : decide (gw < -100) = false := decide_eq_false (by omega))
  (try have bh_ : decide (gw > 10000) = true := decide_eq_true (by omega))
  (try have bh_ : decide (gw > 10000) = false := decide_eq_false (by omega))
  clear hlt
  (try clear h8)
  (try clear hl)
  (try clear hh)
  have H := Lib.hid (Pk.start w)
  go_enter Try.func7, Try.ntmps7
  go_wp2_with first
   | (apply bh H 7 (cL id m u b c z s me o a l) 23; clear H; intro gC W1 H; obtain ⟨-, cC⟩ := n1_ H)
   | (apply bh H 9 (xL kd i p n (.slice Ad d.length kdd) f) 65; clear H cC; intro gX W2 H; obtain ⟨-, cX, cC⟩ := n2_ H)
   | (apply bh H 12 (oL gst gw gg) 59; clear H cX cC; intro gG W3 H; obtain ⟨-, cG, cX, cC⟩ := n3_ H)
   | (go_at_call 33; refine (HBO.out _ H.out.below).mono ?_; rintro e W4 ⟨⟨B1, m1, j1, B2, m2, j2, B3, m3, j3, Bd1, md1, jd1, Bd2, md2, jd2, Bd3, md3, jd3, rfl, hM, hM2⟩, hb⟩; clear cG cX cC; have hb0_ := H.out.below.size; replace H := Lib.hid ((H.out.called hb).row (MrF w.heap.size (.slice B1 m1 j1) (.slice B2 m2 j2) (.slice B3 m3 j3) (D)) (MR_lower hM H.out.below.size)); replace H := Lib.hid ((H.out).row (MrF w.heap.size (.slice Bd1 md1 jd1) (.slice Bd2 md2 jd2) (.slice Bd3 md3 jd3) (D)) (MR_lower hM2 hb0_)); clear hb0_; clear hM hM2; clear hb; obtain ⟨-, cG, cX, cC⟩ := n3_ H)
   | (apply bh H 15 (mL 0 0 0 0 0 0 0 0 0 0 0 nil_ nil_ nil_) 53; clear H cG cX cC; intro gM W5 H; obtain ⟨-, cM, cG, cX, cC⟩ := n4_ H)
   | (apply bh H 16 (mL 0 0 0 0 0 0 0 0 0 0 0 nil_ nil_ nil_) 68; clear H cM cG cX cC; intro gQ W6 H; obtain ⟨-, cQ, cM, cG, cX, cC⟩ := n5_ H)
   | (apply sh H 1 53 15 gM (mL id m u b c z s me o a l (.slice B1 m1 j1) (.slice B2 m2 j2) (.slice B3 m3 j3)); clear H cQ cM cG cX cC; intro W7 K_; obtain ⟨H, cQ, cM, cG, cX, cC⟩ := n5_ K_; clear K_)
   | (apply sh H 0 68 16 gQ (mL id m u b c z s me o a l (.slice Bd1 md1 jd1) (.slice Bd2 md2 jd2) (.slice Bd3 md3 jd3)); clear H cQ cM cG cX cC; intro W8 K_; obtain ⟨H, cQ, cM, cG, cX, cC⟩ := n5_ K_; clear K_)
   | (go_at_call 24; refine (one_much id m u b c z s me o a l H (Kd.C_below HD.out H.out.below) HDK.out HMX.out).mono ?_; rintro e W9 ⟨rfl, H2⟩; clear H cQ cM cG cX cC; have H := H2; clear H2; obtain ⟨-, cQ, cM, cG, cX, cC⟩ := n5_ H)
   | (go_at_call 34; refine (live29_any _).mono ?_; rintro e W10 ⟨rfl, hb⟩; clear cQ cM cG cX cC; replace H := pc H hb; clear hb; obtain ⟨-, cQ, cM, cG, cX, cC⟩ := n5_ H)
  go_ret
  exact ⟨rfl, H.out.below⟩)
set_option maxHeartbeats 16000000 in
set_option maxRecDepth 100000 in
theorem zones_main (id m u b c z s me o a l : Int) (Aa : Option Addr) (ca nx : Nat) (kd i p n : Int) (Ad : Option Addr) (kdd : Nat) (d : List Int) (f : Bool) (is : Bool) (z_ gst gw gg : Int) (At : Option Addr) (kt : Nat) (tx : List Int) (D : Mdl) (w : World) (hd : Kd.C (Kd.int .u8) w Ad d.length d) (hdk : d.length <= kdd) (ht : Kd.C (Kd.int .u8) w At tx.length tx) (htk : tx.length <= kt) (hi : MInv2 id m u b c z s me o a l D) (hbo : BothP id m u b c z s me o a l Aa ca nx w D) (hmx : muchB id m u b c z s me o a l [(⟨kd, i, p, n, d, f⟩ : S65)] = false) (h8 : ¬ 8000 < tx.length) (hl : ¬ gw < -100) (hh : ¬ 10000 < gw) : Calls Try.prog 7 #[.agg #[.int .i64 id, .int .i64 m, .int .i64 u, .int .i64 b, .int .i64 c, .int .i64 z, .int .i64 s, .int .i64 me, .int .i64 o, .int .i64 a, .int .i64 l], .slice Aa nx ca, cmdV kd i p n (.slice Ad d.length kdd) f, .bool is, .int .i64 z_, .agg #[.int .i64 gst, .int .i64 gw, .int .i64 gg], .slice At tx.length kt] w fun e w' => e = .returned (.bool true) /\ Below w.heap.size w w' := by
 have H := Lib.hid (Pk.start w)
 have hg : -100 <= gw /\ gw <= 3932160 := by omega
 have hlw := fun x y q W h => low_any id m u b c z s me o a l x y q D z_ W h hi.1
 have hth := fun x y q W h => rthere_any id m u b c z s me o a l x y q D z_ W h
 have hjh := fun x y q W h hd => high_any id m u b c z s me o a l x y q D kd i p n Ad kdd d f is z_ W h hi hd hdk
 have hrh := fun x y q W h hd => rhigh_any id m u b c z s me o a l x y q D kd i p n Ad kdd d f is z_ W h hi hd hdk
 have hjz := fun x y q W h hd ht => jzone_any id m u b c z s me o a l x y q D kd i p n Ad kdd d f is z_ gst gw gg At kt tx W h hi hd hdk ht htk hg
 have hrz := fun x y q W h hd => rzone_any id m u b c z s me o a l x y q D kd i p n Ad kdd d f is z_ gst gw gg (strOfNums tx) W h hi hd hdk hg
 rw [<- zone_same id m u b c z s me o a l hi] at hrz
 generalize zoneB id m u b c z s me o a l D (⟨kd, i, p, n, d, f⟩ : S65) is z_ ⟨gst, gw, gg⟩ tx = V at hjz hrz
 unfold highM at hrh; dsimp only at hjh hrh
 generalize (if mineB is i z_ (doM id m u b c z s me o a l D (⟨kd, i, p, n, d, f⟩ : S65)).2.1 = true /\ kd = 0 then (zoneOf (doM id m u b c z s me o a l D (⟨kd, i, p, n, d, f⟩ : S65)).1 z_).f1 else (zoneOf D z_).f1) = hv at hjh hrh
 obtain ⟨lo, hlo⟩ : ∃ v, v = (if 0 <= z_ /\ z_ < (D.T.length : Int) then rdOf default D.S z_ else 0) := ⟨_, rfl⟩
 rw [<- hlo] at hlw
 have hL1 : D.S.length = D.T.length := hi.1.2.2.1.trans hi.1.2.1.symm
 have HLO := Lib.hid hlo; have HL1 := Lib.hid hL1; clear hlo hL1
 obtain ⟨lt, hlt⟩ : ∃ n, n = tx.length := ⟨_, rfl⟩
 rw [<- hlt] at ht htk ⊢
 rw [<- hlt] at hjz
 have HBO := Lib.hid hbo; have HD := Lib.hid hd; have HDK := Lib.hid hdk; have HMX := Lib.hid hmx; have HX := Lib.hid ht; have HLX := Lib.hid hlt; have HI := Lib.hid hi; clear hbo hd hdk hmx htk hi ht
 have HLW := Lib.hid hlw; have HTH := Lib.hid hth; have HJH := Lib.hid hjh; have HRH := Lib.hid hrh; have HJZ := Lib.hid hjz; have HRZ := Lib.hid hrz; clear hlw hth hjh hrh hjz hrz
 have b8 : decide ((lt : Int) > 8000) = false := decide_eq_false (by omega)
 have bl : decide (gw < -100) = false := decide_eq_false (by omega)
 have bh_ : decide (gw > 10000) = false := decide_eq_false (by omega)
 clear hlt h8 hl hh hg
 obtain ⟨sx, hsx⟩ : ∃ t, t = strOfNums tx := ⟨_, rfl⟩
 rw [<- hsx] at HRZ
 have HSX := Lib.hid hsx; clear hsx
 go_enter Try.func7, Try.ntmps7
 go_upto_region 4 with first
  | (apply bh H 7 (cL id m u b c z s me o a l) 23; clear H; intro gC W1 H; obtain ⟨-, cC⟩ := n1_ H)
  | (apply bh H 9 (xL kd i p n (.slice Ad d.length kdd) f) 65; clear H cC; intro gX W2 H; obtain ⟨-, cX, cC⟩ := n2_ H)
  | (apply bh H 12 (oL gst gw gg) 59; clear H cX cC; intro gG W3 H; obtain ⟨-, cG, cX, cC⟩ := n3_ H)
  | (go_at_call 33; refine (HBO.out _ H.out.below).mono ?_; rintro e W4 ⟨⟨B1, m1, j1, B2, m2, j2, B3, m3, j3, Bd1, md1, jd1, Bd2, md2, jd2, Bd3, md3, jd3, rfl, hM, hM2⟩, hb⟩; clear cG cX cC; have hb0_ := H.out.below.size; replace H := Lib.hid ((H.out.called hb).row (MrF w.heap.size (.slice B1 m1 j1) (.slice B2 m2 j2) (.slice B3 m3 j3) (D)) (MR_lower hM H.out.below.size)); replace H := Lib.hid ((H.out).row (MrF w.heap.size (.slice Bd1 md1 jd1) (.slice Bd2 md2 jd2) (.slice Bd3 md3 jd3) (D)) (MR_lower hM2 hb0_)); clear hb0_; clear hM hM2; clear hb; obtain ⟨-, cG, cX, cC⟩ := n3_ H)
  | (apply bh H 15 (mL 0 0 0 0 0 0 0 0 0 0 0 nil_ nil_ nil_) 53; clear H cG cX cC; intro gM W5 H; obtain ⟨-, cM, cG, cX, cC⟩ := n4_ H)
  | (apply bh H 16 (mL 0 0 0 0 0 0 0 0 0 0 0 nil_ nil_ nil_) 68; clear H cM cG cX cC; intro gQ W6 H; obtain ⟨-, cQ, cM, cG, cX, cC⟩ := n5_ H)
  | (apply sh H 1 53 15 gM (mL id m u b c z s me o a l (.slice B1 m1 j1) (.slice B2 m2 j2) (.slice B3 m3 j3)); clear H cQ cM cG cX cC; intro W7 K_; obtain ⟨H, cQ, cM, cG, cX, cC⟩ := n5_ K_; clear K_)
  | (apply sh H 0 68 16 gQ (mL id m u b c z s me o a l (.slice Bd1 md1 jd1) (.slice Bd2 md2 jd2) (.slice Bd3 md3 jd3)); clear H cQ cM cG cX cC; intro W8 K_; obtain ⟨H, cQ, cM, cG, cX, cC⟩ := n5_ K_; clear K_)
  | (go_at_call 24; refine (one_much id m u b c z s me o a l H (Kd.C_below HD.out H.out.below) HDK.out HMX.out).mono ?_; rintro e W9 ⟨rfl, H2⟩; clear H cQ cM cG cX cC; have H := H2; clear H2; obtain ⟨-, cQ, cM, cG, cX, cC⟩ := n5_ H)
 go_cut [18] from 19 (fun s18 wx => s18 = .int .i64 0 /\ Hid (Pk w wx [⟨gQ, 68, (mL id m u b c z s me o a l (.slice Bd1 md1 jd1) (.slice Bd2 md2 jd2) (.slice Bd3 md3 jd3)).toArray⟩, ⟨gM, 53, (mL id m u b c z s me o a l (.slice B1 m1 j1) (.slice B2 m2 j2) (.slice B3 m3 j3)).toArray⟩, ⟨gG, 59, (oL gst gw gg).toArray⟩, ⟨gX, 65, (xL kd i p n (.slice Ad d.length kdd) f).toArray⟩, ⟨gC, 23, (cL id m u b c z s me o a l).toArray⟩] [MrF w.heap.size (.slice Bd1 md1 jd1) (.slice Bd2 md2 jd2) (.slice Bd3 md3 jd3) (D), MrF w.heap.size (.slice B1 m1 j1) (.slice B2 m2 j2) (.slice B3 m3 j3) (D)]))
 case first =>
  go_wp2
  go_meet
  exact ⟨rfl, H⟩
 case rest =>
  clear H cQ cM cG cX cC
  obtain ⟨rfl, H⟩ := hcut
  go_step
  go_step
  go_cut [18] from 19 (fun s18 wx => s18 = .int .i64 lo /\ Hid (Pk w wx [⟨gQ, 68, (mL id m u b c z s me o a l (.slice Bd1 md1 jd1) (.slice Bd2 md2 jd2) (.slice Bd3 md3 jd3)).toArray⟩, ⟨gM, 53, (mL id m u b c z s me o a l (.slice B1 m1 j1) (.slice B2 m2 j2) (.slice B3 m3 j3)).toArray⟩, ⟨gG, 59, (oL gst gw gg).toArray⟩, ⟨gX, 65, (xL kd i p n (.slice Ad d.length kdd) f).toArray⟩, ⟨gC, 23, (cL id m u b c z s me o a l).toArray⟩] [MrF w.heap.size (.slice Bd1 md1 jd1) (.slice Bd2 md2 jd2) (.slice Bd3 md3 jd3) (D), MrF w.heap.size (.slice B1 m1 j1) (.slice B2 m2 j2) (.slice B3 m3 j3) (D)]))
  case first =>
   by_cases hin : 0 <= z_ /\ z_ < (D.T.length : Int)
   ·
    have hth := HTH.out
    rw [decide_eq_true hin] at hth
    have HT := Lib.hid hth; clear hth
    have hlo := HLO.out
    rw [if_pos hin] at hlo
    have HLQ := Lib.hid hlo; clear hlo
    have hsl : 0 < D.S.length := by have := HL1.out; omega
    obtain ⟨⟨ad3, rfl⟩, hm3⟩ := slc_some (MC_R (H.out.fact 0 rfl)).2.2 hsl
    obtain ⟨j0, j1⟩ := hin
    have i3 : z_ < (D.S.length : Int) := by have := HL1.out; omega
    have im3 : z_ < (md3 : Int) := by rw [hm3]; exact i3
    clear hm3 hsl j1
    obtain ⟨-, cQ, cM, cG, cX, cC⟩ := n5_ H
    have zs := (show wc.cell? (ad3.add z_.toNat) = some (.int .i64 lo) from (by rw [HLQ.out]; exact C_el default (slc_C (MC_R (H.out.fact 0 rfl)).2.2) z_ j0 i3))
    go_wp2_with first
     | (go_at_call 35; refine (HT.out _ _ _ _ (MC_R (H.out.fact 0 rfl))).mono ?_; rintro e W66 ⟨rfl, hb⟩; clear cQ cM cG cX cC zs; replace H := pc H hb; clear hb; obtain ⟨-, cQ, cM, cG, cX, cC⟩ := n5_ H; have zs := (show W66.cell? (ad3.add z_.toNat) = some (.int .i64 lo) from (by rw [HLQ.out]; exact C_el default (slc_C (MC_R (H.out.fact 0 rfl)).2.2) z_ j0 i3)))
    go_meet
    exact ⟨rfl, H⟩
   ·
    have hth := HTH.out
    rw [decide_eq_false hin] at hth
    have HT := Lib.hid hth; clear hth
    have hlo := HLO.out
    rw [if_neg hin] at hlo
    have HLQ := Lib.hid hlo; clear hlo
    clear hin
    obtain ⟨-, cQ, cM, cG, cX, cC⟩ := n5_ H
    go_wp2_with first
     | (go_at_call 35; refine (HT.out _ _ _ _ (MC_R (H.out.fact 0 rfl))).mono ?_; rintro e W66 ⟨rfl, hb⟩; clear cQ cM cG cX cC; replace H := pc H hb; clear hb; obtain ⟨-, cQ, cM, cG, cX, cC⟩ := n5_ H)
    go_meet
    exact ⟨by rw [HLQ.out], H⟩
  case rest =>
   clear H
   obtain ⟨rfl, H⟩ := hcut
   obtain ⟨-, cQ, cM, cG, cX, cC⟩ := n5_ H
   go_wp2
   clear cQ cM cG cX cC
   refine start_ (n := 18) (S := fun W => bW W gM (mL id m u b c z s me o a l (.slice B1 m1 j1) (.slice B2 m2 j2) (.slice B3 m3 j3)) /\ bW W gQ (mL id m u b c z s me o a l (.slice Bd1 md1 jd1) (.slice Bd2 md2 jd2) (.slice Bd3 md3 jd3)) /\ bW W gX (xL kd i p n (.slice Ad d.length kdd) f)) (ds := []) (bq 18 0) (by kernel_rfl) rfl (by kernel_rfl) ⟨H.out.drew.cell 1 rfl, H.out.drew.cell 0 rfl, H.out.drew.cell 3 rfl⟩ (fun hHeld => ?_)
   refine with_tabW tab_revetmentlaw29_JudgeZones_7 bits_revetmentlaw29_JudgeZones_7 (fun HT_ HW_ => ?_)
   have zH := H.out.drew
   generalize wc.drew = W121 at zH hHeld ⊢
   replace H := Lib.hid zH; clear zH
   apply tw 0 58 (bq 18 1) HT_ HW_ hHeld
   apply pu 1 59 (bq 18 3) HT_
   apply pu 3 61 (bq 18 11) HT_
   apply on 2 (some 60) (bq 18 15) HT_; intro K hK
   refine gs Try.func36 #[modV id m u b c z s me o a l (.slice B1 m1 j1) (.slice B2 m2 j2) (.slice B3 m3 j3), .int .i64 z_] ?_
   refine (HLW.out _ _ _ _ (MC_R (H.out.fact 1 rfl))).mono ?_
   rintro e W122 ⟨rfl, hb⟩
   refine ⟨_, rfl, ?_⟩
   replace H := pc H hb
   clear hb
   refine hK.out _ _ ⟨H.out.cell 1 rfl, H.out.cell 0 rfl, H.out.cell 3 rfl⟩ (fun hHeld => ?_)
   clear hK K
   apply nm 0
   apply pu 4 62 (bq 18 31) HT_
   apply pu 5 63 (bq 18 63) HT_
   apply tw 6 64 (bq 18 127) HT_ HW_ hHeld
   apply tw 7 65 (bq 18 255) HT_ HW_ hHeld
   apply pu 8 66 (bq 18 511) HT_
   apply pu 9 67 (bq 18 1023) HT_
   apply tw 11 69 (bq 18 3071) HT_ HW_ hHeld
   apply tw 12 70 (bq 18 7167) HT_ HW_ hHeld
   apply pu 13 71 (bq 18 15359) HT_
   apply pu 14 72 (bq 18 31743) HT_
   apply on 10 (some 68) (bq 18 32767) HT_; intro K hK
   refine gs Try.func37 #[modV id m u b c z s me o a l (.slice B1 m1 j1) (.slice B2 m2 j2) (.slice B3 m3 j3), cmdV kd i p n (.slice Ad d.length kdd) f, .bool is, .int .i64 z_] ?_
   refine (HJH.out _ _ _ _ (MC_R (H.out.fact 1 rfl)) (Kd.C_below HD.out H.out.below)).mono ?_
   rintro e W123 ⟨rfl, hb⟩
   refine ⟨_, rfl, ?_⟩
   replace H := pc H hb
   clear hb
   refine hK.out _ _ ⟨H.out.cell 1 rfl, H.out.cell 0 rfl, H.out.cell 3 rfl⟩ (fun hHeld => ?_)
   clear hK K
   apply nm 0
   apply on 15 (some 73) (bq 18 65535) HT_; intro K hK
   refine gs Try.func38 #[modV id m u b c z s me o a l (.slice Bd1 md1 jd1) (.slice Bd2 md2 jd2) (.slice Bd3 md3 jd3), cmdV kd i p n (.slice Ad d.length kdd) f, .bool is, .int .i64 z_] ?_
   refine (HRH.out _ _ _ _ (MC_R (H.out.fact 0 rfl)) (Kd.C_below HD.out H.out.below)).mono ?_
   rintro e W124 ⟨rfl, hb⟩
   refine ⟨_, rfl, ?_⟩
   replace H := pc H hb
   clear hb
   refine hK.out _ _ ⟨H.out.cell 1 rfl, H.out.cell 0 rfl, H.out.cell 3 rfl⟩ (fun hHeld => ?_)
   clear hK K
   apply nm 0
   apply pu 16 74 (bq 18 131071) HT_
   apply pu 17 75 (bq 18 262143) HT_
   refine done_ (done_of HT_.out (by kernel_rfl)) ?_
   obtain ⟨-, cQ, cM, cG, cX, cC⟩ := n5_ H
   go_wp2
   clear cQ cM cG cX cC
   refine start_ (n := 20) (S := fun W => bW W gM (mL id m u b c z s me o a l (.slice B1 m1 j1) (.slice B2 m2 j2) (.slice B3 m3 j3)) /\ bW W gQ (mL id m u b c z s me o a l (.slice Bd1 md1 jd1) (.slice Bd2 md2 jd2) (.slice Bd3 md3 jd3)) /\ bW W gX (xL kd i p n (.slice Ad d.length kdd) f) /\ bW W gG (oL gst gw gg) /\ (convert 57 9 (.slice At lt kt)).run Try.prog W = .ok (.string sx) W) (ds := []) (bq 20 0) (by kernel_rfl) rfl (by kernel_rfl) ⟨H.out.drew.cell 1 rfl, H.out.drew.cell 0 rfl, H.out.drew.cell 3 rfl, H.out.drew.cell 2 rfl, (by rw [HSX.out]; exact Kd.C_string Try.underlying57 Try.underlying5 Try.underlying9 (Kd.C_below HX.out (H.out.drew).below))⟩ (fun hHeld => ?_)
   refine with_tabW tab_revetmentlaw29_JudgeZones_9 bits_revetmentlaw29_JudgeZones_9 (fun HT_ HW_ => ?_)
   have zH := H.out.drew
   generalize W124.drew = W125 at zH hHeld ⊢
   replace H := Lib.hid zH; clear zH
   apply tw 0 76 (bq 20 1) HT_ HW_ hHeld
   apply tw 1 77 (bq 20 3) HT_ HW_ hHeld
   apply pu 2 78 (bq 20 7) HT_
   apply pu 3 79 (bq 20 15) HT_
   apply tw 4 80 (bq 20 31) HT_ HW_ hHeld
   apply pu 5 81 (bq 20 63) HT_
   apply tw 7 83 (bq 20 191) HT_ HW_ hHeld
   apply tw 8 84 (bq 20 447) HT_ HW_ hHeld
   apply pu 9 85 (bq 20 959) HT_
   apply pu 10 86 (bq 20 1983) HT_
   apply tw 11 87 (bq 20 4031) HT_ HW_ hHeld
   apply pu 12 88 (bq 20 8127) HT_
   apply tw 13 89 (bq 20 16319) HT_ HW_ hHeld
   apply on 6 (some 82) (bq 20 16383) HT_; intro K hK
   refine gs Try.func39 #[modV id m u b c z s me o a l (.slice B1 m1 j1) (.slice B2 m2 j2) (.slice B3 m3 j3), cmdV kd i p n (.slice Ad d.length kdd) f, .bool is, .int .i64 z_, .agg #[.int .i64 gst, .int .i64 gw, .int .i64 gg], .slice At lt kt] ?_
   refine (HJZ.out _ _ _ _ (MC_R (H.out.fact 1 rfl)) (Kd.C_below HD.out H.out.below) (Kd.C_below HX.out H.out.below)).mono ?_
   rintro e W126 ⟨rfl, hb⟩
   refine ⟨_, rfl, ?_⟩
   replace H := pc H hb
   clear hb
   refine hK.out _ _ ⟨H.out.cell 1 rfl, H.out.cell 0 rfl, H.out.cell 3 rfl, H.out.cell 2 rfl, (by rw [HSX.out]; exact Kd.C_string Try.underlying57 Try.underlying5 Try.underlying9 (Kd.C_below HX.out H.out.below))⟩ (fun hHeld => ?_)
   clear hK K
   apply nm 0
   apply on 14 (some 90) (bq 20 32767) HT_; intro K hK
   refine gs Try.func40 #[modV id m u b c z s me o a l (.slice Bd1 md1 jd1) (.slice Bd2 md2 jd2) (.slice Bd3 md3 jd3), cmdV kd i p n (.slice Ad d.length kdd) f, .bool is, .int .i64 z_, .agg #[.int .i64 gst, .int .i64 gw, .int .i64 gg], .string sx] ?_
   refine (HRZ.out _ _ _ _ (MC_R (H.out.fact 0 rfl)) (Kd.C_below HD.out H.out.below)).mono ?_
   rintro e W127 ⟨rfl, hb⟩
   refine ⟨_, rfl, ?_⟩
   replace H := pc H hb
   clear hb
   refine hK.out _ _ ⟨H.out.cell 1 rfl, H.out.cell 0 rfl, H.out.cell 3 rfl, H.out.cell 2 rfl, (by rw [HSX.out]; exact Kd.C_string Try.underlying57 Try.underlying5 Try.underlying9 (Kd.C_below HX.out H.out.below))⟩ (fun hHeld => ?_)
   clear hK K
   apply nm 0
   apply pu 15 91 (bq 20 65535) HT_
   apply pu 16 92 (bq 20 131071) HT_
   apply on 17 (some 93) (bq 20 262143) HT_; intro K hK
   refine gs Try.func34 #[] ?_
   refine (live29_any _).mono ?_
   rintro e W128 ⟨rfl, hb⟩
   refine ⟨_, rfl, ?_⟩
   replace H := pc H hb
   clear hb
   refine hK.out _ _ ⟨H.out.cell 1 rfl, H.out.cell 0 rfl, H.out.cell 3 rfl, H.out.cell 2 rfl, (by rw [HSX.out]; exact Kd.C_string Try.underlying57 Try.underlying5 Try.underlying9 (Kd.C_below HX.out H.out.below))⟩ (fun hHeld => ?_)
   clear hK K
   apply nm 0
   apply pu 18 94 (bq 20 524287) HT_
   apply pu 19 14 (bq 20 1048575) HT_
   refine done_ (done_of HT_.out (by kernel_rfl)) ?_
   obtain ⟨-, cQ, cM, cG, cX, cC⟩ := n5_ H
   go_wp2
   go_ret
   exact ⟨rfl, H.out.below⟩
theorem zones_any (id m u b c z s me o a l : Int) (Aa : Option Addr) (ca : Nat) (xs : List S65) (kd i p n : Int) (Ad : Option Addr) (kdd : Nat) (d : List Int) (f : Bool) (is : Bool) (z_ gst gw gg : Int) (At : Option Addr) (kt : Nat) (tx : List Int) (w : World) (hr : Kd.C k65 w Aa xs.length xs) (hc : xs.length <= ca) (hd : Kd.C (Kd.int .u8) w Ad d.length d) (hdk : d.length <= kdd) (ht : Kd.C (Kd.int .u8) w At tx.length tx) (htk : tx.length <= kt) : Calls Try.prog 7 #[.agg #[.int .i64 id, .int .i64 m, .int .i64 u, .int .i64 b, .int .i64 c, .int .i64 z, .int .i64 s, .int .i64 me, .int .i64 o, .int .i64 a, .int .i64 l], .slice Aa xs.length ca, cmdV kd i p n (.slice Ad d.length kdd) f, .bool is, .int .i64 z_, .agg #[.int .i64 gst, .int .i64 gw, .int .i64 gg], .slice At tx.length kt] w fun e w' => e = .returned (.bool true) /\ Below w.heap.size w w' := by
 rcases both_cases id m u b c z s me o a l Aa ca xs w hr hc with hn | ⟨hk, D, hi, hp⟩
 · exact zones_no id m u b c z s me o a l Aa ca xs.length kd i p n Ad kdd d f is z_ gst gw gg At kt tx ⟨[], [], []⟩ w hd hdk ht htk hn
 cases hmx : muchB id m u b c z s me o a l [(⟨kd, i, p, n, d, f⟩ : S65)]
 ·
  by_cases h8 : 8000 < tx.length
  · exact zones_live id m u b c z s me o a l Aa ca xs.length kd i p n Ad kdd d f is z_ gst gw gg At kt tx D w hd hdk ht htk hi hp (.inr (.inl ⟨hmx, h8⟩))
  by_cases hl : gw < -100
  · exact zones_live id m u b c z s me o a l Aa ca xs.length kd i p n Ad kdd d f is z_ gst gw gg At kt tx D w hd hdk ht htk hi hp (.inr (.inr (.inl ⟨hmx, h8, hl⟩)))
  by_cases hh : 10000 < gw
  · exact zones_live id m u b c z s me o a l Aa ca xs.length kd i p n Ad kdd d f is z_ gst gw gg At kt tx D w hd hdk ht htk hi hp (.inr (.inr (.inr ⟨hmx, h8, hl, hh⟩)))
  exact zones_main id m u b c z s me o a l Aa ca xs.length kd i p n Ad kdd d f is z_ gst gw gg At kt tx D w hd hdk ht htk hi hp hmx h8 hl hh
 · exact zones_live id m u b c z s me o a l Aa ca xs.length kd i p n Ad kdd d f is z_ gst gw gg At kt tx D w hd hdk ht htk hi hp (.inl hmx)
end Go.Proofs.Ytgckcaoncjhgbaa
namespace Go.Proofs.Ytgckcaoncjhgbaa
open Go.RowKit Go.Proofs.Ytgckcaoncjhgbaa.PL Go.Proofs.YtgckcaoncjhgbaaW.PrintWords Go.Proofs.YtgckcaoncjhgbaaW.PrintLast
set_option linter.unusedVariables false
set_option linter.unusedSimpArgs false
attribute [local go_sem] List.getElem?_toArray List.getElem?_cons_succ List.getElem?_cons_zero mL tL cL xL rL oL
namespace PL
def revetmentlaw29_JudgeZones.f (id m u b c z s me o a l : Int) (xs : List S65) (kd i p n : Int) (d : List Int) (f : Bool) (is : Bool) (z_ gst gw gg : Int) (tx : List Int) : Option Bool := some true
theorem revetmentlaw29_JudgeZones.calls (id m u b c z s me o a l : Int) (A1 : Option Addr) (c1 : Nat) (xs : List S65) (kd i p n : Int) (A2_4 : Option Addr) (c2_4 : Nat) (d : List Int) (f : Bool) (is : Bool) (z_ gst gw gg : Int) (A6 : Option Addr) (c6 : Nat) (tx : List Int) (w : World) (hr1 : Kd.C k65 w A1 xs.length xs) (hc1 : xs.length <= c1) (hr2_4 : Kd.C (Kd.int .u8) w A2_4 d.length d) (hc2_4 : d.length <= c2_4) (hr6 : Kd.C (Kd.int .u8) w A6 tx.length tx) (hc6 : tx.length <= c6) (h : revetmentlaw29_JudgeZones.f id m u b c z s me o a l xs kd i p n d f is z_ gst gw gg tx = some true) :
  Calls Try.prog 7 #[.agg #[.int .i64 id, .int .i64 m, .int .i64 u, .int .i64 b, .int .i64 c, .int .i64 z, .int .i64 s, .int .i64 me, .int .i64 o, .int .i64 a, .int .i64 l], .slice A1 xs.length c1, .agg #[.int .i64 kd, .int .i64 i, .int .i64 p, .int .i64 n, .slice A2_4 d.length c2_4, .bool f], .bool is, .int .i64 z_, .agg #[.int .i64 gst, .int .i64 gw, .int .i64 gg], .slice A6 tx.length c6] w fun e w' => e = .returned (.bool true) /\ Below w.heap.size w w' :=
 zones_any id m u b c z s me o a l A1 c1 xs kd i p n A2_4 c2_4 d f is z_ gst gw gg A6 c6 tx w hr1 hc1 hr2_4 hc2_4 hr6 hc6
end PL
theorem Geo.judgeZones_true (id m u b c z s me o a l : Int) (xs : List S65) (kd i p n : Int) (d : List Int) (f : Bool) (is : Bool) (z_ gst gw gg : Int) (tx : List Int) : revetmentlaw29_JudgeZones.f id m u b c z s me o a l xs kd i p n d f is z_ gst gw gg tx = some true := rfl
end Go.Proofs.Ytgckcaoncjhgbaa
