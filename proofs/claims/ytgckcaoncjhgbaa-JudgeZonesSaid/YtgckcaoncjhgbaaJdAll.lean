/- revetmentref25.Allowed. -/
import Derived.WalkKit
import Derived.WalkSpells
import Derived.WalkLawsBesides
import Derived.Lib.Hide
import Derived.Test.YtgckcaoncjhgbaaFGw
import Derived.Test.YtgckcaoncjhgbaaJdRef
namespace Go.Proofs.Ytgckcaoncjhgbaa
open Go.RowKit Go.Proofs.Ytgckcaoncjhgbaa.PL Go.Proofs.YtgckcaoncjhgbaaW.PrintWords Go.Proofs.YtgckcaoncjhgbaaW.PrintLast
set_option linter.unusedVariables false
set_option linter.unusedSimpArgs false
attribute [local go_sem] List.getElem?_toArray List.getElem?_cons_succ List.getElem?_cons_zero mL tL cL xL rL oL
attribute [local go_sem high] eqZ_any
def bigB (Z : Int) (fi : Bool) (ws ww wg gst gw gg lo Y : Int) (tx wh : ByteArray) : Bool := if ¬ gg = wg then false else if ¬ gst = (if fi = true then 3 else if gw = Z then 3 else if gw = 0 then 0 else 2) then false else if withinB gw lo Y tx wh = false then false else if fi = true /\ ¬ gw = ww then false else true
def alQ (Z : Int) (mb fi ez : Bool) (kd ws ww wg gst gw gg lo Y : Int) (tx wD wN : ByteArray) : Bool := if bigB Z fi ws ww wg gst gw gg lo Y tx (if mb = true /\ kd = 0 then wN else wD) = true then true else if mb = true /\ kd = 3 then (ez && tx.toList.isEmpty) else if mb = true /\ kd = 4 then (ez && (tx.toList == wD.toList)) else false
structure AlC (id m u b c z s me o a l : Int) (w : World) (x y q : Value) (D N : Mdl) (kd i p n : Int) (Ad : Option Addr) (kdd : Nat) (d : List Int) (f : Bool) (is mb fi ez : Bool) (z_ E ws ww wg ts tv tg gst gw gg Y lo : Int) (tx wD wN : ByteArray) : Prop where
 h : MC w x y q D
 hi : MInv id m u b c z s me o a l D
 hd : Kd.C (Kd.int .u8) w Ad d.length d
 hdk : d.length <= kdd
 rd : ∀ W, MC W x y q D -> Kd.C (Kd.int .u8) W Ad d.length d -> Calls Try.prog 28 #[modV id m u b c z s me o a l x y q, cmdV kd i p n (.slice Ad d.length kdd) f] W fun e w' => (∃ (dt : ByteArray) (zz : S59) (x' y' q' : Value), e = .returned (.tuple #[modV id m u b c z s me o a l x' y' q', .int .i64 E, .string dt, zoV zz]) /\ MD W.heap.size w' x y q D x' y' q' N) /\ Below W.heap.size W w'
 hin : 0 <= z_ /\ z_ < (D.T.length : Int)
 hNL : N.L.length = D.L.length /\ N.T.length = D.T.length
 hs : rd_T59 D.L z_ = ⟨ws, ww, wg⟩
 ht : rd_T59 N.L z_ = ⟨ts, tv, tg⟩
 hlo : lo = rdOf default D.S z_
 hwD : wD = rdOf default D.T z_
 hwN : wN = rdOf default N.T z_
 hsz : wD.size <= 1099511627776 /\ wN.size <= 1099511627776
 hfi : fi = (ws == 3 && decide (ww < sizeC m u b c z s me o a l))
 hmb : mb = (is && (E == 0) && (i == z_))
 hez : (gst == ts && (gw == tv && (gg == tg))) = ez
 hY : wrap64 (gw * b) = Y
 hY0 : ¬ gw < lo -> 0 <= Y
noncomputable def alRM : Code := rights 7 (Try.f92.body.getD .skip)
def AlM (id m u b c z s me o a l : Int) (w : World) (x y q : Value) (D N : Mdl) (kd i p n : Int) (Ad : Option Addr) (kdd : Nat) (d : List Int) (f : Bool) (is mb fi ez : Bool) (z_ E ws ww wg ts tv tg gst gw gg Y lo : Int) (tx wD wN : ByteArray) (V : Bool) : Prop := ∀ (v : Nat -> Value) (gM gX gG gC gS gN gT : Nat) (wc : World) (ad5 ad6 : Addr) (m51 j51 m52 j52 : Nat) (B53 : Option Addr) (m53 j53 : Nat) (t0 t1 t2 : Int) (wh : ByteArray), z_ < (m51 : Int) -> z_ < (m52 : Int) -> wh = (if mb = true /\ kd = 0 then wN else wD) -> Hid (Pk w wc [⟨gT, 59, (oL t0 t1 t2).toArray⟩, ⟨gN, 68, (mL id m u b c z s me o a l (.slice (some ad5) m51 j51) (.slice (some ad6) m52 j52) (.slice B53 m53 j53)).toArray⟩, ⟨gC, 23, (cL id m u b c z s me o a l).toArray⟩, ⟨gS, 59, (oL ws ww wg).toArray⟩, ⟨gG, 59, (oL gst gw gg).toArray⟩, ⟨gX, 65, (xL kd i p n (.slice Ad d.length kdd) f).toArray⟩, ⟨gM, 68, (mL id m u b c z s me o a l x y q).toArray⟩] [MdF w.heap.size (x) (y) (q) D (.slice (some ad5) m51 j51) (.slice (some ad6) m52 j52) (.slice B53 m53 j53) (N)]) -> Code.wp Try.prog alRM (bodyPost Try.prog Try.f92 fun e w' => e = .returned (.bool V) /\ Below w.heap.size w w') ⟨#[v 0, v 1, v 2, .int .i64 z_, v 4, .string tx, .pointer (some ⟨gM, 0, none⟩), .pointer (some ⟨gX, 0, none⟩), v 8, v 9, .pointer (some ⟨gG, 0, none⟩), v 11, v 12, .pointer (some ⟨gC, 0, none⟩), .pointer (some ⟨gS, 0, none⟩), .bool fi, .pointer (some ⟨gN, 0, none⟩), v 17, v 18, v 19, .bool mb, .string wh, v 22, v 23, v 24, v 25, v 26, v 27, v 28, v 29, v 30, v 31, v 32, v 33, v 34, v 35, v 36, v 37, v 38, v 39, v 40, v 41, v 42, v 43, v 44, v 45, v 46, v 47, v 48, v 49, v 50, v 51, v 52, v 53, v 54, v 55, v 56, v 57, v 58, v 59, v 60, v 61, v 62, v 63, v 64, v 65, v 66, v 67, v 68, v 69, v 70, v 71, v 72, v 73, v 74, v 75, v 76, v 77, v 78, v 79, v 80, v 81, v 82, v 83, v 84, v 85, v 86, v 87, v 88, v 89, v 90, v 91, v 92, v 93, v 94, v 95, v 96, v 97, v 98, v 99, v 100, v 101, v 102, v 103, v 104, v 105, v 106, v 107, v 108, v 109, v 110, v 111, v 112, v 113, v 114, v 115, v 116, v 117, v 118, v 119, v 120, v 121, v 122, v 123, v 124, v 125, v 126, v 127, v 128, v 129, v 130, v 131, v 132, v 133, v 134, v 135, v 136, v 137, v 138, v 139, v 140, v 141, v 142, v 143, v 144, v 145, v 146, v 147, v 148, v 149, v 150], []⟩ wc
noncomputable def alRE : Code := rights 8 (Try.f92.body.getD .skip)
def AlE (id m u b c z s me o a l : Int) (w : World) (x y q : Value) (D N : Mdl) (kd i p n : Int) (Ad : Option Addr) (kdd : Nat) (d : List Int) (f : Bool) (is mb fi ez : Bool) (z_ E ws ww wg ts tv tg gst gw gg Y lo : Int) (tx wD wN : ByteArray) (V : Bool) : Prop := ∀ (v : Nat -> Value) (gM gX gG gC gS gN gT : Nat) (wc : World) (ad5 ad6 : Addr) (m51 j51 m52 j52 : Nat) (B53 : Option Addr) (m53 j53 : Nat) (t0 t1 t2 : Int) (wh : ByteArray), z_ < (m51 : Int) -> z_ < (m52 : Int) -> wh = (if mb = true /\ kd = 0 then wN else wD) -> bigB (sizeC m u b c z s me o a l) fi ws ww wg gst gw gg lo Y tx wh = false -> Hid (Pk w wc [⟨gT, 59, (oL t0 t1 t2).toArray⟩, ⟨gN, 68, (mL id m u b c z s me o a l (.slice (some ad5) m51 j51) (.slice (some ad6) m52 j52) (.slice B53 m53 j53)).toArray⟩, ⟨gC, 23, (cL id m u b c z s me o a l).toArray⟩, ⟨gS, 59, (oL ws ww wg).toArray⟩, ⟨gG, 59, (oL gst gw gg).toArray⟩, ⟨gX, 65, (xL kd i p n (.slice Ad d.length kdd) f).toArray⟩, ⟨gM, 68, (mL id m u b c z s me o a l x y q).toArray⟩] [MdF w.heap.size (x) (y) (q) D (.slice (some ad5) m51 j51) (.slice (some ad6) m52 j52) (.slice B53 m53 j53) (N)]) -> Code.wp Try.prog alRE (bodyPost Try.prog Try.f92 fun e w' => e = .returned (.bool V) /\ Below w.heap.size w w') ⟨#[v 0, v 1, v 2, .int .i64 z_, v 4, .string tx, .pointer (some ⟨gM, 0, none⟩), .pointer (some ⟨gX, 0, none⟩), v 8, v 9, .pointer (some ⟨gG, 0, none⟩), v 11, v 12, .pointer (some ⟨gC, 0, none⟩), .pointer (some ⟨gS, 0, none⟩), .bool fi, .pointer (some ⟨gN, 0, none⟩), v 17, v 18, v 19, .bool mb, .string wh, v 22, v 23, v 24, v 25, v 26, v 27, v 28, v 29, v 30, v 31, v 32, v 33, v 34, v 35, v 36, v 37, v 38, v 39, v 40, v 41, v 42, v 43, v 44, v 45, v 46, v 47, v 48, v 49, v 50, v 51, v 52, v 53, v 54, v 55, v 56, v 57, v 58, v 59, v 60, v 61, v 62, v 63, v 64, v 65, v 66, v 67, v 68, v 69, v 70, v 71, v 72, v 73, v 74, v 75, v 76, v 77, v 78, v 79, v 80, v 81, v 82, v 83, v 84, v 85, v 86, v 87, v 88, v 89, v 90, v 91, v 92, v 93, v 94, v 95, v 96, v 97, v 98, v 99, v 100, v 101, v 102, v 103, v 104, v 105, v 106, v 107, v 108, v 109, v 110, v 111, v 112, v 113, v 114, v 115, v 116, v 117, v 118, v 119, v 120, v 121, v 122, v 123, v 124, v 125, v 126, v 127, v 128, v 129, v 130, v 131, v 132, v 133, v 134, v 135, v 136, v 137, v 138, v 139, v 140, v 141, v 142, v 143, v 144, v 145, v 146, v 147, v 148, v 149, v 150], []⟩ wc
def T_revetmentref25_Allowed_11 : Bool × List (List Nat × List Nat) := (true, [([], []), ([], []), ([1], [1]), ([2], [2]), ([], []), ([3, 4], [3, 4]), ([5], [5]), ([0, 6], [0, 6]), ([7], [7]), ([8], [8]), ([9, 8], [8, 9]), ([8, 10], [8, 10]), ([11, 8, 0, 1, 2, 3, 4, 5, 6, 7, 8, 9, 10, 11], [11])])
theorem tab_revetmentref25_Allowed_11 : rtab .any (opsOf Try.f92 11) = T_revetmentref25_Allowed_11 := by kernel_rfl
theorem bits_revetmentref25_Allowed_11 : waitsOk T_revetmentref25_Allowed_11.2 [0, 0, 2, 6, 0, 30, 62, 127, 255, 511, 1023, 2047, 4095] = true := by kernel_rfl
def T_revetmentref25_Allowed_13 : Bool × List (List Nat × List Nat) := (true, [([], []), ([], []), ([1], [1]), ([2], [2]), ([], []), ([3, 4], [3, 4]), ([5], [5]), ([0, 6], [0, 6]), ([7], [7]), ([8], [8]), ([8], [8]), ([9, 10, 8], [8, 9, 10]), ([8, 11], [8, 11]), ([12, 8, 0, 1, 2, 3, 4, 5, 6, 7, 8, 9, 10, 11, 12], [12])])
theorem tab_revetmentref25_Allowed_13 : rtab .any (opsOf Try.f92 13) = T_revetmentref25_Allowed_13 := by kernel_rfl
theorem bits_revetmentref25_Allowed_13 : waitsOk T_revetmentref25_Allowed_13.2 [0, 0, 2, 6, 0, 30, 62, 127, 255, 511, 511, 2047, 4095, 8191] = true := by kernel_rfl
def T_revetmentref25_Allowed_8 : Bool × List (List Nat × List Nat) := (true, [([], []), ([0], [0]), ([], []), ([2], [2]), ([1, 3], [1, 3]), ([4], [4]), ([5], [5]), ([6, 5], [5, 6]), ([5], [5]), ([5], [5]), ([9, 5], [5, 9]), ([5], [5]), ([8, 10, 11, 5, 5], [5, 8, 10, 11]), ([7, 12, 5], [5, 7, 12]), ([5, 13], [5, 13]), ([14, 12], [14]), ([15], [15]), ([15], [15]), ([15], [15]), ([15], [15]), ([19, 15], [15, 19]), ([15], [15]), ([20, 21, 15], [15, 20, 21]), ([22, 15], [15, 22]), ([15], [15]), ([16, 17, 18, 23, 24, 15, 15], [15, 16, 17, 18, 23, 24]), ([15, 25], [15, 25]), ([26, 25], [26]), ([27], [27]), ([28, 27], [27, 28]), ([29, 27, 27], [27, 29]), ([30], [30]), ([31, 30], [30, 31]), ([30], [30]), ([33, 30], [30, 33]), ([32, 34, 30], [30, 32, 34]), ([30, 35, 27], [27, 30, 35]), ([27, 36], [27, 36])])
theorem tab_revetmentref25_Allowed_8 : rtab .any (opsOf Try.f92 8) = T_revetmentref25_Allowed_8 := by kernel_rfl
theorem bits_revetmentref25_Allowed_8 : waitsOk T_revetmentref25_Allowed_8.2 [0, 1, 0, 4, 15, 31, 63, 127, 63, 63, 575, 63, 3903, 8191, 16383, 32767, 65535, 65535, 65535, 65535, 589823, 65535, 3735551, 7929855, 65535, 33554431, 67108863, 134217727, 268435455, 536870911, 1073741823, 2147483647, 4294967295, 2147483647, 10737418239, 34359738367, 68719476735, 137438953471] = true := by kernel_rfl
def T_revetmentref25_Allowed_1 : Bool × List (List Nat × List Nat) := (true, [([], []), ([0], [0]), ([1], [1]), ([], []), ([3], [3]), ([4], [4]), ([], []), ([5, 6], [5, 6]), ([7], [7]), ([], []), ([], []), ([9, 2, 0, 1, 2, 9, 10], [2, 9]), ([10, 8, 11, 0, 1, 2, 3, 4, 5, 6, 7, 8, 9, 10, 11], [8, 10])])
theorem tab_revetmentref25_Allowed_1 : rtab .any (opsOf Try.f92 1) = T_revetmentref25_Allowed_1 := by kernel_rfl
theorem bits_revetmentref25_Allowed_1 : waitsOk T_revetmentref25_Allowed_1.2 [0, 1, 3, 0, 8, 24, 0, 120, 248, 0, 0, 1543, 4095] = true := by kernel_rfl
def T_revetmentref25_Allowed_2 : Bool × List (List Nat × List Nat) := (true, [([], []), ([0], [0]), ([1], [1]), ([2], [2]), ([3], [3]), ([4, 3], [3, 4]), ([3], [3]), ([6, 3, 3], [3, 6]), ([5, 7, 3], [3, 5, 7]), ([3, 8], [3, 8]), ([9, 7, 0, 1, 2, 3, 4, 5, 6, 7, 8, 9], [9])])
theorem tab_revetmentref25_Allowed_2 : rtab .any (opsOf Try.f92 2) = T_revetmentref25_Allowed_2 := by kernel_rfl
theorem bits_revetmentref25_Allowed_2 : waitsOk T_revetmentref25_Allowed_2.2 [0, 1, 3, 7, 15, 31, 15, 79, 255, 511, 1023] = true := by kernel_rfl
set_option maxHeartbeats 16000000 in
set_option maxRecDepth 100000 in
theorem al_end (id m u b c z s me o a l : Int) (w : World) (x y q : Value) (D N : Mdl) (kd i p n : Int) (Ad : Option Addr) (kdd : Nat) (d : List Int) (f : Bool) (is mb fi ez : Bool) (z_ E ws ww wg ts tv tg gst gw gg Y lo : Int) (tx wD wN : ByteArray) (cc : AlC id m u b c z s me o a l w x y q D N kd i p n Ad kdd d f is mb fi ez z_ E ws ww wg ts tv tg gst gw gg Y lo tx wD wN) (V : Bool) (hV : V = alQ (sizeC m u b c z s me o a l) mb fi ez kd ws ww wg gst gw gg lo Y tx wD wN) : AlE id m u b c z s me o a l w x y q D N kd i p n Ad kdd d f is mb fi ez z_ E ws ww wg ts tv tg gst gw gg Y lo tx wD wN V := by
 unfold AlE
 obtain ⟨h, hi, hd, hdk, rd, hin, hNL, hs, ht, hlo, hwD, hwN, hsz, hfi, hmb, hez, hY, hY0⟩ := cc
 obtain ⟨A1, A2, A3, n1, n2, n3, k1, k2, k3, rfl, rfl, rfl, hn1, hn2, hn3, hC1, hC2, hC3, hk1, hk2, hk3, hrt, hL1, hLp, hlT, hlS, hcb⟩ := mc_open h hi
 obtain ⟨ad1, rfl⟩ := zone_some hC1 (by omega)
 obtain ⟨ad2, rfl⟩ := C_some hC2 (by omega)
 obtain ⟨ad3, rfl⟩ := C_some hC3 (by omega)
 obtain ⟨j0, j1⟩ := hin
 have i1 : z_ < (n1 : Int) := by omega
 have i2 : z_ < (n2 : Int) := by omega
 have i3 : z_ < (n3 : Int) := by omega
 have inL : z_ < (N.L.length : Int) := by omega
 have inT : z_ < (N.T.length : Int) := by omega
 have hz1 : D.L.length = n1 := hn1.symm
 have hz2 : D.T.length = n2 := hn2.symm
 have HNL : Hid (0 < N.L.length /\ 0 < N.T.length /\ N.L.length = n1 /\ N.T.length = n1) := Lib.hid (by omega)
 have HMC := Lib.hid h; have HD := Lib.hid hd; have HC1 := Lib.hid hC1; have HC2 := Lib.hid hC2; have HC3 := Lib.hid hC3; have HRD := Lib.hid rd; have HS := Lib.hid hs; have HTT := Lib.hid ht; have HLO := Lib.hid hlo; have HWD := Lib.hid hwD; have HWN := Lib.hid hwN; have HSZ := Lib.hid hsz; have HFI := Lib.hid hfi; have HMB := Lib.hid hmb; have HEZ := Lib.hid hez; have HYY := Lib.hid hY; have HY0 := Lib.hid hY0; clear hd hdk rd hs ht hlo hwD hwN hsz hfi hmb hez hY hY0 hz1 hz2 hNL j1
 clear h hi hcb hrt hL1 hLp hlT hlS hn1 hn2 hn3 hk1 hk2 hk3 hC1 hC2 hC3
 unfold alQ at hV
 intro v gM gX gG gC gS gN gT wc ad5 ad6 m51 j51 m52 j52 B53 m53 j53 t0 t1 t2 wh im5 im6 hw hbig H
 rw [<- hw, hbig, if_neg (by decide)] at hV
 have HW := Lib.hid hw; clear hw
 obtain ⟨be, hbe⟩ : ∃ t, t = tx.toList.isEmpty := ⟨_, rfl⟩
 obtain ⟨bd, hbd⟩ : ∃ t, t = (tx.toList == wD.toList) := ⟨_, rfl⟩
 rw [<- hbe, <- hbd] at hV
 have HBE := Lib.hid hbe; have HBD := Lib.hid hbd; clear hbe hbd
 have hcs : (mb = false /\ V = false) \/ (mb = true /\ ¬ kd = 3 /\ ¬ kd = 4 /\ V = false) \/ (mb = true /\ kd = 3 /\ ez = false /\ V = false) \/ (mb = true /\ kd = 4 /\ ez = false /\ V = false) \/ (mb = true /\ kd = 3 /\ ez = true /\ V = be) \/ (mb = true /\ kd = 4 /\ ez = true /\ V = bd) := by
  rw [hV]; cases mb <;> cases ez <;> by_cases h3 : kd = 3 <;> by_cases h4 : kd = 4 <;> simp_all
 clear hV hbig
 conv => arg 2; whnf
 rcases hcs with ⟨rfl, hv⟩ | ⟨rfl, h1, h2, hv⟩ | hcs
 ·
  have HV := Lib.hid hv; clear hv
  have hez := HEZ.out
  (try have b3 : (kd == 3) = false := beq_eq_false_iff_ne.mpr (by omega))
  (try have b4 : (kd == 4) = false := beq_eq_false_iff_ne.mpr (by omega))
  obtain ⟨-, cT, cN, cC, cS, cG, cX, cM⟩ := n7_ H
  go_wp2
  go_ret
  refine ⟨?_, H.out.below⟩
  rw [HV.out]; try rfl
 ·
  have HV := Lib.hid hv; clear hv
  have hez := HEZ.out
  (try have b3 : (kd == 3) = false := beq_eq_false_iff_ne.mpr (by omega))
  (try have b4 : (kd == 4) = false := beq_eq_false_iff_ne.mpr (by omega))
  obtain ⟨-, cT, cN, cC, cS, cG, cX, cM⟩ := n7_ H
  go_wp2
  go_ret
  refine ⟨?_, H.out.below⟩
  rw [HV.out]; try rfl
 rcases hcs with ⟨rfl, h1, rfl, hv⟩ | ⟨rfl, h1, rfl, hv⟩ | ⟨rfl, h1, rfl, hv⟩ | ⟨rfl, h1, rfl, hv⟩
 ·
  have HV := Lib.hid hv; clear hv
  have hez := HEZ.out
  have b3 : (kd == 3) = true := beq_iff_eq.mpr h1
  have b4 : (kd == 4) = false := beq_eq_false_iff_ne.mpr (by omega)
  clear h1
  obtain ⟨-, cT, cN, cC, cS, cG, cX, cM⟩ := n7_ H
  have hb := HBE.out.symm
  go_wp2
  clear cT cN cC cS cG cX cM
  refine start_ (n := 13) (S := fun W => bW W gG (oL gst gw gg) /\ bW W gN (mL id m u b c z s me o a l (.slice (some ad5) m51 j51) (.slice (some ad6) m52 j52) (.slice B53 m53 j53)) /\ (W.cell? (ad5.add (z_.toNat * 3)) = some (.int .i64 ts) /\ W.cell? ⟨(ad5.add (z_.toNat * 3)).block, (ad5.add (z_.toNat * 3)).off + 1, none⟩ = some (.int .i64 tv) /\ W.cell? ⟨(ad5.add (z_.toNat * 3)).block, (ad5.add (z_.toNat * 3)).off + 2, none⟩ = some (.int .i64 tg))) (ds := []) (bq 13 0) (by kernel_rfl) rfl (by kernel_rfl) ⟨H.out.drew.cell 4 rfl, H.out.drew.cell 1 rfl, (by have h := (zone_atI (slc_C (MD_C ((H.out.drew).fact 0 rfl) (MC_below HMC.out (H.out.drew).below)).1) z_ j0 inL); rw [HTT.out] at h; exact h)⟩ (fun hHeld => ?_)
  refine with_tabW tab_revetmentref25_Allowed_11 bits_revetmentref25_Allowed_11 (fun HT_ HW_ => ?_)
  have zH := H.out.drew
  generalize wc.drew = W41 at zH hHeld ⊢
  replace H := Lib.hid zH; clear zH
  apply tw 0 120 (bq 13 1) HT_ HW_ hHeld
  apply pu 1 121 (bq 13 3) HT_
  apply pu 2 122 (bq 13 7) HT_
  apply tw 3 123 (bq 13 15) HT_ HW_ hHeld
  apply pu 4 124 (bq 13 31) HT_
  apply pu 5 125 (bq 13 63) HT_
  apply tw 6 126 (bq 13 127) HT_ HW_ hHeld
  apply pu 7 127 (bq 13 255) HT_
  apply pu 8 128 (bq 13 511) HT_
  apply po 9 129 (bq 13 1023) HT_
  apply po 10 130 (bq 13 2047) HT_
  apply pu 11 131 (bq 13 4095) HT_
  apply pu 12 12 (bq 13 8191) HT_
  refine done_ (done_of HT_.out (by kernel_rfl)) ?_
  obtain ⟨-, cT, cN, cC, cS, cG, cX, cM⟩ := n7_ H
  go_wp2
  go_ret
  refine ⟨?_, H.out.below⟩
  rw [HV.out]; try rfl
 ·
  have HV := Lib.hid hv; clear hv
  have hez := HEZ.out
  have b3 : (kd == 3) = false := beq_eq_false_iff_ne.mpr (by omega)
  have b4 : (kd == 4) = true := beq_iff_eq.mpr h1
  obtain rfl : wh = wD := by rw [HW.out, if_neg (fun h => absurd h.2 (by omega))]
  clear h1
  obtain ⟨-, cT, cN, cC, cS, cG, cX, cM⟩ := n7_ H
  have hb := HBD.out.symm
  go_wp2
  clear cT cN cC cS cG cX cM
  refine start_ (n := 14) (S := fun W => bW W gG (oL gst gw gg) /\ bW W gN (mL id m u b c z s me o a l (.slice (some ad5) m51 j51) (.slice (some ad6) m52 j52) (.slice B53 m53 j53)) /\ (W.cell? (ad5.add (z_.toNat * 3)) = some (.int .i64 ts) /\ W.cell? ⟨(ad5.add (z_.toNat * 3)).block, (ad5.add (z_.toNat * 3)).off + 1, none⟩ = some (.int .i64 tv) /\ W.cell? ⟨(ad5.add (z_.toNat * 3)).block, (ad5.add (z_.toNat * 3)).off + 2, none⟩ = some (.int .i64 tg))) (ds := []) (bq 14 0) (by kernel_rfl) rfl (by kernel_rfl) ⟨H.out.drew.cell 4 rfl, H.out.drew.cell 1 rfl, (by have h := (zone_atI (slc_C (MD_C ((H.out.drew).fact 0 rfl) (MC_below HMC.out (H.out.drew).below)).1) z_ j0 inL); rw [HTT.out] at h; exact h)⟩ (fun hHeld => ?_)
  refine with_tabW tab_revetmentref25_Allowed_13 bits_revetmentref25_Allowed_13 (fun HT_ HW_ => ?_)
  have zH := H.out.drew
  generalize wc.drew = W41 at zH hHeld ⊢
  replace H := Lib.hid zH; clear zH
  apply tw 0 138 (bq 14 1) HT_ HW_ hHeld
  apply pu 1 139 (bq 14 3) HT_
  apply pu 2 140 (bq 14 7) HT_
  apply tw 3 141 (bq 14 15) HT_ HW_ hHeld
  apply pu 4 142 (bq 14 31) HT_
  apply pu 5 143 (bq 14 63) HT_
  apply tw 6 144 (bq 14 127) HT_ HW_ hHeld
  apply pu 7 145 (bq 14 255) HT_
  apply pu 8 146 (bq 14 511) HT_
  apply po 9 147 (bq 14 1023) HT_
  apply po 10 148 (bq 14 2047) HT_
  apply po 11 149 (bq 14 4095) HT_
  apply pu 12 150 (bq 14 8191) HT_
  apply pu 13 12 (bq 14 16383) HT_
  refine done_ (done_of HT_.out (by kernel_rfl)) ?_
  obtain ⟨-, cT, cN, cC, cS, cG, cX, cM⟩ := n7_ H
  go_wp2
  go_ret
  refine ⟨?_, H.out.below⟩
  rw [HV.out]; try rfl
 ·
  have HV := Lib.hid hv; clear hv
  have hez := HEZ.out
  have b3 : (kd == 3) = true := beq_iff_eq.mpr h1
  have b4 : (kd == 4) = false := beq_eq_false_iff_ne.mpr (by omega)
  clear h1
  obtain ⟨-, cT, cN, cC, cS, cG, cX, cM⟩ := n7_ H
  have hb := HBE.out.symm
  go_wp2
  clear cT cN cC cS cG cX cM
  refine start_ (n := 13) (S := fun W => bW W gG (oL gst gw gg) /\ bW W gN (mL id m u b c z s me o a l (.slice (some ad5) m51 j51) (.slice (some ad6) m52 j52) (.slice B53 m53 j53)) /\ (W.cell? (ad5.add (z_.toNat * 3)) = some (.int .i64 ts) /\ W.cell? ⟨(ad5.add (z_.toNat * 3)).block, (ad5.add (z_.toNat * 3)).off + 1, none⟩ = some (.int .i64 tv) /\ W.cell? ⟨(ad5.add (z_.toNat * 3)).block, (ad5.add (z_.toNat * 3)).off + 2, none⟩ = some (.int .i64 tg))) (ds := []) (bq 13 0) (by kernel_rfl) rfl (by kernel_rfl) ⟨H.out.drew.cell 4 rfl, H.out.drew.cell 1 rfl, (by have h := (zone_atI (slc_C (MD_C ((H.out.drew).fact 0 rfl) (MC_below HMC.out (H.out.drew).below)).1) z_ j0 inL); rw [HTT.out] at h; exact h)⟩ (fun hHeld => ?_)
  refine with_tabW tab_revetmentref25_Allowed_11 bits_revetmentref25_Allowed_11 (fun HT_ HW_ => ?_)
  have zH := H.out.drew
  generalize wc.drew = W41 at zH hHeld ⊢
  replace H := Lib.hid zH; clear zH
  apply tw 0 120 (bq 13 1) HT_ HW_ hHeld
  apply pu 1 121 (bq 13 3) HT_
  apply pu 2 122 (bq 13 7) HT_
  apply tw 3 123 (bq 13 15) HT_ HW_ hHeld
  apply pu 4 124 (bq 13 31) HT_
  apply pu 5 125 (bq 13 63) HT_
  apply tw 6 126 (bq 13 127) HT_ HW_ hHeld
  apply pu 7 127 (bq 13 255) HT_
  apply pu 8 128 (bq 13 511) HT_
  apply pu 9 129 (bq 13 1023) HT_
  apply pu 10 130 (bq 13 2047) HT_
  apply pu 11 131 (bq 13 4095) HT_
  apply pu 12 12 (bq 13 8191) HT_
  refine done_ (done_of HT_.out (by kernel_rfl)) ?_
  obtain ⟨-, cT, cN, cC, cS, cG, cX, cM⟩ := n7_ H
  go_wp2
  go_ret
  refine ⟨?_, H.out.below⟩
  rw [HV.out]; try rfl
 ·
  have HV := Lib.hid hv; clear hv
  have hez := HEZ.out
  have b3 : (kd == 3) = false := beq_eq_false_iff_ne.mpr (by omega)
  have b4 : (kd == 4) = true := beq_iff_eq.mpr h1
  obtain rfl : wh = wD := by rw [HW.out, if_neg (fun h => absurd h.2 (by omega))]
  clear h1
  obtain ⟨-, cT, cN, cC, cS, cG, cX, cM⟩ := n7_ H
  have hb := HBD.out.symm
  go_wp2
  clear cT cN cC cS cG cX cM
  refine start_ (n := 14) (S := fun W => bW W gG (oL gst gw gg) /\ bW W gN (mL id m u b c z s me o a l (.slice (some ad5) m51 j51) (.slice (some ad6) m52 j52) (.slice B53 m53 j53)) /\ (W.cell? (ad5.add (z_.toNat * 3)) = some (.int .i64 ts) /\ W.cell? ⟨(ad5.add (z_.toNat * 3)).block, (ad5.add (z_.toNat * 3)).off + 1, none⟩ = some (.int .i64 tv) /\ W.cell? ⟨(ad5.add (z_.toNat * 3)).block, (ad5.add (z_.toNat * 3)).off + 2, none⟩ = some (.int .i64 tg))) (ds := []) (bq 14 0) (by kernel_rfl) rfl (by kernel_rfl) ⟨H.out.drew.cell 4 rfl, H.out.drew.cell 1 rfl, (by have h := (zone_atI (slc_C (MD_C ((H.out.drew).fact 0 rfl) (MC_below HMC.out (H.out.drew).below)).1) z_ j0 inL); rw [HTT.out] at h; exact h)⟩ (fun hHeld => ?_)
  refine with_tabW tab_revetmentref25_Allowed_13 bits_revetmentref25_Allowed_13 (fun HT_ HW_ => ?_)
  have zH := H.out.drew
  generalize wc.drew = W41 at zH hHeld ⊢
  replace H := Lib.hid zH; clear zH
  apply tw 0 138 (bq 14 1) HT_ HW_ hHeld
  apply pu 1 139 (bq 14 3) HT_
  apply pu 2 140 (bq 14 7) HT_
  apply tw 3 141 (bq 14 15) HT_ HW_ hHeld
  apply pu 4 142 (bq 14 31) HT_
  apply pu 5 143 (bq 14 63) HT_
  apply tw 6 144 (bq 14 127) HT_ HW_ hHeld
  apply pu 7 145 (bq 14 255) HT_
  apply pu 8 146 (bq 14 511) HT_
  apply pu 9 147 (bq 14 1023) HT_
  apply pu 10 148 (bq 14 2047) HT_
  apply pu 11 149 (bq 14 4095) HT_
  apply pu 12 150 (bq 14 8191) HT_
  apply pu 13 12 (bq 14 16383) HT_
  refine done_ (done_of HT_.out (by kernel_rfl)) ?_
  obtain ⟨-, cT, cN, cC, cS, cG, cX, cM⟩ := n7_ H
  go_wp2
  go_ret
  refine ⟨?_, H.out.below⟩
  rw [HV.out]; try rfl
set_option maxHeartbeats 16000000 in
set_option maxRecDepth 100000 in
theorem al_mid (id m u b c z s me o a l : Int) (w : World) (x y q : Value) (D N : Mdl) (kd i p n : Int) (Ad : Option Addr) (kdd : Nat) (d : List Int) (f : Bool) (is mb fi ez : Bool) (z_ E ws ww wg ts tv tg gst gw gg Y lo : Int) (tx wD wN : ByteArray) (cc : AlC id m u b c z s me o a l w x y q D N kd i p n Ad kdd d f is mb fi ez z_ E ws ww wg ts tv tg gst gw gg Y lo tx wD wN) (V : Bool) (hV : V = alQ (sizeC m u b c z s me o a l) mb fi ez kd ws ww wg gst gw gg lo Y tx wD wN) : AlM id m u b c z s me o a l w x y q D N kd i p n Ad kdd d f is mb fi ez z_ E ws ww wg ts tv tg gst gw gg Y lo tx wD wN V := by
 unfold AlM
 have hend := al_end id m u b c z s me o a l w x y q D N kd i p n Ad kdd d f is mb fi ez z_ E ws ww wg ts tv tg gst gw gg Y lo tx wD wN cc V hV
 obtain ⟨h, hi, hd, hdk, rd, hin, hNL, hs, ht, hlo, hwD, hwN, hsz, hfi, hmb, hez, hY, hY0⟩ := cc
 obtain ⟨A1, A2, A3, n1, n2, n3, k1, k2, k3, rfl, rfl, rfl, hn1, hn2, hn3, hC1, hC2, hC3, hk1, hk2, hk3, hrt, hL1, hLp, hlT, hlS, hcb⟩ := mc_open h hi
 obtain ⟨ad1, rfl⟩ := zone_some hC1 (by omega)
 obtain ⟨ad2, rfl⟩ := C_some hC2 (by omega)
 obtain ⟨ad3, rfl⟩ := C_some hC3 (by omega)
 obtain ⟨j0, j1⟩ := hin
 have i1 : z_ < (n1 : Int) := by omega
 have i2 : z_ < (n2 : Int) := by omega
 have i3 : z_ < (n3 : Int) := by omega
 have inL : z_ < (N.L.length : Int) := by omega
 have inT : z_ < (N.T.length : Int) := by omega
 have hz1 : D.L.length = n1 := hn1.symm
 have hz2 : D.T.length = n2 := hn2.symm
 have HNL : Hid (0 < N.L.length /\ 0 < N.T.length /\ N.L.length = n1 /\ N.T.length = n1) := Lib.hid (by omega)
 have HMC := Lib.hid h; have HD := Lib.hid hd; have HC1 := Lib.hid hC1; have HC2 := Lib.hid hC2; have HC3 := Lib.hid hC3; have HRD := Lib.hid rd; have HS := Lib.hid hs; have HTT := Lib.hid ht; have HLO := Lib.hid hlo; have HWD := Lib.hid hwD; have HWN := Lib.hid hwN; have HSZ := Lib.hid hsz; have HFI := Lib.hid hfi; have HMB := Lib.hid hmb; have HEZ := Lib.hid hez; have HYY := Lib.hid hY; have HY0 := Lib.hid hY0; clear hd hdk rd hs ht hlo hwD hwN hsz hfi hmb hez hY hY0 hz1 hz2 hNL j1
 clear h hi hcb hrt hL1 hLp hlT hlS hn1 hn2 hn3 hk1 hk2 hk3 hC1 hC2 hC3
 unfold alQ at hV
 have HEND := Lib.hid hend; clear hend
 intro v gM gX gG gC gS gN gT wc ad5 ad6 m51 j51 m52 j52 B53 m53 j53 t0 t1 t2 wh im5 im6 hw H
 rw [<- hw] at hV
 have HW := Lib.hid hw; clear hw
 have hwz : wh.size <= 1099511627776 := by rw [HW.out]; split; exact HSZ.out.2; exact HSZ.out.1
 have hrs := fun W => rrest_any id m u b c z s me o a l gw fi W
 have hwi := fun W => within_any id m u b c z s me o a l gst gw gg lo Y tx wh W HYY.out HY0.out hwz
 obtain ⟨B, hB⟩ : ∃ B, B = bigB (sizeC m u b c z s me o a l) fi ws ww wg gst gw gg lo Y tx wh := ⟨_, rfl⟩
 rw [<- hB] at hV
 have HBB := Lib.hid hB
 unfold bigB at hB
 generalize withinB gw lo Y tx wh = wi at hwi hB
 generalize (if fi = true then 3 else if gw = sizeC m u b c z s me o a l then 3 else if gw = 0 then 0 else 2 : Int) = rr at hrs hB
 have hcs : (¬ gg = wg /\ B = false) \/ (gg = wg /\ ¬ gst = rr /\ B = false) \/ (gg = wg /\ gst = rr /\ wi = false /\ B = false) \/ (gg = wg /\ gst = rr /\ wi = true /\ fi = true /\ ¬ gw = ww /\ B = false) \/ (gg = wg /\ gst = rr /\ wi = true /\ fi = false /\ B = true) \/ (gg = wg /\ gst = rr /\ wi = true /\ fi = true /\ gw = ww /\ B = true) := by
  rw [hB]; by_cases a1 : gg = wg
  ·
   by_cases a2 : gst = rr
   ·
    cases wi
    · simp [a1, a2]
    ·
     cases fi
     · simp [a1, a2]
     ·
      by_cases a3 : gw = ww
      · simp [a1, a2, a3]
      · simp [a1, a2, a3]
   · simp [a1, a2]
  · simp [a1]
 have HRS := Lib.hid hrs; have HWI := Lib.hid hwi; have HV := Lib.hid hV; clear hrs hwi hV hB hwz
 conv => arg 2; whnf
 try dsimp only
 apply wp_seq_k; intro _ _
 go_cut [21] from 22 (fun s21 wx => s21 = .string wh /\ Hid (B = false) /\ Hid (Pk w wx [⟨gT, 59, (oL t0 t1 t2).toArray⟩, ⟨gN, 68, (mL id m u b c z s me o a l (.slice (some ad5) m51 j51) (.slice (some ad6) m52 j52) (.slice B53 m53 j53)).toArray⟩, ⟨gC, 23, (cL id m u b c z s me o a l).toArray⟩, ⟨gS, 59, (oL ws ww wg).toArray⟩, ⟨gG, 59, (oL gst gw gg).toArray⟩, ⟨gX, 65, (xL kd i p n (.slice Ad d.length kdd) f).toArray⟩, ⟨gM, 68, (mL id m u b c z s me o a l (.slice (some ad1) n1 k1) (.slice (some ad2) n2 k2) (.slice (some ad3) n3 k3)).toArray⟩] [MdF w.heap.size (.slice (some ad1) n1 k1) (.slice (some ad2) n2 k2) (.slice (some ad3) n3 k3) D (.slice (some ad5) m51 j51) (.slice (some ad6) m52 j52) (.slice B53 m53 j53) (N)]))
 case first =>
  clear HEND
  rcases hcs with hcs | hcs | hcs | hcs | hcs | hcs
  ·
   obtain ⟨h1, hv⟩ := hcs
   have HB := Lib.hid hv; clear hv
   have bh1 : (gg == wg) = false := beq_eq_false_iff_ne.mpr h1; have dh1 : (gg != wg) = true := bne_iff_ne.mpr h1; clear h1
   obtain ⟨-, cT, cN, cC, cS, cG, cX, cM⟩ := n7_ H
   go_wp2
   clear cT cN cC cS cG cX cM
   refine start_ (n := 38) (S := fun W => bW W gG (oL gst gw gg) /\ bW W gS (oL ws ww wg) /\ bW W gC (cL id m u b c z s me o a l) /\ bW W gM (mL id m u b c z s me o a l (.slice (some ad1) n1 k1) (.slice (some ad2) n2 k2) (.slice (some ad3) n3 k3)) /\ W.cell? (ad3.add z_.toNat) = some (.int .i64 lo)) (ds := []) (bq 38 0) (by kernel_rfl) rfl (by kernel_rfl) ⟨H.out.drew.cell 4 rfl, H.out.drew.cell 3 rfl, H.out.drew.cell 2 rfl, H.out.drew.cell 6 rfl, (by rw [HLO.out]; exact C_el default (Kd.C_below HC3.out (H.out.drew).below) z_ j0 i3)⟩ (fun hHeld => ?_)
   refine with_tabW tab_revetmentref25_Allowed_8 bits_revetmentref25_Allowed_8 (fun HT_ HW_ => ?_)
   have zH := H.out.drew
   generalize wc.drew = W41 at zH hHeld ⊢
   replace H := Lib.hid zH; clear zH
   apply pu 0 76 (bq 38 1) HT_
   apply tw 1 77 (bq 38 3) HT_ HW_ hHeld
   apply pu 2 78 (bq 38 7) HT_
   apply tw 3 79 (bq 38 15) HT_ HW_ hHeld
   apply pu 4 80 (bq 38 31) HT_
   apply pu 5 81 (bq 38 63) HT_
   apply po 6 82 (bq 38 127) HT_
   apply po 7 83 (bq 38 255) HT_
   apply po 8 84 (bq 38 511) HT_
   apply po 9 85 (bq 38 1023) HT_
   apply po 10 86 (bq 38 2047) HT_
   apply po 11 87 (bq 38 4095) HT_
   apply po 12 88 (bq 38 8191) HT_
   apply po 13 89 (bq 38 16383) HT_
   apply pu 14 90 (bq 38 32767) HT_
   apply pu 15 91 (bq 38 65535) HT_
   apply po 16 92 (bq 38 131071) HT_
   apply po 17 93 (bq 38 262143) HT_
   apply po 18 94 (bq 38 524287) HT_
   apply po 19 95 (bq 38 1048575) HT_
   apply po 20 96 (bq 38 2097151) HT_
   apply po 21 97 (bq 38 4194303) HT_
   apply po 22 98 (bq 38 8388607) HT_
   apply po 23 99 (bq 38 16777215) HT_
   apply po 24 100 (bq 38 33554431) HT_
   apply po 25 101 (bq 38 67108863) HT_
   apply pu 26 102 (bq 38 134217727) HT_
   apply pu 27 103 (bq 38 268435455) HT_
   apply po 28 104 (bq 38 536870911) HT_
   apply po 29 105 (bq 38 1073741823) HT_
   apply po 30 106 (bq 38 2147483647) HT_
   apply po 31 107 (bq 38 4294967295) HT_
   apply po 32 108 (bq 38 8589934591) HT_
   apply po 33 109 (bq 38 17179869183) HT_
   apply po 34 110 (bq 38 34359738367) HT_
   apply po 35 111 (bq 38 68719476735) HT_
   apply po 36 112 (bq 38 137438953471) HT_
   apply pu 37 113 (bq 38 274877906943) HT_
   refine done_ (done_of HT_.out (by kernel_rfl)) ?_
   obtain ⟨-, cT, cN, cC, cS, cG, cX, cM⟩ := n7_ H
   go_wp2
   go_meet
   exact ⟨rfl, HB, H⟩
  ·
   obtain ⟨h1, h2, hv⟩ := hcs
   have HB := Lib.hid hv; clear hv
   have bh1 : (gg == wg) = true := beq_iff_eq.mpr h1; have dh1 : (gg != wg) = false := bne_eq_false_iff_eq.mpr h1; clear h1
   have bh2 : (gst == rr) = false := beq_eq_false_iff_ne.mpr h2; have dh2 : (gst != rr) = true := bne_iff_ne.mpr h2; clear h2
   obtain ⟨-, cT, cN, cC, cS, cG, cX, cM⟩ := n7_ H
   go_wp2
   clear cT cN cC cS cG cX cM
   refine start_ (n := 38) (S := fun W => bW W gG (oL gst gw gg) /\ bW W gS (oL ws ww wg) /\ bW W gC (cL id m u b c z s me o a l) /\ bW W gM (mL id m u b c z s me o a l (.slice (some ad1) n1 k1) (.slice (some ad2) n2 k2) (.slice (some ad3) n3 k3)) /\ W.cell? (ad3.add z_.toNat) = some (.int .i64 lo)) (ds := []) (bq 38 0) (by kernel_rfl) rfl (by kernel_rfl) ⟨H.out.drew.cell 4 rfl, H.out.drew.cell 3 rfl, H.out.drew.cell 2 rfl, H.out.drew.cell 6 rfl, (by rw [HLO.out]; exact C_el default (Kd.C_below HC3.out (H.out.drew).below) z_ j0 i3)⟩ (fun hHeld => ?_)
   refine with_tabW tab_revetmentref25_Allowed_8 bits_revetmentref25_Allowed_8 (fun HT_ HW_ => ?_)
   have zH := H.out.drew
   generalize wc.drew = W41 at zH hHeld ⊢
   replace H := Lib.hid zH; clear zH
   apply pu 0 76 (bq 38 1) HT_
   apply tw 1 77 (bq 38 3) HT_ HW_ hHeld
   apply pu 2 78 (bq 38 7) HT_
   apply tw 3 79 (bq 38 15) HT_ HW_ hHeld
   apply pu 4 80 (bq 38 31) HT_
   apply pu 5 81 (bq 38 63) HT_
   apply pu 6 82 (bq 38 127) HT_
   apply tw 7 83 (bq 38 255) HT_ HW_ hHeld
   apply tw 8 84 (bq 38 511) HT_ HW_ hHeld
   apply pu 9 85 (bq 38 1023) HT_
   apply tw 10 86 (bq 38 2047) HT_ HW_ hHeld
   apply pu 11 87 (bq 38 4095) HT_
   apply on 12 (some 88) (bq 38 8191) HT_; intro K hK
   refine gs Try.func43 #[.agg #[.int .i64 id, .int .i64 m, .int .i64 u, .int .i64 b, .int .i64 c, .int .i64 z, .int .i64 s, .int .i64 me, .int .i64 o, .int .i64 a, .int .i64 l], .int .i64 gw, .bool fi] ?_
   refine (HRS.out _).mono ?_
   rintro e W42 ⟨rfl, hb⟩
   refine ⟨_, rfl, ?_⟩
   replace H := pc H hb
   clear hb
   refine hK.out _ _ ⟨H.out.cell 4 rfl, H.out.cell 3 rfl, H.out.cell 2 rfl, H.out.cell 6 rfl, (by rw [HLO.out]; exact C_el default (Kd.C_below HC3.out H.out.below) z_ j0 i3)⟩ (fun hHeld => ?_)
   clear hK K
   apply nm 0
   apply pu 13 89 (bq 38 16383) HT_
   apply pu 14 90 (bq 38 32767) HT_
   apply pu 15 91 (bq 38 65535) HT_
   apply po 16 92 (bq 38 131071) HT_
   apply po 17 93 (bq 38 262143) HT_
   apply po 18 94 (bq 38 524287) HT_
   apply po 19 95 (bq 38 1048575) HT_
   apply po 20 96 (bq 38 2097151) HT_
   apply po 21 97 (bq 38 4194303) HT_
   apply po 22 98 (bq 38 8388607) HT_
   apply po 23 99 (bq 38 16777215) HT_
   apply po 24 100 (bq 38 33554431) HT_
   apply po 25 101 (bq 38 67108863) HT_
   apply pu 26 102 (bq 38 134217727) HT_
   apply pu 27 103 (bq 38 268435455) HT_
   apply po 28 104 (bq 38 536870911) HT_
   apply po 29 105 (bq 38 1073741823) HT_
   apply po 30 106 (bq 38 2147483647) HT_
   apply po 31 107 (bq 38 4294967295) HT_
   apply po 32 108 (bq 38 8589934591) HT_
   apply po 33 109 (bq 38 17179869183) HT_
   apply po 34 110 (bq 38 34359738367) HT_
   apply po 35 111 (bq 38 68719476735) HT_
   apply po 36 112 (bq 38 137438953471) HT_
   apply pu 37 113 (bq 38 274877906943) HT_
   refine done_ (done_of HT_.out (by kernel_rfl)) ?_
   obtain ⟨-, cT, cN, cC, cS, cG, cX, cM⟩ := n7_ H
   go_wp2
   go_meet
   exact ⟨rfl, HB, H⟩
  ·
   obtain ⟨h1, h2, rfl, hv⟩ := hcs
   have HB := Lib.hid hv; clear hv
   have bh1 : (gg == wg) = true := beq_iff_eq.mpr h1; have dh1 : (gg != wg) = false := bne_eq_false_iff_eq.mpr h1; clear h1
   have bh2 : (gst == rr) = true := beq_iff_eq.mpr h2; have dh2 : (gst != rr) = false := bne_eq_false_iff_eq.mpr h2; clear h2
   obtain ⟨-, cT, cN, cC, cS, cG, cX, cM⟩ := n7_ H
   go_wp2
   clear cT cN cC cS cG cX cM
   refine start_ (n := 38) (S := fun W => bW W gG (oL gst gw gg) /\ bW W gS (oL ws ww wg) /\ bW W gC (cL id m u b c z s me o a l) /\ bW W gM (mL id m u b c z s me o a l (.slice (some ad1) n1 k1) (.slice (some ad2) n2 k2) (.slice (some ad3) n3 k3)) /\ W.cell? (ad3.add z_.toNat) = some (.int .i64 lo)) (ds := []) (bq 38 0) (by kernel_rfl) rfl (by kernel_rfl) ⟨H.out.drew.cell 4 rfl, H.out.drew.cell 3 rfl, H.out.drew.cell 2 rfl, H.out.drew.cell 6 rfl, (by rw [HLO.out]; exact C_el default (Kd.C_below HC3.out (H.out.drew).below) z_ j0 i3)⟩ (fun hHeld => ?_)
   refine with_tabW tab_revetmentref25_Allowed_8 bits_revetmentref25_Allowed_8 (fun HT_ HW_ => ?_)
   have zH := H.out.drew
   generalize wc.drew = W41 at zH hHeld ⊢
   replace H := Lib.hid zH; clear zH
   apply pu 0 76 (bq 38 1) HT_
   apply tw 1 77 (bq 38 3) HT_ HW_ hHeld
   apply pu 2 78 (bq 38 7) HT_
   apply tw 3 79 (bq 38 15) HT_ HW_ hHeld
   apply pu 4 80 (bq 38 31) HT_
   apply pu 5 81 (bq 38 63) HT_
   apply pu 6 82 (bq 38 127) HT_
   apply tw 7 83 (bq 38 255) HT_ HW_ hHeld
   apply tw 8 84 (bq 38 511) HT_ HW_ hHeld
   apply pu 9 85 (bq 38 1023) HT_
   apply tw 10 86 (bq 38 2047) HT_ HW_ hHeld
   apply pu 11 87 (bq 38 4095) HT_
   apply on 12 (some 88) (bq 38 8191) HT_; intro K hK
   refine gs Try.func43 #[.agg #[.int .i64 id, .int .i64 m, .int .i64 u, .int .i64 b, .int .i64 c, .int .i64 z, .int .i64 s, .int .i64 me, .int .i64 o, .int .i64 a, .int .i64 l], .int .i64 gw, .bool fi] ?_
   refine (HRS.out _).mono ?_
   rintro e W42 ⟨rfl, hb⟩
   refine ⟨_, rfl, ?_⟩
   replace H := pc H hb
   clear hb
   refine hK.out _ _ ⟨H.out.cell 4 rfl, H.out.cell 3 rfl, H.out.cell 2 rfl, H.out.cell 6 rfl, (by rw [HLO.out]; exact C_el default (Kd.C_below HC3.out H.out.below) z_ j0 i3)⟩ (fun hHeld => ?_)
   clear hK K
   apply nm 0
   apply pu 13 89 (bq 38 16383) HT_
   apply pu 14 90 (bq 38 32767) HT_
   apply pu 15 91 (bq 38 65535) HT_
   apply tw 16 92 (bq 38 131071) HT_ HW_ hHeld
   apply tw 17 93 (bq 38 262143) HT_ HW_ hHeld
   apply pu 18 94 (bq 38 524287) HT_
   apply pu 19 95 (bq 38 1048575) HT_
   apply tw 20 96 (bq 38 2097151) HT_ HW_ hHeld
   apply pu 21 97 (bq 38 4194303) HT_
   apply pu 22 98 (bq 38 8388607) HT_
   apply tw 23 99 (bq 38 16777215) HT_ HW_ hHeld
   apply pu 24 100 (bq 38 33554431) HT_
   apply on 25 (some 101) (bq 38 67108863) HT_; intro K hK
   refine gs Try.func111 #[.agg #[.int .i64 id, .int .i64 m, .int .i64 u, .int .i64 b, .int .i64 c, .int .i64 z, .int .i64 s, .int .i64 me, .int .i64 o, .int .i64 a, .int .i64 l], .agg #[.int .i64 gst, .int .i64 gw, .int .i64 gg], .string tx, .int .i64 lo, .string wh] ?_
   refine (HWI.out _).mono ?_
   rintro e W43 ⟨rfl, hb⟩
   refine ⟨_, rfl, ?_⟩
   replace H := pc H hb
   clear hb
   refine hK.out _ _ ⟨H.out.cell 4 rfl, H.out.cell 3 rfl, H.out.cell 2 rfl, H.out.cell 6 rfl, (by rw [HLO.out]; exact C_el default (Kd.C_below HC3.out H.out.below) z_ j0 i3)⟩ (fun hHeld => ?_)
   clear hK K
   apply nm 0
   apply pu 26 102 (bq 38 134217727) HT_
   apply pu 27 103 (bq 38 268435455) HT_
   apply po 28 104 (bq 38 536870911) HT_
   apply po 29 105 (bq 38 1073741823) HT_
   apply po 30 106 (bq 38 2147483647) HT_
   apply po 31 107 (bq 38 4294967295) HT_
   apply po 32 108 (bq 38 8589934591) HT_
   apply po 33 109 (bq 38 17179869183) HT_
   apply po 34 110 (bq 38 34359738367) HT_
   apply po 35 111 (bq 38 68719476735) HT_
   apply po 36 112 (bq 38 137438953471) HT_
   apply pu 37 113 (bq 38 274877906943) HT_
   refine done_ (done_of HT_.out (by kernel_rfl)) ?_
   obtain ⟨-, cT, cN, cC, cS, cG, cX, cM⟩ := n7_ H
   go_wp2
   go_meet
   exact ⟨rfl, HB, H⟩
  ·
   obtain ⟨h1, h2, rfl, rfl, h3, hv⟩ := hcs
   have HB := Lib.hid hv; clear hv
   have bh1 : (gg == wg) = true := beq_iff_eq.mpr h1; have dh1 : (gg != wg) = false := bne_eq_false_iff_eq.mpr h1; clear h1
   have bh2 : (gst == rr) = true := beq_iff_eq.mpr h2; have dh2 : (gst != rr) = false := bne_eq_false_iff_eq.mpr h2; clear h2
   have bh3 : (gw == ww) = false := beq_eq_false_iff_ne.mpr h3; have dh3 : (gw != ww) = true := bne_iff_ne.mpr h3; clear h3
   obtain ⟨-, cT, cN, cC, cS, cG, cX, cM⟩ := n7_ H
   go_wp2
   clear cT cN cC cS cG cX cM
   refine start_ (n := 38) (S := fun W => bW W gG (oL gst gw gg) /\ bW W gS (oL ws ww wg) /\ bW W gC (cL id m u b c z s me o a l) /\ bW W gM (mL id m u b c z s me o a l (.slice (some ad1) n1 k1) (.slice (some ad2) n2 k2) (.slice (some ad3) n3 k3)) /\ W.cell? (ad3.add z_.toNat) = some (.int .i64 lo)) (ds := []) (bq 38 0) (by kernel_rfl) rfl (by kernel_rfl) ⟨H.out.drew.cell 4 rfl, H.out.drew.cell 3 rfl, H.out.drew.cell 2 rfl, H.out.drew.cell 6 rfl, (by rw [HLO.out]; exact C_el default (Kd.C_below HC3.out (H.out.drew).below) z_ j0 i3)⟩ (fun hHeld => ?_)
   refine with_tabW tab_revetmentref25_Allowed_8 bits_revetmentref25_Allowed_8 (fun HT_ HW_ => ?_)
   have zH := H.out.drew
   generalize wc.drew = W41 at zH hHeld ⊢
   replace H := Lib.hid zH; clear zH
   apply pu 0 76 (bq 38 1) HT_
   apply tw 1 77 (bq 38 3) HT_ HW_ hHeld
   apply pu 2 78 (bq 38 7) HT_
   apply tw 3 79 (bq 38 15) HT_ HW_ hHeld
   apply pu 4 80 (bq 38 31) HT_
   apply pu 5 81 (bq 38 63) HT_
   apply pu 6 82 (bq 38 127) HT_
   apply tw 7 83 (bq 38 255) HT_ HW_ hHeld
   apply tw 8 84 (bq 38 511) HT_ HW_ hHeld
   apply pu 9 85 (bq 38 1023) HT_
   apply tw 10 86 (bq 38 2047) HT_ HW_ hHeld
   apply pu 11 87 (bq 38 4095) HT_
   apply on 12 (some 88) (bq 38 8191) HT_; intro K hK
   refine gs Try.func43 #[.agg #[.int .i64 id, .int .i64 m, .int .i64 u, .int .i64 b, .int .i64 c, .int .i64 z, .int .i64 s, .int .i64 me, .int .i64 o, .int .i64 a, .int .i64 l], .int .i64 gw, .bool true] ?_
   refine (HRS.out _).mono ?_
   rintro e W42 ⟨rfl, hb⟩
   refine ⟨_, rfl, ?_⟩
   replace H := pc H hb
   clear hb
   refine hK.out _ _ ⟨H.out.cell 4 rfl, H.out.cell 3 rfl, H.out.cell 2 rfl, H.out.cell 6 rfl, (by rw [HLO.out]; exact C_el default (Kd.C_below HC3.out H.out.below) z_ j0 i3)⟩ (fun hHeld => ?_)
   clear hK K
   apply nm 0
   apply pu 13 89 (bq 38 16383) HT_
   apply pu 14 90 (bq 38 32767) HT_
   apply pu 15 91 (bq 38 65535) HT_
   apply tw 16 92 (bq 38 131071) HT_ HW_ hHeld
   apply tw 17 93 (bq 38 262143) HT_ HW_ hHeld
   apply pu 18 94 (bq 38 524287) HT_
   apply pu 19 95 (bq 38 1048575) HT_
   apply tw 20 96 (bq 38 2097151) HT_ HW_ hHeld
   apply pu 21 97 (bq 38 4194303) HT_
   apply pu 22 98 (bq 38 8388607) HT_
   apply tw 23 99 (bq 38 16777215) HT_ HW_ hHeld
   apply pu 24 100 (bq 38 33554431) HT_
   apply on 25 (some 101) (bq 38 67108863) HT_; intro K hK
   refine gs Try.func111 #[.agg #[.int .i64 id, .int .i64 m, .int .i64 u, .int .i64 b, .int .i64 c, .int .i64 z, .int .i64 s, .int .i64 me, .int .i64 o, .int .i64 a, .int .i64 l], .agg #[.int .i64 gst, .int .i64 gw, .int .i64 gg], .string tx, .int .i64 lo, .string wh] ?_
   refine (HWI.out _).mono ?_
   rintro e W43 ⟨rfl, hb⟩
   refine ⟨_, rfl, ?_⟩
   replace H := pc H hb
   clear hb
   refine hK.out _ _ ⟨H.out.cell 4 rfl, H.out.cell 3 rfl, H.out.cell 2 rfl, H.out.cell 6 rfl, (by rw [HLO.out]; exact C_el default (Kd.C_below HC3.out H.out.below) z_ j0 i3)⟩ (fun hHeld => ?_)
   clear hK K
   apply nm 0
   apply pu 26 102 (bq 38 134217727) HT_
   apply pu 27 103 (bq 38 268435455) HT_
   apply pu 28 104 (bq 38 536870911) HT_
   apply pu 29 105 (bq 38 1073741823) HT_
   apply pu 30 106 (bq 38 2147483647) HT_
   apply pu 31 107 (bq 38 4294967295) HT_
   apply tw 32 108 (bq 38 8589934591) HT_ HW_ hHeld
   apply pu 33 109 (bq 38 17179869183) HT_
   apply tw 34 110 (bq 38 34359738367) HT_ HW_ hHeld
   apply pu 35 111 (bq 38 68719476735) HT_
   apply pu 36 112 (bq 38 137438953471) HT_
   apply pu 37 113 (bq 38 274877906943) HT_
   refine done_ (done_of HT_.out (by kernel_rfl)) ?_
   obtain ⟨-, cT, cN, cC, cS, cG, cX, cM⟩ := n7_ H
   go_wp2
   go_meet
   exact ⟨rfl, HB, H⟩
  ·
   obtain ⟨h1, h2, rfl, rfl, hv⟩ := hcs
   have HB := Lib.hid hv; clear hv
   have bh1 : (gg == wg) = true := beq_iff_eq.mpr h1; have dh1 : (gg != wg) = false := bne_eq_false_iff_eq.mpr h1; clear h1
   have bh2 : (gst == rr) = true := beq_iff_eq.mpr h2; have dh2 : (gst != rr) = false := bne_eq_false_iff_eq.mpr h2; clear h2
   obtain ⟨-, cT, cN, cC, cS, cG, cX, cM⟩ := n7_ H
   go_wp2
   clear cT cN cC cS cG cX cM
   refine start_ (n := 38) (S := fun W => bW W gG (oL gst gw gg) /\ bW W gS (oL ws ww wg) /\ bW W gC (cL id m u b c z s me o a l) /\ bW W gM (mL id m u b c z s me o a l (.slice (some ad1) n1 k1) (.slice (some ad2) n2 k2) (.slice (some ad3) n3 k3)) /\ W.cell? (ad3.add z_.toNat) = some (.int .i64 lo)) (ds := []) (bq 38 0) (by kernel_rfl) rfl (by kernel_rfl) ⟨H.out.drew.cell 4 rfl, H.out.drew.cell 3 rfl, H.out.drew.cell 2 rfl, H.out.drew.cell 6 rfl, (by rw [HLO.out]; exact C_el default (Kd.C_below HC3.out (H.out.drew).below) z_ j0 i3)⟩ (fun hHeld => ?_)
   refine with_tabW tab_revetmentref25_Allowed_8 bits_revetmentref25_Allowed_8 (fun HT_ HW_ => ?_)
   have zH := H.out.drew
   generalize wc.drew = W41 at zH hHeld ⊢
   replace H := Lib.hid zH; clear zH
   apply pu 0 76 (bq 38 1) HT_
   apply tw 1 77 (bq 38 3) HT_ HW_ hHeld
   apply pu 2 78 (bq 38 7) HT_
   apply tw 3 79 (bq 38 15) HT_ HW_ hHeld
   apply pu 4 80 (bq 38 31) HT_
   apply pu 5 81 (bq 38 63) HT_
   apply pu 6 82 (bq 38 127) HT_
   apply tw 7 83 (bq 38 255) HT_ HW_ hHeld
   apply tw 8 84 (bq 38 511) HT_ HW_ hHeld
   apply pu 9 85 (bq 38 1023) HT_
   apply tw 10 86 (bq 38 2047) HT_ HW_ hHeld
   apply pu 11 87 (bq 38 4095) HT_
   apply on 12 (some 88) (bq 38 8191) HT_; intro K hK
   refine gs Try.func43 #[.agg #[.int .i64 id, .int .i64 m, .int .i64 u, .int .i64 b, .int .i64 c, .int .i64 z, .int .i64 s, .int .i64 me, .int .i64 o, .int .i64 a, .int .i64 l], .int .i64 gw, .bool false] ?_
   refine (HRS.out _).mono ?_
   rintro e W42 ⟨rfl, hb⟩
   refine ⟨_, rfl, ?_⟩
   replace H := pc H hb
   clear hb
   refine hK.out _ _ ⟨H.out.cell 4 rfl, H.out.cell 3 rfl, H.out.cell 2 rfl, H.out.cell 6 rfl, (by rw [HLO.out]; exact C_el default (Kd.C_below HC3.out H.out.below) z_ j0 i3)⟩ (fun hHeld => ?_)
   clear hK K
   apply nm 0
   apply pu 13 89 (bq 38 16383) HT_
   apply pu 14 90 (bq 38 32767) HT_
   apply pu 15 91 (bq 38 65535) HT_
   apply tw 16 92 (bq 38 131071) HT_ HW_ hHeld
   apply tw 17 93 (bq 38 262143) HT_ HW_ hHeld
   apply pu 18 94 (bq 38 524287) HT_
   apply pu 19 95 (bq 38 1048575) HT_
   apply tw 20 96 (bq 38 2097151) HT_ HW_ hHeld
   apply pu 21 97 (bq 38 4194303) HT_
   apply pu 22 98 (bq 38 8388607) HT_
   apply tw 23 99 (bq 38 16777215) HT_ HW_ hHeld
   apply pu 24 100 (bq 38 33554431) HT_
   apply on 25 (some 101) (bq 38 67108863) HT_; intro K hK
   refine gs Try.func111 #[.agg #[.int .i64 id, .int .i64 m, .int .i64 u, .int .i64 b, .int .i64 c, .int .i64 z, .int .i64 s, .int .i64 me, .int .i64 o, .int .i64 a, .int .i64 l], .agg #[.int .i64 gst, .int .i64 gw, .int .i64 gg], .string tx, .int .i64 lo, .string wh] ?_
   refine (HWI.out _).mono ?_
   rintro e W43 ⟨rfl, hb⟩
   refine ⟨_, rfl, ?_⟩
   replace H := pc H hb
   clear hb
   refine hK.out _ _ ⟨H.out.cell 4 rfl, H.out.cell 3 rfl, H.out.cell 2 rfl, H.out.cell 6 rfl, (by rw [HLO.out]; exact C_el default (Kd.C_below HC3.out H.out.below) z_ j0 i3)⟩ (fun hHeld => ?_)
   clear hK K
   apply nm 0
   apply pu 26 102 (bq 38 134217727) HT_
   apply pu 27 103 (bq 38 268435455) HT_
   apply pu 28 104 (bq 38 536870911) HT_
   apply pu 29 105 (bq 38 1073741823) HT_
   apply pu 30 106 (bq 38 2147483647) HT_
   apply po 31 107 (bq 38 4294967295) HT_
   apply po 32 108 (bq 38 8589934591) HT_
   apply po 33 109 (bq 38 17179869183) HT_
   apply po 34 110 (bq 38 34359738367) HT_
   apply po 35 111 (bq 38 68719476735) HT_
   apply pu 36 112 (bq 38 137438953471) HT_
   apply pu 37 113 (bq 38 274877906943) HT_
   refine done_ (done_of HT_.out (by kernel_rfl)) ?_
   obtain ⟨-, cT, cN, cC, cS, cG, cX, cM⟩ := n7_ H
   go_wp2
   go_ret
   refine ⟨?_, H.out.below⟩
   have h := HV.out; rw [HB.out, if_pos rfl] at h; rw [h]; try rfl
  ·
   obtain ⟨h1, h2, rfl, rfl, h3, hv⟩ := hcs
   have HB := Lib.hid hv; clear hv
   have bh1 : (gg == wg) = true := beq_iff_eq.mpr h1; have dh1 : (gg != wg) = false := bne_eq_false_iff_eq.mpr h1; clear h1
   have bh2 : (gst == rr) = true := beq_iff_eq.mpr h2; have dh2 : (gst != rr) = false := bne_eq_false_iff_eq.mpr h2; clear h2
   have bh3 : (gw == ww) = true := beq_iff_eq.mpr h3; have dh3 : (gw != ww) = false := bne_eq_false_iff_eq.mpr h3; clear h3
   obtain ⟨-, cT, cN, cC, cS, cG, cX, cM⟩ := n7_ H
   go_wp2
   clear cT cN cC cS cG cX cM
   refine start_ (n := 38) (S := fun W => bW W gG (oL gst gw gg) /\ bW W gS (oL ws ww wg) /\ bW W gC (cL id m u b c z s me o a l) /\ bW W gM (mL id m u b c z s me o a l (.slice (some ad1) n1 k1) (.slice (some ad2) n2 k2) (.slice (some ad3) n3 k3)) /\ W.cell? (ad3.add z_.toNat) = some (.int .i64 lo)) (ds := []) (bq 38 0) (by kernel_rfl) rfl (by kernel_rfl) ⟨H.out.drew.cell 4 rfl, H.out.drew.cell 3 rfl, H.out.drew.cell 2 rfl, H.out.drew.cell 6 rfl, (by rw [HLO.out]; exact C_el default (Kd.C_below HC3.out (H.out.drew).below) z_ j0 i3)⟩ (fun hHeld => ?_)
   refine with_tabW tab_revetmentref25_Allowed_8 bits_revetmentref25_Allowed_8 (fun HT_ HW_ => ?_)
   have zH := H.out.drew
   generalize wc.drew = W41 at zH hHeld ⊢
   replace H := Lib.hid zH; clear zH
   apply pu 0 76 (bq 38 1) HT_
   apply tw 1 77 (bq 38 3) HT_ HW_ hHeld
   apply pu 2 78 (bq 38 7) HT_
   apply tw 3 79 (bq 38 15) HT_ HW_ hHeld
   apply pu 4 80 (bq 38 31) HT_
   apply pu 5 81 (bq 38 63) HT_
   apply pu 6 82 (bq 38 127) HT_
   apply tw 7 83 (bq 38 255) HT_ HW_ hHeld
   apply tw 8 84 (bq 38 511) HT_ HW_ hHeld
   apply pu 9 85 (bq 38 1023) HT_
   apply tw 10 86 (bq 38 2047) HT_ HW_ hHeld
   apply pu 11 87 (bq 38 4095) HT_
   apply on 12 (some 88) (bq 38 8191) HT_; intro K hK
   refine gs Try.func43 #[.agg #[.int .i64 id, .int .i64 m, .int .i64 u, .int .i64 b, .int .i64 c, .int .i64 z, .int .i64 s, .int .i64 me, .int .i64 o, .int .i64 a, .int .i64 l], .int .i64 gw, .bool true] ?_
   refine (HRS.out _).mono ?_
   rintro e W42 ⟨rfl, hb⟩
   refine ⟨_, rfl, ?_⟩
   replace H := pc H hb
   clear hb
   refine hK.out _ _ ⟨H.out.cell 4 rfl, H.out.cell 3 rfl, H.out.cell 2 rfl, H.out.cell 6 rfl, (by rw [HLO.out]; exact C_el default (Kd.C_below HC3.out H.out.below) z_ j0 i3)⟩ (fun hHeld => ?_)
   clear hK K
   apply nm 0
   apply pu 13 89 (bq 38 16383) HT_
   apply pu 14 90 (bq 38 32767) HT_
   apply pu 15 91 (bq 38 65535) HT_
   apply tw 16 92 (bq 38 131071) HT_ HW_ hHeld
   apply tw 17 93 (bq 38 262143) HT_ HW_ hHeld
   apply pu 18 94 (bq 38 524287) HT_
   apply pu 19 95 (bq 38 1048575) HT_
   apply tw 20 96 (bq 38 2097151) HT_ HW_ hHeld
   apply pu 21 97 (bq 38 4194303) HT_
   apply pu 22 98 (bq 38 8388607) HT_
   apply tw 23 99 (bq 38 16777215) HT_ HW_ hHeld
   apply pu 24 100 (bq 38 33554431) HT_
   apply on 25 (some 101) (bq 38 67108863) HT_; intro K hK
   refine gs Try.func111 #[.agg #[.int .i64 id, .int .i64 m, .int .i64 u, .int .i64 b, .int .i64 c, .int .i64 z, .int .i64 s, .int .i64 me, .int .i64 o, .int .i64 a, .int .i64 l], .agg #[.int .i64 gst, .int .i64 gw, .int .i64 gg], .string tx, .int .i64 lo, .string wh] ?_
   refine (HWI.out _).mono ?_
   rintro e W43 ⟨rfl, hb⟩
   refine ⟨_, rfl, ?_⟩
   replace H := pc H hb
   clear hb
   refine hK.out _ _ ⟨H.out.cell 4 rfl, H.out.cell 3 rfl, H.out.cell 2 rfl, H.out.cell 6 rfl, (by rw [HLO.out]; exact C_el default (Kd.C_below HC3.out H.out.below) z_ j0 i3)⟩ (fun hHeld => ?_)
   clear hK K
   apply nm 0
   apply pu 26 102 (bq 38 134217727) HT_
   apply pu 27 103 (bq 38 268435455) HT_
   apply pu 28 104 (bq 38 536870911) HT_
   apply pu 29 105 (bq 38 1073741823) HT_
   apply pu 30 106 (bq 38 2147483647) HT_
   apply pu 31 107 (bq 38 4294967295) HT_
   apply tw 32 108 (bq 38 8589934591) HT_ HW_ hHeld
   apply pu 33 109 (bq 38 17179869183) HT_
   apply tw 34 110 (bq 38 34359738367) HT_ HW_ hHeld
   apply pu 35 111 (bq 38 68719476735) HT_
   apply pu 36 112 (bq 38 137438953471) HT_
   apply pu 37 113 (bq 38 274877906943) HT_
   refine done_ (done_of HT_.out (by kernel_rfl)) ?_
   obtain ⟨-, cT, cN, cC, cS, cG, cX, cM⟩ := n7_ H
   go_wp2
   go_ret
   refine ⟨?_, H.out.below⟩
   have h := HV.out; rw [HB.out, if_pos rfl] at h; rw [h]; try rfl
 case rest =>
  clear H hcs
  obtain ⟨rfl, HB, H⟩ := hcut
  go_step
  exact HEND.out (fun k => (#[v 0, v 1, v 2, undef, v 4, undef, undef, undef, v 8, v 9, undef, v 11, u12, undef, undef, undef, undef, v 17, v 18, v 19, undef, undef, u22, u23, u24, u25, u26, u27, u28, u29, u30, u31, u32, u33, u34, u35, u36, u37, u38, u39, u40, u41, u42, u43, u44, u45, u46, u47, u48, u49, u50, u51, u52, u53, u54, u55, u56, u57, u58, u59, u60, u61, u62, u63, u64, u65, u66, u67, u68, u69, u70, u71, u72, u73, u74, u75, u76, u77, u78, u79, u80, u81, u82, u83, u84, u85, u86, u87, u88, u89, u90, u91, u92, u93, u94, u95, u96, u97, u98, u99, u100, u101, u102, u103, u104, u105, u106, u107, u108, u109, u110, u111, u112, u113, u114, u115, u116, u117, u118, u119, u120, u121, u122, u123, u124, u125, u126, u127, u128, u129, u130, u131, u132, u133, u134, u135, u136, u137, u138, u139, u140, u141, u142, u143, u144, u145, u146, u147, u148, u149, u150] : Array Value).getD k undef) gM gX gG gC gS gN gT wc ad5 ad6 m51 j51 m52 j52 B53 m53 j53 t0 t1 t2 wh im5 im6 HW.out (HBB.out.symm.trans HB.out) H
set_option maxHeartbeats 16000000 in
set_option maxRecDepth 100000 in
theorem al_any (id m u b c z s me o a l : Int) (w : World) (x y q : Value) (D N : Mdl) (kd i p n : Int) (Ad : Option Addr) (kdd : Nat) (d : List Int) (f : Bool) (is mb fi ez : Bool) (z_ E ws ww wg ts tv tg gst gw gg Y lo : Int) (tx wD wN : ByteArray) (cc : AlC id m u b c z s me o a l w x y q D N kd i p n Ad kdd d f is mb fi ez z_ E ws ww wg ts tv tg gst gw gg Y lo tx wD wN) : Calls Try.prog 92 #[modV id m u b c z s me o a l x y q, cmdV kd i p n (.slice Ad d.length kdd) f, .bool is, .int .i64 z_, .agg #[.int .i64 gst, .int .i64 gw, .int .i64 gg], .string tx] w fun e w' => e = .returned (.bool (alQ (sizeC m u b c z s me o a l) mb fi ez kd ws ww wg gst gw gg lo Y tx wD wN)) /\ Below w.heap.size w w' := by
 have hmid := al_mid id m u b c z s me o a l w x y q D N kd i p n Ad kdd d f is mb fi ez z_ E ws ww wg ts tv tg gst gw gg Y lo tx wD wN cc _ rfl
 obtain ⟨h, hi, hd, hdk, rd, hin, hNL, hs, ht, hlo, hwD, hwN, hsz, hfi, hmb, hez, hY, hY0⟩ := cc
 obtain ⟨A1, A2, A3, n1, n2, n3, k1, k2, k3, rfl, rfl, rfl, hn1, hn2, hn3, hC1, hC2, hC3, hk1, hk2, hk3, hrt, hL1, hLp, hlT, hlS, hcb⟩ := mc_open h hi
 obtain ⟨ad1, rfl⟩ := zone_some hC1 (by omega)
 obtain ⟨ad2, rfl⟩ := C_some hC2 (by omega)
 obtain ⟨ad3, rfl⟩ := C_some hC3 (by omega)
 obtain ⟨j0, j1⟩ := hin
 have i1 : z_ < (n1 : Int) := by omega
 have i2 : z_ < (n2 : Int) := by omega
 have i3 : z_ < (n3 : Int) := by omega
 have inL : z_ < (N.L.length : Int) := by omega
 have inT : z_ < (N.T.length : Int) := by omega
 have hz1 : D.L.length = n1 := hn1.symm
 have hz2 : D.T.length = n2 := hn2.symm
 have HNL : Hid (0 < N.L.length /\ 0 < N.T.length /\ N.L.length = n1 /\ N.T.length = n1) := Lib.hid (by omega)
 have HMC := Lib.hid h; have HD := Lib.hid hd; have HC1 := Lib.hid hC1; have HC2 := Lib.hid hC2; have HC3 := Lib.hid hC3; have HRD := Lib.hid rd; have HS := Lib.hid hs; have HTT := Lib.hid ht; have HLO := Lib.hid hlo; have HWD := Lib.hid hwD; have HWN := Lib.hid hwN; have HSZ := Lib.hid hsz; have HFI := Lib.hid hfi; have HMB := Lib.hid hmb; have HEZ := Lib.hid hez; have HYY := Lib.hid hY; have HY0 := Lib.hid hY0; clear hd hdk rd hs ht hlo hwD hwN hsz hfi hmb hez hY hY0 hz1 hz2 hNL j1
 clear h hi hcb hrt hL1 hLp hlT hlS hn1 hn2 hn3 hk1 hk2 hk3 hC1 hC2 hC3
 have HMID := Lib.hid hmid; clear hmid
 obtain ⟨V, hV⟩ : ∃ V, V = alQ (sizeC m u b c z s me o a l) mb fi ez kd ws ww wg gst gw gg lo Y tx wD wN := ⟨_, rfl⟩
 rw [<- hV] at HMID ⊢
 clear hV
 have H := Lib.hid (Pk.start w)
 go_enter Try.func92, Try.ntmps92
 go_wp2_with first
  | (apply bh H 6 (mL id m u b c z s me o a l (.slice (some ad1) n1 k1) (.slice (some ad2) n2 k2) (.slice (some ad3) n3 k3)) 68; clear H; intro gM W1 H; obtain ⟨-, cM⟩ := n1_ H)
  | (apply bh H 7 (xL kd i p n (.slice Ad d.length kdd) f) 65; clear H cM; intro gX W2 H; obtain ⟨-, cX, cM⟩ := n2_ H)
  | (apply bh H 10 (oL gst gw gg) 59; clear H cX cM; intro gG W3 H; obtain ⟨-, cG, cX, cM⟩ := n3_ H)
 clear cG cX cM
 refine start_ (n := 13) (S := fun W => bW W gM (mL id m u b c z s me o a l (.slice (some ad1) n1 k1) (.slice (some ad2) n2 k2) (.slice (some ad3) n3 k3)) /\ (W.cell? (ad1.add (z_.toNat * 3)) = some (.int .i64 ws) /\ W.cell? ⟨(ad1.add (z_.toNat * 3)).block, (ad1.add (z_.toNat * 3)).off + 1, none⟩ = some (.int .i64 ww) /\ W.cell? ⟨(ad1.add (z_.toNat * 3)).block, (ad1.add (z_.toNat * 3)).off + 2, none⟩ = some (.int .i64 wg))) (ds := []) (bq 13 0) (by kernel_rfl) rfl (by kernel_rfl) ⟨H.out.drew.cell 2 rfl, (by have h := zone_atI (Kd.C_below HC1.out (H.out.drew).below) z_ j0 i1; rw [HS.out] at h; exact h)⟩ (fun hHeld => ?_)
 refine with_tabW tab_revetmentref25_Allowed_1 bits_revetmentref25_Allowed_1 (fun HT_ HW_ => ?_)
 have zH := H.out.drew
 generalize W3.drew = W4 at zH hHeld ⊢
 replace H := Lib.hid zH; clear zH
 apply pu 0 22 (bq 13 1) HT_
 apply pu 1 23 (bq 13 3) HT_
 apply tw 2 24 (bq 13 7) HT_ HW_ hHeld
 apply pu 3 25 (bq 13 15) HT_
 apply pu 4 26 (bq 13 31) HT_
 apply tw 5 27 (bq 13 63) HT_ HW_ hHeld
 apply pu 6 28 (bq 13 127) HT_
 apply pu 7 29 (bq 13 255) HT_
 apply tw 8 30 (bq 13 511) HT_ HW_ hHeld
 have b0 := Lib.hid (Below.refl W4.heap.size W4)
 refine join_ (σ := Nat × Nat) 2 (bq 13 2047) (fun y => [(13, .pointer (some ⟨y.1, 0, none⟩)), (14, .pointer (some ⟨y.2, 0, none⟩))]) (fun y W => (bW W gM (mL id m u b c z s me o a l (.slice (some ad1) n1 k1) (.slice (some ad2) n2 k2) (.slice (some ad3) n3 k3)) /\ (W.cell? (ad1.add (z_.toNat * 3)) = some (.int .i64 ws) /\ W.cell? ⟨(ad1.add (z_.toNat * 3)).block, (ad1.add (z_.toNat * 3)).off + 1, none⟩ = some (.int .i64 ww) /\ W.cell? ⟨(ad1.add (z_.toNat * 3)).block, (ad1.add (z_.toNat * 3)).off + 2, none⟩ = some (.int .i64 wg))) /\ Below W4.heap.size W4 W /\ W.heap[y.1]? = some (.cells (cL 0 0 0 0 0 0 0 0 0 0 0).toArray 23 (0, 0)) /\ W.heap[y.2]? = some (.cells (oL 0 0 0).toArray 59 (0, 0)) /\ W4.heap.size <= y.1 /\ W4.heap.size <= y.2 /\ y.1 ≠ y.2) ?_ ?_
 rotate_left
 ·
  intro hCont
  refine two_ (i := 9) (j := 10) (Ni := some 13) (Nj := some 14) (bq 13 1023) (bq 13 1535) rfl rfl rfl rfl (two_of HT_.out (by kernel_rfl)) (by decide) (by decide) (fun K hK => ?_) (fun K hK => ?_)
  ·
   obtain ⟨-, cG, cX, cM⟩ := n3_ H
   apply bhs H 13 (cL 0 0 0 0 0 0 0 0 0 0 0) 23
   clear H cG cX cM
   intro gC W5 hg hb H
   have GC := Lib.hid (Nat.le_trans b0.out.size hg)
   replace b0 := Lib.hid (below_step b0.out hb)
   clear hb hg
   refine hK.out _ _ ⟨H.out.cell 3 rfl, (by have h := zone_atI (Kd.C_below HC1.out H.out.below) z_ j0 i1; rw [HS.out] at h; exact h)⟩ (fun hHeld => ?_)
   clear hK K
   apply nm 0
   apply on 10 (some 14) (bq 13 2047) HT_; intro K hK
   obtain ⟨-, cC, cG, cX, cM⟩ := n4_ H
   apply bhs H 14 (oL 0 0 0) 59
   clear H cC cG cX cM
   intro gS W6 hg hb H
   have GS := Lib.hid (Nat.le_trans b0.out.size hg)
   replace b0 := Lib.hid (below_step b0.out hb)
   clear hb hg
   refine hK.out _ _ ⟨H.out.cell 4 rfl, (by have h := zone_atI (Kd.C_below HC1.out H.out.below) z_ j0 i1; rw [HS.out] at h; exact h)⟩ (fun hHeld => ?_)
   clear hK K
   apply nm 0
   have hn_CS := (H.out.dist 0 1 rfl rfl (by decide)).symm
   exact norm_ (by simp only [putAll, Act.put, List.setIfInBounds_toArray, List.set_cons_zero, List.set_cons_succ]) (hCont (gC, gS) _ ⟨hHeld, b0.out, H.out.at_ 1 rfl, H.out.at_ 0 rfl, GC.out, GS.out, hn_CS⟩)
  ·
   obtain ⟨-, cG, cX, cM⟩ := n3_ H
   apply bhs H 14 (oL 0 0 0) 59
   clear H cG cX cM
   intro gS W5 hg hb H
   have GS := Lib.hid (Nat.le_trans b0.out.size hg)
   replace b0 := Lib.hid (below_step b0.out hb)
   clear hb hg
   refine hK.out _ _ ⟨H.out.cell 3 rfl, (by have h := zone_atI (Kd.C_below HC1.out H.out.below) z_ j0 i1; rw [HS.out] at h; exact h)⟩ (fun hHeld => ?_)
   clear hK K
   apply nm 0
   apply on 9 (some 13) (bq 13 2047) HT_; intro K hK
   obtain ⟨-, cS, cG, cX, cM⟩ := n4_ H
   apply bhs H 13 (cL 0 0 0 0 0 0 0 0 0 0 0) 23
   clear H cS cG cX cM
   intro gC W6 hg hb H
   have GC := Lib.hid (Nat.le_trans b0.out.size hg)
   replace b0 := Lib.hid (below_step b0.out hb)
   clear hb hg
   refine hK.out _ _ ⟨H.out.cell 4 rfl, (by have h := zone_atI (Kd.C_below HC1.out H.out.below) z_ j0 i1; rw [HS.out] at h; exact h)⟩ (fun hHeld => ?_)
   clear hK K
   apply nm 0
   have hn_CS := H.out.dist 0 1 rfl rfl (by decide)
   exact norm_ (by simp only [putAll, Act.put, List.setIfInBounds_toArray, List.set_cons_zero, List.set_cons_succ]) (hCont (gC, gS) _ ⟨hHeld, b0.out, H.out.at_ 0 rfl, H.out.at_ 1 rfl, GC.out, GS.out, hn_CS⟩)
 rintro ⟨gC, gS⟩ W57 ⟨hHeld, hb, hC, hS, hGC, hGS, hnCS⟩
 (try dsimp only at hHeld hC hS hGC hGS hnCS ⊢)
 replace H := Lib.hid (H.out.join2 hb hC hGC hS hGS hnCS)
 clear b0 hb hC hS hGC hGS hnCS
 refine norm_ (a' := ?_) ?_ ?_
 rotate_left
 ·
  simp only [putAll, Act.put, List.setIfInBounds_toArray, List.set_cons_zero, List.set_cons_succ]
  rfl
 apply on 11 none (bq 13 4095) HT_; intro K hK
 obtain ⟨-, cC, cS, cG, cX, cM⟩ := n5_ H
 apply shs H 0 23 13 gC (cL id m u b c z s me o a l)
 clear H cC cS cG cX cM
 intro W58 K_
 have H := (n5_ K_).1; clear K_
 refine hK.out _ _ ⟨H.out.cell 4 rfl, (by have h := zone_atI (Kd.C_below HC1.out H.out.below) z_ j0 i1; rw [HS.out] at h; exact h)⟩ (fun hHeld => ?_)
 clear hK K
 apply on 12 none (bq 13 8191) HT_; intro K hK
 obtain ⟨-, cC, cS, cG, cX, cM⟩ := n5_ H
 apply shs H 1 59 14 gS (oL ws ww wg)
 clear H cC cS cG cX cM
 intro W59 K_
 have H := (n5_ K_).1; clear K_
 refine hK.out _ _ ⟨H.out.cell 4 rfl, (by have h := zone_atI (Kd.C_below HC1.out H.out.below) z_ j0 i1; rw [HS.out] at h; exact h)⟩ (fun hHeld => ?_)
 clear hK K
 refine done_ (done_of HT_.out (by kernel_rfl)) ?_
 obtain ⟨-, cC, cS, cG, cX, cM⟩ := n5_ H
 clear cC cS cG cX cM
 go_upto_region 2 with fail
 go_cut [15] from 22 (fun s15 wx => s15 = .bool fi /\ Hid (Pk w wx [⟨gC, 23, (cL id m u b c z s me o a l).toArray⟩, ⟨gS, 59, (oL ws ww wg).toArray⟩, ⟨gG, 59, (oL gst gw gg).toArray⟩, ⟨gX, 65, (xL kd i p n (.slice Ad d.length kdd) f).toArray⟩, ⟨gM, 68, (mL id m u b c z s me o a l (.slice (some ad1) n1 k1) (.slice (some ad2) n2 k2) (.slice (some ad3) n3 k3)).toArray⟩] []))
 case first =>
  clear HMID
  have hs := fun W => rsize_any id m u b c z s me o a l W
  have hfi := HFI.out
  generalize sizeC m u b c z s me o a l = Z at hs hfi
  have HSI := Lib.hid hs; clear hs
  have hcs : (ws = 3 /\ fi = decide (ww < Z)) \/ (¬ ws = 3 /\ fi = false) := by
   rw [hfi]; by_cases h : ws = 3 <;> simp [h]
  clear hfi
  rcases hcs with hcs | hcs
  ·
   obtain ⟨h1, hv⟩ := hcs
   have HF := Lib.hid hv; clear hv
   (try have bh1 : (ws == 3) = true := beq_iff_eq.mpr h1)
   (try have bh1 : (ws == 3) = false := beq_eq_false_iff_ne.mpr h1)
   (try have dh1 : (ws != 3) = false := bne_eq_false_iff_eq.mpr h1)
   (try have dh1 : (ws != 3) = true := bne_iff_ne.mpr h1)
   (try have Hh1 := Lib.hid h1)
   (try clear h1)
   obtain ⟨-, cC, cS, cG, cX, cM⟩ := n5_ H
   go_wp2
   clear cC cS cG cX cM
   refine start_ (n := 11) (S := fun W => bW W gC (cL id m u b c z s me o a l) /\ bW W gS (oL ws ww wg)) (ds := []) (bq 11 0) (by kernel_rfl) rfl (by kernel_rfl) ⟨H.out.drew.cell 0 rfl, H.out.drew.cell 1 rfl⟩ (fun hHeld => ?_)
   refine with_tabW tab_revetmentref25_Allowed_2 bits_revetmentref25_Allowed_2 (fun HT_ HW_ => ?_)
   have zH := H.out.drew
   generalize W59.drew = W65 at zH hHeld ⊢
   replace H := Lib.hid zH; clear zH
   apply pu 0 31 (bq 11 1) HT_
   apply tw 1 32 (bq 11 3) HT_ HW_ hHeld
   apply pu 2 33 (bq 11 7) HT_
   apply pu 3 34 (bq 11 15) HT_
   apply pu 4 35 (bq 11 31) HT_
   apply tw 5 36 (bq 11 63) HT_ HW_ hHeld
   apply tw 6 37 (bq 11 127) HT_ HW_ hHeld
   apply on 7 (some 38) (bq 11 255) HT_; intro K hK
   refine gs Try.func41 #[.agg #[.int .i64 id, .int .i64 m, .int .i64 u, .int .i64 b, .int .i64 c, .int .i64 z, .int .i64 s, .int .i64 me, .int .i64 o, .int .i64 a, .int .i64 l]] ?_
   refine (HSI.out _).mono ?_
   rintro e W66 ⟨rfl, hb⟩
   refine ⟨_, rfl, ?_⟩
   replace H := pc H hb
   clear hb
   refine hK.out _ _ ⟨H.out.cell 0 rfl, H.out.cell 1 rfl⟩ (fun hHeld => ?_)
   clear hK K
   apply nm 0
   apply pu 8 39 (bq 11 511) HT_
   apply pu 9 40 (bq 11 1023) HT_
   apply pu 10 15 (bq 11 2047) HT_
   refine done_ (done_of HT_.out (by kernel_rfl)) ?_
   obtain ⟨-, cC, cS, cG, cX, cM⟩ := n5_ H
   go_wp2
   go_meet
   exact ⟨by rw [HF.out], H⟩
  ·
   obtain ⟨h1, hv⟩ := hcs
   have HF := Lib.hid hv; clear hv
   (try have bh1 : (ws == 3) = true := beq_iff_eq.mpr h1)
   (try have bh1 : (ws == 3) = false := beq_eq_false_iff_ne.mpr h1)
   (try have dh1 : (ws != 3) = false := bne_eq_false_iff_eq.mpr h1)
   (try have dh1 : (ws != 3) = true := bne_iff_ne.mpr h1)
   (try have Hh1 := Lib.hid h1)
   (try clear h1)
   obtain ⟨-, cC, cS, cG, cX, cM⟩ := n5_ H
   go_wp2
   clear cC cS cG cX cM
   refine start_ (n := 11) (S := fun W => bW W gC (cL id m u b c z s me o a l) /\ bW W gS (oL ws ww wg)) (ds := []) (bq 11 0) (by kernel_rfl) rfl (by kernel_rfl) ⟨H.out.drew.cell 0 rfl, H.out.drew.cell 1 rfl⟩ (fun hHeld => ?_)
   refine with_tabW tab_revetmentref25_Allowed_2 bits_revetmentref25_Allowed_2 (fun HT_ HW_ => ?_)
   have zH := H.out.drew
   generalize W59.drew = W65 at zH hHeld ⊢
   replace H := Lib.hid zH; clear zH
   apply pu 0 31 (bq 11 1) HT_
   apply tw 1 32 (bq 11 3) HT_ HW_ hHeld
   apply pu 2 33 (bq 11 7) HT_
   apply pu 3 34 (bq 11 15) HT_
   apply po 4 35 (bq 11 31) HT_
   apply po 5 36 (bq 11 63) HT_
   apply po 6 37 (bq 11 127) HT_
   apply po 7 38 (bq 11 255) HT_
   apply po 8 39 (bq 11 511) HT_
   apply pu 9 40 (bq 11 1023) HT_
   apply pu 10 15 (bq 11 2047) HT_
   refine done_ (done_of HT_.out (by kernel_rfl)) ?_
   obtain ⟨-, cC, cS, cG, cX, cM⟩ := n5_ H
   go_wp2
   go_meet
   exact ⟨by rw [HF.out], H⟩
 case rest =>
  clear H
  obtain ⟨rfl, H⟩ := hcut
  obtain ⟨-, cC, cS, cG, cX, cM⟩ := n5_ H
  go_upto_region 4 with first
   | (go_at_call 28; refine (HRD.out _ (MC_below HMC.out H.out.below) (Kd.C_below HD.out H.out.below)).mono ?_; rintro e W81 ⟨⟨dt, zz, x5, y5, q5, rfl, hM⟩, hb⟩; have hC_ := MD_C hM (MC_below HMC.out (below_step H.out.below hb)); obtain ⟨⟨E1, e1, rfl, -, -⟩, ⟨E2, e2, rfl, -, -⟩, ⟨E3, e3, rfl, -, -⟩⟩ := hC_; have hC_ := MD_C hM (MC_below HMC.out (below_step H.out.below hb)); obtain ⟨⟨ad5, rfl⟩, -⟩ := slc_some hC_.1 HNL.out.1; obtain ⟨⟨ad6, rfl⟩, -⟩ := slc_some hC_.2.1 HNL.out.2.1; clear hC_; obtain ⟨m51, hm5⟩ : ∃ m, m = N.L.length := ⟨_, rfl⟩; obtain ⟨m52, hm6⟩ : ∃ m, m = N.T.length := ⟨_, rfl⟩; have im5 : z_ < (m51 : Int) := (by omega); have im6 : z_ < (m52 : Int) := (by omega); rw [<- hm5, <- hm6] at hM ⊢; clear hm5 hm6; generalize N.S.length = m53 at hM ⊢; clear cC cS cG cX cM; have hl_ := H.out.below.size; replace H := Lib.hid ((H.out.called hb).row (MdF w.heap.size (.slice (some ad1) n1 k1) (.slice (some ad2) n2 k2) (.slice (some ad3) n3 k3) D (.slice (some ad5) m51 e1) (.slice (some ad6) m52 e2) (.slice E3 m53 e3) (N)) (MD_lower hM hl_)); clear hb hM hl_; obtain ⟨-, cC, cS, cG, cX, cM⟩ := n5_ H)
   | (apply bh H 16 (mL 0 0 0 0 0 0 0 0 0 0 0 nil_ nil_ nil_) 68; clear H cC cS cG cX cM; intro gN W82 H; obtain ⟨-, cN, cC, cS, cG, cX, cM⟩ := n6_ H)
   | (apply bhz H 19 (oL 0 0 0) 59; have HO_ := H; clear H cN cC cS cG cX cM; intro gT W83 hg H; have n_T_G5 := Lib.hid (mdf_lt (HO_.out.fact 0 rfl) hg); clear HO_ hg; obtain ⟨-, cT, cN, cC, cS, cG, cX, cM⟩ := n7_ H)
   | (apply sh H 1 68 16 gN (mL id m u b c z s me o a l (.slice (some ad5) m51 e1) (.slice (some ad6) m52 e2) (.slice E3 m53 e3)); clear H cT cN cC cS cG cX cM; intro W84 K_; obtain ⟨H, cT, cN, cC, cS, cG, cX, cM⟩ := n7_ K_; clear K_)
   | (apply shz H 0 59 19 gT (oL zz.f0 zz.f1 zz.f2) (fun w_ hw_ => fcons (mdf_set hw_ (H.out.fact 0 rfl) n_T_G5.out (H.out.at_ 0 rfl)) (fnil)); clear H cT cN cC cS cG cX cM; intro W85 K_; obtain ⟨H, cT, cN, cC, cS, cG, cX, cM⟩ := n7_ K_; clear K_)
  go_cut [20] from 22 (fun s20 wx => s20 = .bool mb /\ Hid (Pk w wx [⟨gT, 59, (oL zz.f0 zz.f1 zz.f2).toArray⟩, ⟨gN, 68, (mL id m u b c z s me o a l (.slice (some ad5) m51 e1) (.slice (some ad6) m52 e2) (.slice E3 m53 e3)).toArray⟩, ⟨gC, 23, (cL id m u b c z s me o a l).toArray⟩, ⟨gS, 59, (oL ws ww wg).toArray⟩, ⟨gG, 59, (oL gst gw gg).toArray⟩, ⟨gX, 65, (xL kd i p n (.slice Ad d.length kdd) f).toArray⟩, ⟨gM, 68, (mL id m u b c z s me o a l (.slice (some ad1) n1 k1) (.slice (some ad2) n2 k2) (.slice (some ad3) n3 k3)).toArray⟩] [MdF w.heap.size (.slice (some ad1) n1 k1) (.slice (some ad2) n2 k2) (.slice (some ad3) n3 k3) D (.slice (some ad5) m51 e1) (.slice (some ad6) m52 e2) (.slice E3 m53 e3) (N)]))
  case first =>
   clear HMID
   have hcs : (is = false /\ mb = false) \/ (is = true /\ ¬ E = 0 /\ mb = false) \/ (is = true /\ E = 0 /\ mb = (i == z_)) := by
    rw [HMB.out]; cases is <;> by_cases h : E = 0 <;> simp [h]
   rcases hcs with ⟨rfl, hv⟩ | ⟨rfl, h1, hv⟩ | ⟨rfl, h1, hv⟩ <;> (
    have HB := Lib.hid hv; clear hv
    (try have bh1 : (E == 0) = true := beq_iff_eq.mpr h1)
    (try have bh1 : (E == 0) = false := beq_eq_false_iff_ne.mpr h1)
    (try have dh1 : (E != 0) = false := bne_eq_false_iff_eq.mpr h1)
    (try have dh1 : (E != 0) = true := bne_iff_ne.mpr h1)
    (try have Hh1 := Lib.hid h1)
    (try clear h1)
    go_wp2
    go_meet
    exact ⟨by rw [HB.out], H⟩)
  case rest =>
   clear H cT cN cC cS cG cX cM
   obtain ⟨rfl, H⟩ := hcut
   obtain ⟨-, cT, cN, cC, cS, cG, cX, cM⟩ := n7_ H
   have zt := (show wc.cell? (ad2.add z_.toNat) = some (.string wD) from (by rw [HWD.out]; exact C_el default (Kd.C_below HC2.out H.out.below) z_ j0 i2))
   go_upto_region 5 with fail
   go_cut [21] from 22 (fun s21 wx => s21 = .string wD /\ Hid (Pk w wx [⟨gT, 59, (oL zz.f0 zz.f1 zz.f2).toArray⟩, ⟨gN, 68, (mL id m u b c z s me o a l (.slice (some ad5) m51 e1) (.slice (some ad6) m52 e2) (.slice E3 m53 e3)).toArray⟩, ⟨gC, 23, (cL id m u b c z s me o a l).toArray⟩, ⟨gS, 59, (oL ws ww wg).toArray⟩, ⟨gG, 59, (oL gst gw gg).toArray⟩, ⟨gX, 65, (xL kd i p n (.slice Ad d.length kdd) f).toArray⟩, ⟨gM, 68, (mL id m u b c z s me o a l (.slice (some ad1) n1 k1) (.slice (some ad2) n2 k2) (.slice (some ad3) n3 k3)).toArray⟩] [MdF w.heap.size (.slice (some ad1) n1 k1) (.slice (some ad2) n2 k2) (.slice (some ad3) n3 k3) D (.slice (some ad5) m51 e1) (.slice (some ad6) m52 e2) (.slice E3 m53 e3) (N)]))
   case first =>
    go_wp2
    go_meet
    exact ⟨rfl, H⟩
   case rest =>
    clear H cT cN cC cS cG cX cM zt
    obtain ⟨rfl, H⟩ := hcut
    go_step
    go_step
    obtain ⟨-, cT, cN, cC, cS, cG, cX, cM⟩ := n7_ H
    go_cut [21] from 22 (fun s21 wx => s21 = .string (if mb = true /\ kd = 0 then wN else wD) /\ Hid (Pk w wx [⟨gT, 59, (oL zz.f0 zz.f1 zz.f2).toArray⟩, ⟨gN, 68, (mL id m u b c z s me o a l (.slice (some ad5) m51 e1) (.slice (some ad6) m52 e2) (.slice E3 m53 e3)).toArray⟩, ⟨gC, 23, (cL id m u b c z s me o a l).toArray⟩, ⟨gS, 59, (oL ws ww wg).toArray⟩, ⟨gG, 59, (oL gst gw gg).toArray⟩, ⟨gX, 65, (xL kd i p n (.slice Ad d.length kdd) f).toArray⟩, ⟨gM, 68, (mL id m u b c z s me o a l (.slice (some ad1) n1 k1) (.slice (some ad2) n2 k2) (.slice (some ad3) n3 k3)).toArray⟩] [MdF w.heap.size (.slice (some ad1) n1 k1) (.slice (some ad2) n2 k2) (.slice (some ad3) n3 k3) D (.slice (some ad5) m51 e1) (.slice (some ad6) m52 e2) (.slice E3 m53 e3) (N)]))
    case first =>
     clear HMID
     have zn := (show wc.cell? (ad6.add z_.toNat) = some (.string wN) from (by rw [HWN.out]; exact C_el default (slc_C (MD_C (H.out.fact 0 rfl) (MC_below HMC.out H.out.below)).2.1) z_ j0 inT))
     cases mb
     ·
      go_wp2
      go_meet
      exact ⟨by simp, H⟩
     ·
      by_cases h1 : kd = 0
      ·
       have HK := Lib.hid h1
       (try have bh1 : (kd == 0) = true := beq_iff_eq.mpr h1)
       (try have bh1 : (kd == 0) = false := beq_eq_false_iff_ne.mpr h1)
       (try have dh1 : (kd != 0) = false := bne_eq_false_iff_eq.mpr h1)
       (try have dh1 : (kd != 0) = true := bne_iff_ne.mpr h1)
       (try have Hh1 := Lib.hid h1)
       (try clear h1)
       go_wp2
       go_meet
       exact ⟨by simp [HK.out], H⟩
      ·
       have HK := Lib.hid h1
       (try have bh1 : (kd == 0) = true := beq_iff_eq.mpr h1)
       (try have bh1 : (kd == 0) = false := beq_eq_false_iff_ne.mpr h1)
       (try have dh1 : (kd != 0) = false := bne_eq_false_iff_eq.mpr h1)
       (try have dh1 : (kd != 0) = true := bne_iff_ne.mpr h1)
       (try have Hh1 := Lib.hid h1)
       (try clear h1)
       go_wp2
       go_meet
       exact ⟨by simp [HK.out], H⟩
    case rest =>
     clear H cT cN cC cS cG cX cM
     obtain ⟨rfl, H⟩ := hcut
     go_step
     exact HMID.out (fun k => (#[modV id m u b c z s me o a l (.slice (some ad1) n1 k1) (.slice (some ad2) n2 k2) (.slice (some ad3) n3 k3), cmdV kd i p n (.slice Ad d.length kdd) f, .bool is, undef, .agg #[.int .i64 gst, .int .i64 gw, .int .i64 gg], undef, undef, undef, undef, undef, undef, undef, .bool false, undef, undef, undef, undef, .int .i64 E, .string dt, .pointer (some ⟨gT, 0, none⟩), undef, undef, u22, u23, u24, u25, u26, u27, u28, u29, u30, u31, u32, u33, u34, u35, u36, u37, u38, u39, u40, u41, u42, u43, u44, u45, u46, u47, u48, u49, u50, u51, u52, u53, u54, u55, u56, u57, u58, u59, u60, u61, u62, u63, u64, u65, u66, u67, u68, u69, u70, u71, u72, u73, u74, u75, u76, u77, u78, u79, u80, u81, u82, u83, u84, u85, u86, u87, u88, u89, u90, u91, u92, u93, u94, u95, u96, u97, u98, u99, u100, u101, u102, u103, u104, u105, u106, u107, u108, u109, u110, u111, u112, u113, u114, u115, u116, u117, u118, u119, u120, u121, u122, u123, u124, u125, u126, u127, u128, u129, u130, u131, u132, u133, u134, u135, u136, u137, u138, u139, u140, u141, u142, u143, u144, u145, u146, u147, u148, u149, u150] : Array Value).getD k undef) gM gX gG gC gS gN gT wc ad5 ad6 m51 e1 m52 e2 E3 m53 e3 zz.f0 zz.f1 zz.f2 _ im5 im6 rfl H
end Go.Proofs.Ytgckcaoncjhgbaa
