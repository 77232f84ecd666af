/- judge.Zone. -/
import Derived.WalkKit
import Derived.WalkSpells
import Derived.WalkLawsBesides
import Derived.Lib.Hide
import Derived.Test.YtgckcaoncjhgbaaFGw
import Derived.Deep.CutBlock
import Derived.Test.YtgckcaoncjhgbaaFMe
import Derived.Test.YtgckcaoncjhgbaaFJa
namespace Go.Proofs.Ytgckcaoncjhgbaa
open Go.RowKit Go.Proofs.Ytgckcaoncjhgbaa.PL Go.Proofs.YtgckcaoncjhgbaaW.PrintWords Go.Proofs.YtgckcaoncjhgbaaW.PrintLast
set_option linter.unusedVariables false
set_option linter.unusedSimpArgs false
attribute [local go_sem] List.getElem?_toArray List.getElem?_cons_succ List.getElem?_cons_zero mL tL cL xL rL oL
attribute [local go_sem high] eqZ_any
def tailB (gst gw gg ws ww wg lo hi_ rr : Int) (cb : Bool) (Y : Int) (tx LW : List Int) : Bool :=
 if ¬ gg = wg then false else if gw < lo then false else if hi_ < gw then false else if ¬ gst = rr then false else if cb = true /\ ¬ gw = ww then false else if ¬ Y <= (LW.length : Int) then false
 else ((strOfNums tx).toList == (strOfNums (LW.take Y.toNat)).toList)
def zoneQ (mb : Bool) (kd : Int) (ez et : Bool) (gst gw gg ws ww wg lo hi_ rr : Int) (cb : Bool) (Y : Int) (LD LN tx : List Int) : Bool :=
 if mb = true /\ kd = 0 then tailB gst gw gg ws ww wg lo hi_ rr cb Y tx LN
 else if mb = true /\ kd = 3 /\ ez = true /\ tx.length = 0 then true
 else if mb = true /\ kd = 4 /\ ez = true /\ et = true then true
 else tailB gst gw gg ws ww wg lo hi_ rr cb Y tx LD
structure JzC (id m u b c z s me o a l : Int) (w : World) (x y q : Value) (D N : Mdl) (kd i p n : Int) (Ad : Option Addr) (kdd : Nat) (d : List Int) (f : Bool) (is mb : Bool) (z_ ws ww wg ts tv tg gst gw gg Y lo hi_ rr : Int) (t2 cb ez et : Bool) (LD LN : List Int) (At : Option Addr) (kt : Nat) (tx : List Int) : Prop where
 h : MC w x y q D
 hi : MInv id m u b c z s me o a l D
 hd : Kd.C (Kd.int .u8) w Ad d.length d
 hdk : d.length <= kdd
 hx : Kd.C (Kd.int .u8) w At tx.length tx
 hxk : tx.length <= kt
 af : ∀ W, MC W x y q D -> Kd.C (Kd.int .u8) W Ad d.length d -> Calls Try.prog 89 #[modV id m u b c z s me o a l x y q, cmdV kd i p n (.slice Ad d.length kdd) f, .bool is, .int .i64 z_] W fun e w' => (∃ x' y' q' : Value, e = .returned (.tuple #[modV id m u b c z s me o a l x' y' q', .bool mb]) /\ MD W.heap.size w' x y q D x' y' q' N) /\ Below W.heap.size W w'
 z1 : ∀ W, MC W x y q D -> Calls Try.prog 32 #[modV id m u b c z s me o a l x y q, .int .i64 z_] W fun e w' => e = .returned (.tuple #[zoV ⟨ws, ww, wg⟩, .bool true]) /\ Below W.heap.size W w'
 z2 : ∀ x y q W, MC W x y q N -> Calls Try.prog 32 #[modV id m u b c z s me o a l x y q, .int .i64 z_] W fun e w' => e = .returned (.tuple #[zoV ⟨ts, tv, tg⟩, .bool t2]) /\ Below W.heap.size W w'
 x1 : ∀ W, MC W x y q D -> Calls Try.prog 81 #[modV id m u b c z s me o a l x y q, .int .i64 z_] W fun e w' => ∃ v : Value, e = .returned v /\ BR w' v LD /\ Below W.heap.size W w'
 x2 : ∀ x y q W, MC W x y q N -> Calls Try.prog 81 #[modV id m u b c z s me o a l x y q, .int .i64 z_] W fun e w' => ∃ v : Value, e = .returned v /\ BR w' v LN /\ Below W.heap.size W w'
 hl : ∀ W, MC W x y q D -> Calls Try.prog 36 #[modV id m u b c z s me o a l x y q, .int .i64 z_] W fun e w' => e = .returned (.int .i64 lo) /\ Below W.heap.size W w'
 hh : ∀ W, MC W x y q D -> Kd.C (Kd.int .u8) W Ad d.length d -> Calls Try.prog 37 #[modV id m u b c z s me o a l x y q, cmdV kd i p n (.slice Ad d.length kdd) f, .bool is, .int .i64 z_] W fun e w' => e = .returned (.int .i64 hi_) /\ Below W.heap.size W w'
 rs : ∀ W, Calls Try.prog 42 #[.agg #[.int .i64 id, .int .i64 m, .int .i64 u, .int .i64 b, .int .i64 c, .int .i64 z, .int .i64 s, .int .i64 me, .int .i64 o, .int .i64 a, .int .i64 l], zoV ⟨ws, ww, wg⟩, .int .i64 gw] W fun e w' => e = .returned (.int .i64 rr) /\ Below W.heap.size W w'
 cu : ∀ W, Calls Try.prog 91 #[.agg #[.int .i64 id, .int .i64 m, .int .i64 u, .int .i64 b, .int .i64 c, .int .i64 z, .int .i64 s, .int .i64 me, .int .i64 o, .int .i64 a, .int .i64 l], zoV ⟨ws, ww, wg⟩] W fun e w' => e = .returned (.bool cb) /\ Below W.heap.size W w'
 hlo : ¬ gw < lo -> 0 <= Y
 hY : wrap64 (gw * b) = Y
 hez : (gst == ts && (gw == tv && (gg == tg))) = ez
 het : ((strOfNums tx).toList == (strOfNums LD).toList) = et
theorem pbr {w W W' : World} {bs : List Blk} {fs : List Fct} {v : Value} {l : List Int} (H : Hid (Pk w W bs fs)) (hb : Below W.heap.size W W') (hB : BR W' v l) : Hid (Pk w W' bs (BytF v l :: fs)) := Lib.hid ((H.out.called hb).row (BytF v l) hB)
theorem BR_slice_take {W : World} {B : Option Addr} {m j k : Nat} {l : List Int} (h : BR W (.slice B m j) l) (hk : k <= l.length) : (convert 57 9 (.slice B k j)).run Try.prog W = .ok (.string (strOfNums (l.take k))) W := by
 obtain ⟨A, c, e, -, hC⟩ := BR_slc h
 cases e
 have h2 := Kd.C_take hC hk
 rw [List.length_take, Nat.min_eq_left hk] at h2
 exact Kd.C_string Try.underlying57 Try.underlying5 Try.underlying9 h2
theorem BR_cap {w : World} {B : Option Addr} {m c : Nat} {l : List Int} (h : BR w (.slice B m c) l) : l.length <= c := by
 rcases h with ⟨h, rfl⟩ | ⟨g, c', cs, mk, h, hc, _⟩
 · exact Nat.zero_le _
 · injection h with _ _ h3; omega
theorem heads_of {mb : Bool} {kd : Int} {ez et : Bool} {lx : Nat} {V A B : Bool} (hV : V = if mb = true /\ kd = 0 then A else if mb = true /\ kd = 3 /\ ez = true /\ lx = 0 then true else if mb = true /\ kd = 4 /\ ez = true /\ et = true then true else B) : (mb = true /\ kd = 0 /\ V = A) \/ (mb = true /\ kd = 3 /\ ez = true /\ lx = 0 /\ V = true) \/ (mb = true /\ kd = 4 /\ ez = true /\ et = true /\ V = true) \/ (mb = false /\ V = B) \/ (mb = true /\ kd = 3 /\ ez = false /\ V = B) \/ (mb = true /\ kd = 3 /\ ez = true /\ ¬ lx = 0 /\ V = B) \/ (mb = true /\ kd = 4 /\ ez = false /\ V = B) \/ (mb = true /\ kd = 4 /\ ez = true /\ et = false /\ V = B) \/ (mb = true /\ ¬ kd = 0 /\ ¬ kd = 3 /\ ¬ kd = 4 /\ V = B) := by
 subst hV
 cases mb <;> cases ez <;> cases et <;> by_cases h0 : kd = 0 <;> by_cases h3 : kd = 3 <;> by_cases h4 : kd = 4 <;> by_cases hl : lx = 0 <;> simp_all
def rights : Nat -> Code -> Code
 | 0, c => c
 | n + 1, .seq _ b => rights n b
 | _ + 1, c => c
noncomputable def jzRest : Code := rights 7 (Try.f39.body.getD .skip)
def JzTail (id m u b c z s me o a l : Int) (w : World) (x y q : Value) (D N : Mdl) (kd i p n : Int) (Ad : Option Addr) (kdd : Nat) (d : List Int) (f : Bool) (is mb : Bool) (z_ ws ww wg ts tv tg gst gw gg Y lo hi_ rr : Int) (t2 cb ez et : Bool) (LD LN : List Int) (At : Option Addr) (kt : Nat) (tx : List Int) (V : Bool) (C : Prop) : Prop := ∀ (v : Nat -> Value) (gM gX gG gS : Nat) (wc : World) (LW : List Int) (BW : Option Addr) (cW : Nat), C -> Hid (V = tailB gst gw gg ws ww wg lo hi_ rr cb Y tx LW) -> Hid (Pk w wc [⟨gS, 59, (oL ws ww wg).toArray⟩, ⟨gG, 59, (oL gst gw gg).toArray⟩, ⟨gX, 65, (xL kd i p n (.slice Ad d.length kdd) f).toArray⟩, ⟨gM, 53, (mL id m u b c z s me o a l x y q).toArray⟩] [BytF (.slice BW LW.length cW) LW]) -> Code.wp Try.prog jzRest (bodyPost Try.prog Try.f39 fun e w' => e = .returned (.bool V) /\ Below w.heap.size w w') ⟨#[v 0, v 1, .bool is, .int .i64 z_, v 4, .slice At tx.length kt, .pointer (some ⟨gM, 0, none⟩), .pointer (some ⟨gX, 0, none⟩), v 8, v 9, .pointer (some ⟨gG, 0, none⟩), v 11, v 12, .pointer (some ⟨gS, 0, none⟩), v 14, v 15, v 16, v 17, v 18, .slice BW LW.length cW, v 20, v 21, v 22, v 23, v 24, v 25, v 26, v 27, v 28, v 29, v 30, v 31, v 32, v 33, v 34, v 35, v 36, v 37, v 38, v 39, v 40, v 41, v 42, v 43, v 44, v 45, v 46, v 47, v 48, v 49, v 50, v 51, v 52, v 53, v 54, v 55, v 56, v 57, v 58, v 59, v 60, v 61, v 62, v 63, v 64, v 65, v 66, v 67, v 68, v 69, v 70, v 71, v 72, v 73, v 74, v 75, v 76, v 77, v 78, v 79, v 80, v 81, v 82, v 83, v 84, v 85, v 86, v 87, v 88, v 89, v 90, v 91, v 92, v 93, v 94, v 95, v 96, v 97, v 98, v 99, v 100, v 101, v 102, v 103, v 104, v 105, v 106, v 107, v 108, v 109, v 110, v 111, v 112, v 113, v 114, v 115, v 116, v 117, v 118, v 119, v 120, v 121, v 122, v 123, v 124, v 125, v 126, v 127, v 128, v 129, v 130, v 131, v 132, v 133, v 134, v 135, v 136, v 137, v 138, v 139, v 140, v 141, v 142, v 143, v 144, v 145, v 146, v 147, v 148, v 149, v 150, v 151, v 152, v 153, v 154], []⟩ wc
def T_judge_Zone_15 : Bool × List (List Nat × List Nat) := (true, [([], []), ([0], [0]), ([], []), ([2], [2]), ([1, 3], [1, 3]), ([4], [4]), ([5], [5]), ([6, 5], [5, 6]), ([5], [5]), ([5], [5]), ([8, 9, 5, 5], [5, 8, 9]), ([7, 10, 5], [5, 7, 10]), ([5, 11], [5, 11]), ([12, 10], [12]), ([13], [13]), ([14, 13], [13, 14]), ([13], [13]), ([13], [13]), ([13], [13]), ([13], [13]), ([16, 17, 18, 19, 13, 13], [13, 16, 17, 18, 19]), ([15, 20, 13], [13, 15, 20]), ([13, 21], [13, 21]), ([22, 20], [22])])
theorem tab_judge_Zone_15 : rtab .any (opsOf Try.f39 15) = T_judge_Zone_15 := by kernel_rfl
theorem bits_judge_Zone_15 : waitsOk T_judge_Zone_15.2 [0, 1, 0, 4, 15, 31, 63, 127, 63, 63, 831, 2047, 4095, 8191, 16383, 32767, 16383, 16383, 16383, 16383, 999423, 2097151, 4194303, 8388607] = true := by kernel_rfl
def T_judge_Zone_17 : Bool × List (List Nat × List Nat) := (true, [([], []), ([0], [0]), ([], []), ([], []), ([], []), ([4], [4]), ([2, 3, 5], [2, 3, 5]), ([1, 6], [1, 6]), ([7, 6], [7]), ([8], [8]), ([8], [8]), ([9, 10, 8, 8], [8, 9, 10]), ([11, 11, 8], [8, 11]), ([12], [12]), ([13, 12], [12, 13]), ([12], [12]), ([15, 12], [12, 15]), ([14, 16, 12], [12, 14, 16]), ([12, 17, 8], [8, 12, 17]), ([8, 18], [8, 18]), ([19, 12], [19])])
theorem tab_judge_Zone_17 : rtab .any (opsOf Try.f39 17) = T_judge_Zone_17 := by kernel_rfl
theorem bits_judge_Zone_17 : waitsOk T_judge_Zone_17.2 [0, 1, 0, 0, 0, 16, 60, 127, 255, 511, 511, 2047, 4095, 8191, 16383, 8191, 40959, 131071, 262143, 524287, 1048575] = true := by kernel_rfl
set_option maxHeartbeats 16000000 in
set_option maxRecDepth 100000 in
theorem jzt_1 (id m u b c z s me o a l : Int) (w : World) (x y q : Value) (D N : Mdl) (kd i p n : Int) (Ad : Option Addr) (kdd : Nat) (d : List Int) (f : Bool) (is mb : Bool) (z_ ws ww wg ts tv tg gst gw gg Y lo hi_ rr : Int) (t2 cb ez et : Bool) (LD LN : List Int) (At : Option Addr) (kt : Nat) (tx : List Int) (cc : JzC id m u b c z s me o a l w x y q D N kd i p n Ad kdd d f is mb z_ ws ww wg ts tv tg gst gw gg Y lo hi_ rr t2 cb ez et LD LN At kt tx) : JzTail id m u b c z s me o a l w x y q D N kd i p n Ad kdd d f is mb z_ ws ww wg ts tv tg gst gw gg Y lo hi_ rr t2 cb ez et LD LN At kt tx (zoneQ mb kd ez et gst gw gg ws ww wg lo hi_ rr cb Y LD LN tx) (¬ (gg = wg /\ lo <= gw /\ gw <= hi_ /\ gst = rr)) := by
 generalize zoneQ mb kd ez et gst gw gg ws ww wg lo hi_ rr cb Y LD LN tx = V
 unfold JzTail
 obtain ⟨h, hi, hd, hdk, hx, hxk, af, z1, z2, x1, x2, hl, hh, rs, cu, hlo, hY, hez, het⟩ := cc
 obtain ⟨A1, A2, A3, n1, n2, n3, k1, k2, k3, rfl, rfl, rfl, hn1, hn2, hn3, hC1, hC2, hC3, hk1, hk2, hk3, hrt, hL1, hLp, hlT, hlS, hcb⟩ := mc_open h hi
 have y1 : wrap64 (gw * b) = Y := hY; have y2 : IntKind.i64.wrap (gw * b) = Y := (i64_w _).trans hY
 intro v gM gX gG gS wc LW BW cW hC HA H
 obtain ⟨lx, hlx⟩ : ∃ n, n = tx.length := ⟨_, rfl⟩
 rw [<- hlx] at hx hxk ⊢
 have hef := fun (LW : List Int) v1 v2 W h1 h2 => equal_any v1 v2 (strOfNums tx) (strOfNums (LW.take Y.toNat)) W h1 h2
 have HMC := Lib.hid h; have HD := Lib.hid hd; have HT := Lib.hid hx; have HL := Lib.hid hl; have HH := Lib.hid hh; have HRS := Lib.hid rs; have HCU := Lib.hid cu; have HEF := Lib.hid hef; have HLO := Lib.hid hlo; clear hd hx hdk hxk af z1 z2 x1 x2 hl hh rs cu hef het hY hlx hez hlo
 clear h hi hcb hrt hL1 hLp hlT hlS hn1 hn2 hn3 hk1 hk2 hk3 hC1 hC2 hC3
 have hcW := BR_cap (H.out.fact 0 rfl)
 conv => arg 2; whnf
 by_cases q1 : ¬ gg = wg
 ·
  have hv := HA.out; unfold tailB at hv
  rw [if_pos q1] at hv
  have HW := Lib.hid hv
  clear hv HA
  have bq1 : (gg == wg) = false := beq_eq_false_iff_ne.mpr q1; have dq1 : (gg != wg) = true := bne_iff_ne.mpr q1; clear q1
  obtain ⟨-, cS, cG, cX, cM⟩ := n4_ H
  go_wp2_with first
   | (apply bh H 20 (cL 0 0 0 0 0 0 0 0 0 0 0) 23; clear H cS cG cX cM; intro gC W41 H; obtain ⟨-, cC, cS, cG, cX, cM⟩ := n5_ H)
   | (apply sh H 0 23 20 gC (cL id m u b c z s me o a l); clear H cC cS cG cX cM; intro W42 K_; obtain ⟨H, cC, cS, cG, cX, cM⟩ := n5_ K_; clear K_)
  clear cC cS cG cX cM
  refine start_ (n := 24) (S := fun W => bW W gG (oL gst gw gg) /\ bW W gS (oL ws ww wg) /\ bW W gM (mL id m u b c z s me o a l (.slice A1 n1 k1) (.slice A2 n2 k2) (.slice A3 n3 k3)) /\ bW W gX (xL kd i p n (.slice Ad d.length kdd) f)) (ds := []) (bq 24 0) (by kernel_rfl) rfl (by kernel_rfl) ⟨H.out.drew.cell 2 rfl, H.out.drew.cell 1 rfl, H.out.drew.cell 4 rfl, H.out.drew.cell 3 rfl⟩ (fun hHeld => ?_)
  refine with_tabW tab_judge_Zone_15 bits_judge_Zone_15 (fun HT_ HW_ => ?_)
  have zH := H.out.drew
  generalize W42.drew = W43 at zH hHeld ⊢
  replace H := Lib.hid zH; clear zH
  apply pu 0 100 (bq 24 1) HT_
  apply tw 1 101 (bq 24 3) HT_ HW_ hHeld
  apply pu 2 102 (bq 24 7) HT_
  apply tw 3 103 (bq 24 15) HT_ HW_ hHeld
  apply pu 4 104 (bq 24 31) HT_
  apply pu 5 105 (bq 24 63) HT_
  apply po 6 106 (bq 24 127) HT_
  apply po 7 107 (bq 24 255) HT_
  apply po 8 108 (bq 24 511) HT_
  apply po 9 109 (bq 24 1023) HT_
  apply po 10 110 (bq 24 2047) HT_
  apply po 11 111 (bq 24 4095) HT_
  apply pu 12 112 (bq 24 8191) HT_
  apply pu 13 113 (bq 24 16383) HT_
  apply po 14 114 (bq 24 32767) HT_
  apply po 15 115 (bq 24 65535) HT_
  apply po 16 116 (bq 24 131071) HT_
  apply po 17 117 (bq 24 262143) HT_
  apply po 18 118 (bq 24 524287) HT_
  apply po 19 119 (bq 24 1048575) HT_
  apply po 20 120 (bq 24 2097151) HT_
  apply po 21 121 (bq 24 4194303) HT_
  apply pu 22 122 (bq 24 8388607) HT_
  apply pu 23 99 (bq 24 16777215) HT_
  refine done_ (done_of HT_.out (by kernel_rfl)) ?_
  obtain ⟨-, cC, cS, cG, cX, cM⟩ := n5_ H
  go_wp2
  go_ret
  exact ⟨congrArg (fun b : Bool => Ending.returned (.bool b)) HW.out.symm, H.out.below⟩
 replace q1 := Decidable.not_not.mp q1
 by_cases q2 : gw < lo
 ·
  have hv := HA.out; unfold tailB at hv
  rw [if_neg (fun h => h q1), if_pos q2] at hv
  have HW := Lib.hid hv
  clear hv HA
  have bq1 : (gg == wg) = true := beq_iff_eq.mpr q1; have dq1 : (gg != wg) = false := bne_eq_false_iff_eq.mpr q1; clear q1
  have bq2 : decide (gw < lo) = true := decide_eq_true q2
  obtain ⟨-, cS, cG, cX, cM⟩ := n4_ H
  go_wp2_with first
   | (apply bh H 20 (cL 0 0 0 0 0 0 0 0 0 0 0) 23; clear H cS cG cX cM; intro gC W41 H; obtain ⟨-, cC, cS, cG, cX, cM⟩ := n5_ H)
   | (apply sh H 0 23 20 gC (cL id m u b c z s me o a l); clear H cC cS cG cX cM; intro W42 K_; obtain ⟨H, cC, cS, cG, cX, cM⟩ := n5_ K_; clear K_)
  clear cC cS cG cX cM
  refine start_ (n := 24) (S := fun W => bW W gG (oL gst gw gg) /\ bW W gS (oL ws ww wg) /\ bW W gM (mL id m u b c z s me o a l (.slice A1 n1 k1) (.slice A2 n2 k2) (.slice A3 n3 k3)) /\ bW W gX (xL kd i p n (.slice Ad d.length kdd) f)) (ds := []) (bq 24 0) (by kernel_rfl) rfl (by kernel_rfl) ⟨H.out.drew.cell 2 rfl, H.out.drew.cell 1 rfl, H.out.drew.cell 4 rfl, H.out.drew.cell 3 rfl⟩ (fun hHeld => ?_)
  refine with_tabW tab_judge_Zone_15 bits_judge_Zone_15 (fun HT_ HW_ => ?_)
  have zH := H.out.drew
  generalize W42.drew = W43 at zH hHeld ⊢
  replace H := Lib.hid zH; clear zH
  apply pu 0 100 (bq 24 1) HT_
  apply tw 1 101 (bq 24 3) HT_ HW_ hHeld
  apply pu 2 102 (bq 24 7) HT_
  apply tw 3 103 (bq 24 15) HT_ HW_ hHeld
  apply pu 4 104 (bq 24 31) HT_
  apply pu 5 105 (bq 24 63) HT_
  apply pu 6 106 (bq 24 127) HT_
  apply tw 7 107 (bq 24 255) HT_ HW_ hHeld
  apply tw 8 108 (bq 24 511) HT_ HW_ hHeld
  apply pu 9 109 (bq 24 1023) HT_
  apply on 10 (some 110) (bq 24 2047) HT_; intro K hK
  refine gs Try.func36 #[modV id m u b c z s me o a l (.slice A1 n1 k1) (.slice A2 n2 k2) (.slice A3 n3 k3), .int .i64 z_] ?_
  refine (HL.out _ (MC_below HMC.out H.out.below)).mono ?_
  rintro e W44 ⟨rfl, hb⟩
  refine ⟨_, rfl, ?_⟩
  replace H := pc H hb
  clear hb
  refine hK.out _ _ ⟨H.out.cell 2 rfl, H.out.cell 1 rfl, H.out.cell 4 rfl, H.out.cell 3 rfl⟩ (fun hHeld => ?_)
  clear hK K
  apply nm 0
  apply pu 11 111 (bq 24 4095) HT_
  apply pu 12 112 (bq 24 8191) HT_
  apply pu 13 113 (bq 24 16383) HT_
  apply po 14 114 (bq 24 32767) HT_
  apply po 15 115 (bq 24 65535) HT_
  apply po 16 116 (bq 24 131071) HT_
  apply po 17 117 (bq 24 262143) HT_
  apply po 18 118 (bq 24 524287) HT_
  apply po 19 119 (bq 24 1048575) HT_
  apply po 20 120 (bq 24 2097151) HT_
  apply po 21 121 (bq 24 4194303) HT_
  apply pu 22 122 (bq 24 8388607) HT_
  apply pu 23 99 (bq 24 16777215) HT_
  refine done_ (done_of HT_.out (by kernel_rfl)) ?_
  obtain ⟨-, cC, cS, cG, cX, cM⟩ := n5_ H
  go_wp2
  go_ret
  exact ⟨congrArg (fun b : Bool => Ending.returned (.bool b)) HW.out.symm, H.out.below⟩
 by_cases q3 : hi_ < gw
 ·
  have hv := HA.out; unfold tailB at hv
  rw [if_neg (fun h => h q1), if_neg q2, if_pos q3] at hv
  have HW := Lib.hid hv
  clear hv HA
  have bq1 : (gg == wg) = true := beq_iff_eq.mpr q1; have dq1 : (gg != wg) = false := bne_eq_false_iff_eq.mpr q1; clear q1
  have bq2 : decide (gw < lo) = false := decide_eq_false q2
  have bq3 : decide (hi_ < gw) = true := decide_eq_true q3
  obtain ⟨-, cS, cG, cX, cM⟩ := n4_ H
  go_wp2_with first
   | (apply bh H 20 (cL 0 0 0 0 0 0 0 0 0 0 0) 23; clear H cS cG cX cM; intro gC W41 H; obtain ⟨-, cC, cS, cG, cX, cM⟩ := n5_ H)
   | (apply sh H 0 23 20 gC (cL id m u b c z s me o a l); clear H cC cS cG cX cM; intro W42 K_; obtain ⟨H, cC, cS, cG, cX, cM⟩ := n5_ K_; clear K_)
  clear cC cS cG cX cM
  refine start_ (n := 24) (S := fun W => bW W gG (oL gst gw gg) /\ bW W gS (oL ws ww wg) /\ bW W gM (mL id m u b c z s me o a l (.slice A1 n1 k1) (.slice A2 n2 k2) (.slice A3 n3 k3)) /\ bW W gX (xL kd i p n (.slice Ad d.length kdd) f)) (ds := []) (bq 24 0) (by kernel_rfl) rfl (by kernel_rfl) ⟨H.out.drew.cell 2 rfl, H.out.drew.cell 1 rfl, H.out.drew.cell 4 rfl, H.out.drew.cell 3 rfl⟩ (fun hHeld => ?_)
  refine with_tabW tab_judge_Zone_15 bits_judge_Zone_15 (fun HT_ HW_ => ?_)
  have zH := H.out.drew
  generalize W42.drew = W43 at zH hHeld ⊢
  replace H := Lib.hid zH; clear zH
  apply pu 0 100 (bq 24 1) HT_
  apply tw 1 101 (bq 24 3) HT_ HW_ hHeld
  apply pu 2 102 (bq 24 7) HT_
  apply tw 3 103 (bq 24 15) HT_ HW_ hHeld
  apply pu 4 104 (bq 24 31) HT_
  apply pu 5 105 (bq 24 63) HT_
  apply pu 6 106 (bq 24 127) HT_
  apply tw 7 107 (bq 24 255) HT_ HW_ hHeld
  apply tw 8 108 (bq 24 511) HT_ HW_ hHeld
  apply pu 9 109 (bq 24 1023) HT_
  apply on 10 (some 110) (bq 24 2047) HT_; intro K hK
  refine gs Try.func36 #[modV id m u b c z s me o a l (.slice A1 n1 k1) (.slice A2 n2 k2) (.slice A3 n3 k3), .int .i64 z_] ?_
  refine (HL.out _ (MC_below HMC.out H.out.below)).mono ?_
  rintro e W44 ⟨rfl, hb⟩
  refine ⟨_, rfl, ?_⟩
  replace H := pc H hb
  clear hb
  refine hK.out _ _ ⟨H.out.cell 2 rfl, H.out.cell 1 rfl, H.out.cell 4 rfl, H.out.cell 3 rfl⟩ (fun hHeld => ?_)
  clear hK K
  apply nm 0
  apply pu 11 111 (bq 24 4095) HT_
  apply pu 12 112 (bq 24 8191) HT_
  apply pu 13 113 (bq 24 16383) HT_
  apply pu 14 114 (bq 24 32767) HT_
  apply tw 15 115 (bq 24 65535) HT_ HW_ hHeld
  apply tw 16 116 (bq 24 131071) HT_ HW_ hHeld
  apply tw 17 117 (bq 24 262143) HT_ HW_ hHeld
  apply pu 18 118 (bq 24 524287) HT_
  apply pu 19 119 (bq 24 1048575) HT_
  apply on 20 (some 120) (bq 24 2097151) HT_; intro K hK
  refine gs Try.func37 #[modV id m u b c z s me o a l (.slice A1 n1 k1) (.slice A2 n2 k2) (.slice A3 n3 k3), cmdV kd i p n (.slice Ad d.length kdd) f, .bool is, .int .i64 z_] ?_
  refine (HH.out _ (MC_below HMC.out H.out.below) (Kd.C_below HD.out H.out.below)).mono ?_
  rintro e W45 ⟨rfl, hb⟩
  refine ⟨_, rfl, ?_⟩
  replace H := pc H hb
  clear hb
  refine hK.out _ _ ⟨H.out.cell 2 rfl, H.out.cell 1 rfl, H.out.cell 4 rfl, H.out.cell 3 rfl⟩ (fun hHeld => ?_)
  clear hK K
  apply nm 0
  apply pu 21 121 (bq 24 4194303) HT_
  apply pu 22 122 (bq 24 8388607) HT_
  apply pu 23 99 (bq 24 16777215) HT_
  refine done_ (done_of HT_.out (by kernel_rfl)) ?_
  obtain ⟨-, cC, cS, cG, cX, cM⟩ := n5_ H
  go_wp2
  go_ret
  exact ⟨congrArg (fun b : Bool => Ending.returned (.bool b)) HW.out.symm, H.out.below⟩
 by_cases q4 : ¬ gst = rr
 ·
  have hv := HA.out; unfold tailB at hv
  rw [if_neg (fun h => h q1), if_neg q2, if_neg q3, if_pos q4] at hv
  have HW := Lib.hid hv
  clear hv HA
  have bq1 : (gg == wg) = true := beq_iff_eq.mpr q1; have dq1 : (gg != wg) = false := bne_eq_false_iff_eq.mpr q1; clear q1
  have bq4 : (gst == rr) = false := beq_eq_false_iff_ne.mpr q4; have dq4 : (gst != rr) = true := bne_iff_ne.mpr q4; clear q4
  have bq2 : decide (gw < lo) = false := decide_eq_false q2
  have bq3 : decide (hi_ < gw) = false := decide_eq_false q3
  obtain ⟨-, cS, cG, cX, cM⟩ := n4_ H
  go_wp2_with first
   | (apply bh H 20 (cL 0 0 0 0 0 0 0 0 0 0 0) 23; clear H cS cG cX cM; intro gC W41 H; obtain ⟨-, cC, cS, cG, cX, cM⟩ := n5_ H)
   | (apply sh H 0 23 20 gC (cL id m u b c z s me o a l); clear H cC cS cG cX cM; intro W42 K_; obtain ⟨H, cC, cS, cG, cX, cM⟩ := n5_ K_; clear K_)
  clear cC cS cG cX cM
  refine start_ (n := 24) (S := fun W => bW W gG (oL gst gw gg) /\ bW W gS (oL ws ww wg) /\ bW W gM (mL id m u b c z s me o a l (.slice A1 n1 k1) (.slice A2 n2 k2) (.slice A3 n3 k3)) /\ bW W gX (xL kd i p n (.slice Ad d.length kdd) f)) (ds := []) (bq 24 0) (by kernel_rfl) rfl (by kernel_rfl) ⟨H.out.drew.cell 2 rfl, H.out.drew.cell 1 rfl, H.out.drew.cell 4 rfl, H.out.drew.cell 3 rfl⟩ (fun hHeld => ?_)
  refine with_tabW tab_judge_Zone_15 bits_judge_Zone_15 (fun HT_ HW_ => ?_)
  have zH := H.out.drew
  generalize W42.drew = W43 at zH hHeld ⊢
  replace H := Lib.hid zH; clear zH
  apply pu 0 100 (bq 24 1) HT_
  apply tw 1 101 (bq 24 3) HT_ HW_ hHeld
  apply pu 2 102 (bq 24 7) HT_
  apply tw 3 103 (bq 24 15) HT_ HW_ hHeld
  apply pu 4 104 (bq 24 31) HT_
  apply pu 5 105 (bq 24 63) HT_
  apply pu 6 106 (bq 24 127) HT_
  apply tw 7 107 (bq 24 255) HT_ HW_ hHeld
  apply tw 8 108 (bq 24 511) HT_ HW_ hHeld
  apply pu 9 109 (bq 24 1023) HT_
  apply on 10 (some 110) (bq 24 2047) HT_; intro K hK
  refine gs Try.func36 #[modV id m u b c z s me o a l (.slice A1 n1 k1) (.slice A2 n2 k2) (.slice A3 n3 k3), .int .i64 z_] ?_
  refine (HL.out _ (MC_below HMC.out H.out.below)).mono ?_
  rintro e W44 ⟨rfl, hb⟩
  refine ⟨_, rfl, ?_⟩
  replace H := pc H hb
  clear hb
  refine hK.out _ _ ⟨H.out.cell 2 rfl, H.out.cell 1 rfl, H.out.cell 4 rfl, H.out.cell 3 rfl⟩ (fun hHeld => ?_)
  clear hK K
  apply nm 0
  apply pu 11 111 (bq 24 4095) HT_
  apply pu 12 112 (bq 24 8191) HT_
  apply pu 13 113 (bq 24 16383) HT_
  apply pu 14 114 (bq 24 32767) HT_
  apply tw 15 115 (bq 24 65535) HT_ HW_ hHeld
  apply tw 16 116 (bq 24 131071) HT_ HW_ hHeld
  apply tw 17 117 (bq 24 262143) HT_ HW_ hHeld
  apply pu 18 118 (bq 24 524287) HT_
  apply pu 19 119 (bq 24 1048575) HT_
  apply on 20 (some 120) (bq 24 2097151) HT_; intro K hK
  refine gs Try.func37 #[modV id m u b c z s me o a l (.slice A1 n1 k1) (.slice A2 n2 k2) (.slice A3 n3 k3), cmdV kd i p n (.slice Ad d.length kdd) f, .bool is, .int .i64 z_] ?_
  refine (HH.out _ (MC_below HMC.out H.out.below) (Kd.C_below HD.out H.out.below)).mono ?_
  rintro e W45 ⟨rfl, hb⟩
  refine ⟨_, rfl, ?_⟩
  replace H := pc H hb
  clear hb
  refine hK.out _ _ ⟨H.out.cell 2 rfl, H.out.cell 1 rfl, H.out.cell 4 rfl, H.out.cell 3 rfl⟩ (fun hHeld => ?_)
  clear hK K
  apply nm 0
  apply pu 21 121 (bq 24 4194303) HT_
  apply pu 22 122 (bq 24 8388607) HT_
  apply pu 23 99 (bq 24 16777215) HT_
  refine done_ (done_of HT_.out (by kernel_rfl)) ?_
  obtain ⟨-, cC, cS, cG, cX, cM⟩ := n5_ H
  go_wp2
  clear cC cS cG cX cM
  refine start_ (n := 21) (S := fun W => bW W gG (oL gst gw gg) /\ bW W gS (oL ws ww wg) /\ bW W gC (cL id m u b c z s me o a l)) (ds := []) (bq 21 0) (by kernel_rfl) rfl (by kernel_rfl) ⟨H.out.drew.cell 2 rfl, H.out.drew.cell 1 rfl, H.out.drew.cell 0 rfl⟩ (fun hHeld => ?_)
  refine with_tabW tab_judge_Zone_17 bits_judge_Zone_17 (fun HT_ HW_ => ?_)
  have zH := H.out.drew
  generalize W45.drew = W46 at zH hHeld ⊢
  replace H := Lib.hid zH; clear zH
  apply pu 0 124 (bq 21 1) HT_
  apply tw 1 125 (bq 21 3) HT_ HW_ hHeld
  apply tw 2 126 (bq 21 7) HT_ HW_ hHeld
  apply tw 3 127 (bq 21 15) HT_ HW_ hHeld
  apply pu 4 128 (bq 21 31) HT_
  apply tw 5 129 (bq 21 63) HT_ HW_ hHeld
  apply on 6 (some 130) (bq 21 127) HT_; intro K hK
  refine gs Try.func42 #[.agg #[.int .i64 id, .int .i64 m, .int .i64 u, .int .i64 b, .int .i64 c, .int .i64 z, .int .i64 s, .int .i64 me, .int .i64 o, .int .i64 a, .int .i64 l], zoV ⟨ws, ww, wg⟩, .int .i64 gw] ?_
  refine (HRS.out _).mono ?_
  rintro e W47 ⟨rfl, hb⟩
  refine ⟨_, rfl, ?_⟩
  replace H := pc H hb
  clear hb
  refine hK.out _ _ ⟨H.out.cell 2 rfl, H.out.cell 1 rfl, H.out.cell 0 rfl⟩ (fun hHeld => ?_)
  clear hK K
  apply nm 0
  apply pu 7 131 (bq 21 255) HT_
  apply pu 8 132 (bq 21 511) HT_
  apply po 9 133 (bq 21 1023) HT_
  apply po 10 134 (bq 21 2047) HT_
  apply po 11 135 (bq 21 4095) HT_
  apply po 12 136 (bq 21 8191) HT_
  apply po 13 137 (bq 21 16383) HT_
  apply po 14 138 (bq 21 32767) HT_
  apply po 15 139 (bq 21 65535) HT_
  apply po 16 140 (bq 21 131071) HT_
  apply po 17 141 (bq 21 262143) HT_
  apply po 18 142 (bq 21 524287) HT_
  apply pu 19 143 (bq 21 1048575) HT_
  apply pu 20 123 (bq 21 2097151) HT_
  refine done_ (done_of HT_.out (by kernel_rfl)) ?_
  obtain ⟨-, cC, cS, cG, cX, cM⟩ := n5_ H
  go_wp2
  go_ret
  exact ⟨congrArg (fun b : Bool => Ending.returned (.bool b)) HW.out.symm, H.out.below⟩
 exact absurd ⟨q1, Int.not_lt.mp q2, Int.not_lt.mp q3, Decidable.not_not.mp q4⟩ hC
set_option maxHeartbeats 16000000 in
set_option maxRecDepth 100000 in
theorem jzt_2 (id m u b c z s me o a l : Int) (w : World) (x y q : Value) (D N : Mdl) (kd i p n : Int) (Ad : Option Addr) (kdd : Nat) (d : List Int) (f : Bool) (is mb : Bool) (z_ ws ww wg ts tv tg gst gw gg Y lo hi_ rr : Int) (t2 cb ez et : Bool) (LD LN : List Int) (At : Option Addr) (kt : Nat) (tx : List Int) (cc : JzC id m u b c z s me o a l w x y q D N kd i p n Ad kdd d f is mb z_ ws ww wg ts tv tg gst gw gg Y lo hi_ rr t2 cb ez et LD LN At kt tx) : JzTail id m u b c z s me o a l w x y q D N kd i p n Ad kdd d f is mb z_ ws ww wg ts tv tg gst gw gg Y lo hi_ rr t2 cb ez et LD LN At kt tx (zoneQ mb kd ez et gst gw gg ws ww wg lo hi_ rr cb Y LD LN tx) ((gg = wg /\ lo <= gw /\ gw <= hi_ /\ gst = rr /\ cb = false)) := by
 generalize zoneQ mb kd ez et gst gw gg ws ww wg lo hi_ rr cb Y LD LN tx = V
 unfold JzTail
 obtain ⟨h, hi, hd, hdk, hx, hxk, af, z1, z2, x1, x2, hl, hh, rs, cu, hlo, hY, hez, het⟩ := cc
 obtain ⟨A1, A2, A3, n1, n2, n3, k1, k2, k3, rfl, rfl, rfl, hn1, hn2, hn3, hC1, hC2, hC3, hk1, hk2, hk3, hrt, hL1, hLp, hlT, hlS, hcb⟩ := mc_open h hi
 have y1 : wrap64 (gw * b) = Y := hY; have y2 : IntKind.i64.wrap (gw * b) = Y := (i64_w _).trans hY
 intro v gM gX gG gS wc LW BW cW hC HA H
 obtain ⟨lx, hlx⟩ : ∃ n, n = tx.length := ⟨_, rfl⟩
 rw [<- hlx] at hx hxk ⊢
 have hef := fun (LW : List Int) v1 v2 W h1 h2 => equal_any v1 v2 (strOfNums tx) (strOfNums (LW.take Y.toNat)) W h1 h2
 have HMC := Lib.hid h; have HD := Lib.hid hd; have HT := Lib.hid hx; have HL := Lib.hid hl; have HH := Lib.hid hh; have HRS := Lib.hid rs; have HCU := Lib.hid cu; have HEF := Lib.hid hef; have HLO := Lib.hid hlo; clear hd hx hdk hxk af z1 z2 x1 x2 hl hh rs cu hef het hY hlx hez hlo
 clear h hi hcb hrt hL1 hLp hlT hlS hn1 hn2 hn3 hk1 hk2 hk3 hC1 hC2 hC3
 have hcW := BR_cap (H.out.fact 0 rfl)
 conv => arg 2; whnf
 obtain ⟨q1, q2, q3, q4, q5⟩ := hC
 replace q2 := Int.not_lt.mpr q2; replace q3 := Int.not_lt.mpr q3
 have q8 : 0 <= Y := HLO.out (by omega)
 have hY9 : ((Y.toNat : Nat) : Int) = Y := Int.toNat_of_nonneg q8
 have HY9 := Lib.hid hY9; clear hY9
 by_cases q7 : ¬ Y <= (LW.length : Int)
 ·
  have hv := HA.out; unfold tailB at hv
  rw [if_neg (fun h => h q1), if_neg q2, if_neg q3, if_neg (fun h => h q4), if_neg (fun h => absurd h.1 (by rw [q5]; decide)), if_pos q7] at hv
  have HW := Lib.hid hv
  clear hv HA
  have bq1 : (gg == wg) = true := beq_iff_eq.mpr q1; have dq1 : (gg != wg) = false := bne_eq_false_iff_eq.mpr q1; clear q1
  have bq4 : (gst == rr) = true := beq_iff_eq.mpr q4; have dq4 : (gst != rr) = false := bne_eq_false_iff_eq.mpr q4; clear q4
  have bq2 : decide (gw < lo) = false := decide_eq_false q2
  have bq3 : decide (hi_ < gw) = false := decide_eq_false q3
  have bq7 : decide (Y <= (LW.length : Int)) = false := decide_eq_false q7
  subst q5
  obtain ⟨-, cS, cG, cX, cM⟩ := n4_ H
  go_wp2_with first
   | (apply bh H 20 (cL 0 0 0 0 0 0 0 0 0 0 0) 23; clear H cS cG cX cM; intro gC W41 H; obtain ⟨-, cC, cS, cG, cX, cM⟩ := n5_ H)
   | (apply sh H 0 23 20 gC (cL id m u b c z s me o a l); clear H cC cS cG cX cM; intro W42 K_; obtain ⟨H, cC, cS, cG, cX, cM⟩ := n5_ K_; clear K_)
  clear cC cS cG cX cM
  refine start_ (n := 24) (S := fun W => bW W gG (oL gst gw gg) /\ bW W gS (oL ws ww wg) /\ bW W gM (mL id m u b c z s me o a l (.slice A1 n1 k1) (.slice A2 n2 k2) (.slice A3 n3 k3)) /\ bW W gX (xL kd i p n (.slice Ad d.length kdd) f)) (ds := []) (bq 24 0) (by kernel_rfl) rfl (by kernel_rfl) ⟨H.out.drew.cell 2 rfl, H.out.drew.cell 1 rfl, H.out.drew.cell 4 rfl, H.out.drew.cell 3 rfl⟩ (fun hHeld => ?_)
  refine with_tabW tab_judge_Zone_15 bits_judge_Zone_15 (fun HT_ HW_ => ?_)
  have zH := H.out.drew
  generalize W42.drew = W43 at zH hHeld ⊢
  replace H := Lib.hid zH; clear zH
  apply pu 0 100 (bq 24 1) HT_
  apply tw 1 101 (bq 24 3) HT_ HW_ hHeld
  apply pu 2 102 (bq 24 7) HT_
  apply tw 3 103 (bq 24 15) HT_ HW_ hHeld
  apply pu 4 104 (bq 24 31) HT_
  apply pu 5 105 (bq 24 63) HT_
  apply pu 6 106 (bq 24 127) HT_
  apply tw 7 107 (bq 24 255) HT_ HW_ hHeld
  apply tw 8 108 (bq 24 511) HT_ HW_ hHeld
  apply pu 9 109 (bq 24 1023) HT_
  apply on 10 (some 110) (bq 24 2047) HT_; intro K hK
  refine gs Try.func36 #[modV id m u b c z s me o a l (.slice A1 n1 k1) (.slice A2 n2 k2) (.slice A3 n3 k3), .int .i64 z_] ?_
  refine (HL.out _ (MC_below HMC.out H.out.below)).mono ?_
  rintro e W44 ⟨rfl, hb⟩
  refine ⟨_, rfl, ?_⟩
  replace H := pc H hb
  clear hb
  refine hK.out _ _ ⟨H.out.cell 2 rfl, H.out.cell 1 rfl, H.out.cell 4 rfl, H.out.cell 3 rfl⟩ (fun hHeld => ?_)
  clear hK K
  apply nm 0
  apply pu 11 111 (bq 24 4095) HT_
  apply pu 12 112 (bq 24 8191) HT_
  apply pu 13 113 (bq 24 16383) HT_
  apply pu 14 114 (bq 24 32767) HT_
  apply tw 15 115 (bq 24 65535) HT_ HW_ hHeld
  apply tw 16 116 (bq 24 131071) HT_ HW_ hHeld
  apply tw 17 117 (bq 24 262143) HT_ HW_ hHeld
  apply pu 18 118 (bq 24 524287) HT_
  apply pu 19 119 (bq 24 1048575) HT_
  apply on 20 (some 120) (bq 24 2097151) HT_; intro K hK
  refine gs Try.func37 #[modV id m u b c z s me o a l (.slice A1 n1 k1) (.slice A2 n2 k2) (.slice A3 n3 k3), cmdV kd i p n (.slice Ad d.length kdd) f, .bool is, .int .i64 z_] ?_
  refine (HH.out _ (MC_below HMC.out H.out.below) (Kd.C_below HD.out H.out.below)).mono ?_
  rintro e W45 ⟨rfl, hb⟩
  refine ⟨_, rfl, ?_⟩
  replace H := pc H hb
  clear hb
  refine hK.out _ _ ⟨H.out.cell 2 rfl, H.out.cell 1 rfl, H.out.cell 4 rfl, H.out.cell 3 rfl⟩ (fun hHeld => ?_)
  clear hK K
  apply nm 0
  apply pu 21 121 (bq 24 4194303) HT_
  apply pu 22 122 (bq 24 8388607) HT_
  apply pu 23 99 (bq 24 16777215) HT_
  refine done_ (done_of HT_.out (by kernel_rfl)) ?_
  obtain ⟨-, cC, cS, cG, cX, cM⟩ := n5_ H
  go_wp2
  clear cC cS cG cX cM
  refine start_ (n := 21) (S := fun W => bW W gG (oL gst gw gg) /\ bW W gS (oL ws ww wg) /\ bW W gC (cL id m u b c z s me o a l)) (ds := []) (bq 21 0) (by kernel_rfl) rfl (by kernel_rfl) ⟨H.out.drew.cell 2 rfl, H.out.drew.cell 1 rfl, H.out.drew.cell 0 rfl⟩ (fun hHeld => ?_)
  refine with_tabW tab_judge_Zone_17 bits_judge_Zone_17 (fun HT_ HW_ => ?_)
  have zH := H.out.drew
  generalize W45.drew = W46 at zH hHeld ⊢
  replace H := Lib.hid zH; clear zH
  apply pu 0 124 (bq 21 1) HT_
  apply tw 1 125 (bq 21 3) HT_ HW_ hHeld
  apply tw 2 126 (bq 21 7) HT_ HW_ hHeld
  apply tw 3 127 (bq 21 15) HT_ HW_ hHeld
  apply pu 4 128 (bq 21 31) HT_
  apply tw 5 129 (bq 21 63) HT_ HW_ hHeld
  apply on 6 (some 130) (bq 21 127) HT_; intro K hK
  refine gs Try.func42 #[.agg #[.int .i64 id, .int .i64 m, .int .i64 u, .int .i64 b, .int .i64 c, .int .i64 z, .int .i64 s, .int .i64 me, .int .i64 o, .int .i64 a, .int .i64 l], zoV ⟨ws, ww, wg⟩, .int .i64 gw] ?_
  refine (HRS.out _).mono ?_
  rintro e W47 ⟨rfl, hb⟩
  refine ⟨_, rfl, ?_⟩
  replace H := pc H hb
  clear hb
  refine hK.out _ _ ⟨H.out.cell 2 rfl, H.out.cell 1 rfl, H.out.cell 0 rfl⟩ (fun hHeld => ?_)
  clear hK K
  apply nm 0
  apply pu 7 131 (bq 21 255) HT_
  apply pu 8 132 (bq 21 511) HT_
  apply tw 9 133 (bq 21 1023) HT_ HW_ hHeld
  apply tw 10 134 (bq 21 2047) HT_ HW_ hHeld
  apply on 11 (some 135) (bq 21 4095) HT_; intro K hK
  refine gs Try.func91 #[.agg #[.int .i64 id, .int .i64 m, .int .i64 u, .int .i64 b, .int .i64 c, .int .i64 z, .int .i64 s, .int .i64 me, .int .i64 o, .int .i64 a, .int .i64 l], zoV ⟨ws, ww, wg⟩] ?_
  refine (HCU.out _).mono ?_
  rintro e W48 ⟨rfl, hb⟩
  refine ⟨_, rfl, ?_⟩
  replace H := pc H hb
  clear hb
  refine hK.out _ _ ⟨H.out.cell 2 rfl, H.out.cell 1 rfl, H.out.cell 0 rfl⟩ (fun hHeld => ?_)
  clear hK K
  apply nm 0
  apply pu 12 136 (bq 21 8191) HT_
  apply po 13 137 (bq 21 16383) HT_
  apply po 14 138 (bq 21 32767) HT_
  apply po 15 139 (bq 21 65535) HT_
  apply po 16 140 (bq 21 131071) HT_
  apply po 17 141 (bq 21 262143) HT_
  apply pu 18 142 (bq 21 524287) HT_
  apply pu 19 143 (bq 21 1048575) HT_
  apply pu 20 123 (bq 21 2097151) HT_
  refine done_ (done_of HT_.out (by kernel_rfl)) ?_
  obtain ⟨-, cC, cS, cG, cX, cM⟩ := n5_ H
  go_wp2
  go_ret
  exact ⟨congrArg (fun b : Bool => Ending.returned (.bool b)) HW.out.symm, H.out.below⟩
 replace q7 := Decidable.not_not.mp q7
 ·
  have hv := HA.out; unfold tailB at hv
  rw [if_neg (fun h => h q1), if_neg q2, if_neg q3, if_neg (fun h => h q4), if_neg (fun h => absurd h.1 (by rw [q5]; decide)), if_neg (fun h => h q7)] at hv
  have HW := Lib.hid hv
  clear hv HA
  have hef := HEF.out LW
  generalize ((strOfNums tx).toList == (strOfNums (LW.take Y.toNat)).toList) = eF at hef HW
  have HE2 := Lib.hid hef; clear hef
  have bq1 : (gg == wg) = true := beq_iff_eq.mpr q1; have dq1 : (gg != wg) = false := bne_eq_false_iff_eq.mpr q1; clear q1
  have bq4 : (gst == rr) = true := beq_iff_eq.mpr q4; have dq4 : (gst != rr) = false := bne_eq_false_iff_eq.mpr q4; clear q4
  have bq2 : decide (gw < lo) = false := decide_eq_false q2
  have bq3 : decide (hi_ < gw) = false := decide_eq_false q3
  have bq7 : decide (Y <= (LW.length : Int)) = true := decide_eq_true q7
  have q9 : Y <= (cW : Int) := by omega
  subst q5
  obtain ⟨-, cS, cG, cX, cM⟩ := n4_ H
  go_wp2_with first
   | (apply bh H 20 (cL 0 0 0 0 0 0 0 0 0 0 0) 23; clear H cS cG cX cM; intro gC W41 H; obtain ⟨-, cC, cS, cG, cX, cM⟩ := n5_ H)
   | (apply sh H 0 23 20 gC (cL id m u b c z s me o a l); clear H cC cS cG cX cM; intro W42 K_; obtain ⟨H, cC, cS, cG, cX, cM⟩ := n5_ K_; clear K_)
  clear cC cS cG cX cM
  refine start_ (n := 24) (S := fun W => bW W gG (oL gst gw gg) /\ bW W gS (oL ws ww wg) /\ bW W gM (mL id m u b c z s me o a l (.slice A1 n1 k1) (.slice A2 n2 k2) (.slice A3 n3 k3)) /\ bW W gX (xL kd i p n (.slice Ad d.length kdd) f)) (ds := []) (bq 24 0) (by kernel_rfl) rfl (by kernel_rfl) ⟨H.out.drew.cell 2 rfl, H.out.drew.cell 1 rfl, H.out.drew.cell 4 rfl, H.out.drew.cell 3 rfl⟩ (fun hHeld => ?_)
  refine with_tabW tab_judge_Zone_15 bits_judge_Zone_15 (fun HT_ HW_ => ?_)
  have zH := H.out.drew
  generalize W42.drew = W43 at zH hHeld ⊢
  replace H := Lib.hid zH; clear zH
  apply pu 0 100 (bq 24 1) HT_
  apply tw 1 101 (bq 24 3) HT_ HW_ hHeld
  apply pu 2 102 (bq 24 7) HT_
  apply tw 3 103 (bq 24 15) HT_ HW_ hHeld
  apply pu 4 104 (bq 24 31) HT_
  apply pu 5 105 (bq 24 63) HT_
  apply pu 6 106 (bq 24 127) HT_
  apply tw 7 107 (bq 24 255) HT_ HW_ hHeld
  apply tw 8 108 (bq 24 511) HT_ HW_ hHeld
  apply pu 9 109 (bq 24 1023) HT_
  apply on 10 (some 110) (bq 24 2047) HT_; intro K hK
  refine gs Try.func36 #[modV id m u b c z s me o a l (.slice A1 n1 k1) (.slice A2 n2 k2) (.slice A3 n3 k3), .int .i64 z_] ?_
  refine (HL.out _ (MC_below HMC.out H.out.below)).mono ?_
  rintro e W44 ⟨rfl, hb⟩
  refine ⟨_, rfl, ?_⟩
  replace H := pc H hb
  clear hb
  refine hK.out _ _ ⟨H.out.cell 2 rfl, H.out.cell 1 rfl, H.out.cell 4 rfl, H.out.cell 3 rfl⟩ (fun hHeld => ?_)
  clear hK K
  apply nm 0
  apply pu 11 111 (bq 24 4095) HT_
  apply pu 12 112 (bq 24 8191) HT_
  apply pu 13 113 (bq 24 16383) HT_
  apply pu 14 114 (bq 24 32767) HT_
  apply tw 15 115 (bq 24 65535) HT_ HW_ hHeld
  apply tw 16 116 (bq 24 131071) HT_ HW_ hHeld
  apply tw 17 117 (bq 24 262143) HT_ HW_ hHeld
  apply pu 18 118 (bq 24 524287) HT_
  apply pu 19 119 (bq 24 1048575) HT_
  apply on 20 (some 120) (bq 24 2097151) HT_; intro K hK
  refine gs Try.func37 #[modV id m u b c z s me o a l (.slice A1 n1 k1) (.slice A2 n2 k2) (.slice A3 n3 k3), cmdV kd i p n (.slice Ad d.length kdd) f, .bool is, .int .i64 z_] ?_
  refine (HH.out _ (MC_below HMC.out H.out.below) (Kd.C_below HD.out H.out.below)).mono ?_
  rintro e W45 ⟨rfl, hb⟩
  refine ⟨_, rfl, ?_⟩
  replace H := pc H hb
  clear hb
  refine hK.out _ _ ⟨H.out.cell 2 rfl, H.out.cell 1 rfl, H.out.cell 4 rfl, H.out.cell 3 rfl⟩ (fun hHeld => ?_)
  clear hK K
  apply nm 0
  apply pu 21 121 (bq 24 4194303) HT_
  apply pu 22 122 (bq 24 8388607) HT_
  apply pu 23 99 (bq 24 16777215) HT_
  refine done_ (done_of HT_.out (by kernel_rfl)) ?_
  obtain ⟨-, cC, cS, cG, cX, cM⟩ := n5_ H
  go_wp2
  clear cC cS cG cX cM
  refine start_ (n := 21) (S := fun W => bW W gG (oL gst gw gg) /\ bW W gS (oL ws ww wg) /\ bW W gC (cL id m u b c z s me o a l)) (ds := []) (bq 21 0) (by kernel_rfl) rfl (by kernel_rfl) ⟨H.out.drew.cell 2 rfl, H.out.drew.cell 1 rfl, H.out.drew.cell 0 rfl⟩ (fun hHeld => ?_)
  refine with_tabW tab_judge_Zone_17 bits_judge_Zone_17 (fun HT_ HW_ => ?_)
  have zH := H.out.drew
  generalize W45.drew = W46 at zH hHeld ⊢
  replace H := Lib.hid zH; clear zH
  apply pu 0 124 (bq 21 1) HT_
  apply tw 1 125 (bq 21 3) HT_ HW_ hHeld
  apply tw 2 126 (bq 21 7) HT_ HW_ hHeld
  apply tw 3 127 (bq 21 15) HT_ HW_ hHeld
  apply pu 4 128 (bq 21 31) HT_
  apply tw 5 129 (bq 21 63) HT_ HW_ hHeld
  apply on 6 (some 130) (bq 21 127) HT_; intro K hK
  refine gs Try.func42 #[.agg #[.int .i64 id, .int .i64 m, .int .i64 u, .int .i64 b, .int .i64 c, .int .i64 z, .int .i64 s, .int .i64 me, .int .i64 o, .int .i64 a, .int .i64 l], zoV ⟨ws, ww, wg⟩, .int .i64 gw] ?_
  refine (HRS.out _).mono ?_
  rintro e W47 ⟨rfl, hb⟩
  refine ⟨_, rfl, ?_⟩
  replace H := pc H hb
  clear hb
  refine hK.out _ _ ⟨H.out.cell 2 rfl, H.out.cell 1 rfl, H.out.cell 0 rfl⟩ (fun hHeld => ?_)
  clear hK K
  apply nm 0
  apply pu 7 131 (bq 21 255) HT_
  apply pu 8 132 (bq 21 511) HT_
  apply tw 9 133 (bq 21 1023) HT_ HW_ hHeld
  apply tw 10 134 (bq 21 2047) HT_ HW_ hHeld
  apply on 11 (some 135) (bq 21 4095) HT_; intro K hK
  refine gs Try.func91 #[.agg #[.int .i64 id, .int .i64 m, .int .i64 u, .int .i64 b, .int .i64 c, .int .i64 z, .int .i64 s, .int .i64 me, .int .i64 o, .int .i64 a, .int .i64 l], zoV ⟨ws, ww, wg⟩] ?_
  refine (HCU.out _).mono ?_
  rintro e W48 ⟨rfl, hb⟩
  refine ⟨_, rfl, ?_⟩
  replace H := pc H hb
  clear hb
  refine hK.out _ _ ⟨H.out.cell 2 rfl, H.out.cell 1 rfl, H.out.cell 0 rfl⟩ (fun hHeld => ?_)
  clear hK K
  apply nm 0
  apply pu 12 136 (bq 21 8191) HT_
  apply po 13 137 (bq 21 16383) HT_
  apply po 14 138 (bq 21 32767) HT_
  apply po 15 139 (bq 21 65535) HT_
  apply po 16 140 (bq 21 131071) HT_
  apply po 17 141 (bq 21 262143) HT_
  apply pu 18 142 (bq 21 524287) HT_
  apply pu 19 143 (bq 21 1048575) HT_
  apply pu 20 123 (bq 21 2097151) HT_
  refine done_ (done_of HT_.out (by kernel_rfl)) ?_
  obtain ⟨-, cC, cS, cG, cX, cM⟩ := n5_ H
  go_wp2_with first
   | (go_at_call 90; refine (HE2.out _ _ _ (Kd.C_string Try.underlying57 Try.underlying5 Try.underlying9 (Kd.C_below HT.out H.out.below)) (by have h := BR_slice_take (k := Y.toNat) (H.out.fact 0 rfl) (by omega); exact h)).mono ?_; rintro e W49 ⟨rfl, hb⟩; clear cC cS cG cX cM; replace H := pc H hb; clear hb; obtain ⟨-, cC, cS, cG, cX, cM⟩ := n5_ H)
  go_ret
  exact ⟨congrArg (fun b : Bool => Ending.returned (.bool b)) HW.out.symm, H.out.below⟩
set_option maxHeartbeats 16000000 in
set_option maxRecDepth 100000 in
theorem jzt_3 (id m u b c z s me o a l : Int) (w : World) (x y q : Value) (D N : Mdl) (kd i p n : Int) (Ad : Option Addr) (kdd : Nat) (d : List Int) (f : Bool) (is mb : Bool) (z_ ws ww wg ts tv tg gst gw gg Y lo hi_ rr : Int) (t2 cb ez et : Bool) (LD LN : List Int) (At : Option Addr) (kt : Nat) (tx : List Int) (cc : JzC id m u b c z s me o a l w x y q D N kd i p n Ad kdd d f is mb z_ ws ww wg ts tv tg gst gw gg Y lo hi_ rr t2 cb ez et LD LN At kt tx) : JzTail id m u b c z s me o a l w x y q D N kd i p n Ad kdd d f is mb z_ ws ww wg ts tv tg gst gw gg Y lo hi_ rr t2 cb ez et LD LN At kt tx (zoneQ mb kd ez et gst gw gg ws ww wg lo hi_ rr cb Y LD LN tx) ((gg = wg /\ lo <= gw /\ gw <= hi_ /\ gst = rr /\ cb = true)) := by
 generalize zoneQ mb kd ez et gst gw gg ws ww wg lo hi_ rr cb Y LD LN tx = V
 unfold JzTail
 obtain ⟨h, hi, hd, hdk, hx, hxk, af, z1, z2, x1, x2, hl, hh, rs, cu, hlo, hY, hez, het⟩ := cc
 obtain ⟨A1, A2, A3, n1, n2, n3, k1, k2, k3, rfl, rfl, rfl, hn1, hn2, hn3, hC1, hC2, hC3, hk1, hk2, hk3, hrt, hL1, hLp, hlT, hlS, hcb⟩ := mc_open h hi
 have y1 : wrap64 (gw * b) = Y := hY; have y2 : IntKind.i64.wrap (gw * b) = Y := (i64_w _).trans hY
 intro v gM gX gG gS wc LW BW cW hC HA H
 obtain ⟨lx, hlx⟩ : ∃ n, n = tx.length := ⟨_, rfl⟩
 rw [<- hlx] at hx hxk ⊢
 have hef := fun (LW : List Int) v1 v2 W h1 h2 => equal_any v1 v2 (strOfNums tx) (strOfNums (LW.take Y.toNat)) W h1 h2
 have HMC := Lib.hid h; have HD := Lib.hid hd; have HT := Lib.hid hx; have HL := Lib.hid hl; have HH := Lib.hid hh; have HRS := Lib.hid rs; have HCU := Lib.hid cu; have HEF := Lib.hid hef; have HLO := Lib.hid hlo; clear hd hx hdk hxk af z1 z2 x1 x2 hl hh rs cu hef het hY hlx hez hlo
 clear h hi hcb hrt hL1 hLp hlT hlS hn1 hn2 hn3 hk1 hk2 hk3 hC1 hC2 hC3
 have hcW := BR_cap (H.out.fact 0 rfl)
 conv => arg 2; whnf
 obtain ⟨q1, q2, q3, q4, q5⟩ := hC
 replace q2 := Int.not_lt.mpr q2; replace q3 := Int.not_lt.mpr q3
 have q8 : 0 <= Y := HLO.out (by omega)
 have hY9 : ((Y.toNat : Nat) : Int) = Y := Int.toNat_of_nonneg q8
 have HY9 := Lib.hid hY9; clear hY9
 by_cases q6 : ¬ gw = ww
 ·
  have hv := HA.out; unfold tailB at hv
  rw [if_neg (fun h => h q1), if_neg q2, if_neg q3, if_neg (fun h => h q4), if_pos ⟨q5, q6⟩] at hv
  have HW := Lib.hid hv
  clear hv HA
  have bq1 : (gg == wg) = true := beq_iff_eq.mpr q1; have dq1 : (gg != wg) = false := bne_eq_false_iff_eq.mpr q1; clear q1
  have bq4 : (gst == rr) = true := beq_iff_eq.mpr q4; have dq4 : (gst != rr) = false := bne_eq_false_iff_eq.mpr q4; clear q4
  have bq6 : (gw == ww) = false := beq_eq_false_iff_ne.mpr q6; have dq6 : (gw != ww) = true := bne_iff_ne.mpr q6; clear q6
  have bq2 : decide (gw < lo) = false := decide_eq_false q2
  have bq3 : decide (hi_ < gw) = false := decide_eq_false q3
  subst q5
  obtain ⟨-, cS, cG, cX, cM⟩ := n4_ H
  go_wp2_with first
   | (apply bh H 20 (cL 0 0 0 0 0 0 0 0 0 0 0) 23; clear H cS cG cX cM; intro gC W41 H; obtain ⟨-, cC, cS, cG, cX, cM⟩ := n5_ H)
   | (apply sh H 0 23 20 gC (cL id m u b c z s me o a l); clear H cC cS cG cX cM; intro W42 K_; obtain ⟨H, cC, cS, cG, cX, cM⟩ := n5_ K_; clear K_)
  clear cC cS cG cX cM
  refine start_ (n := 24) (S := fun W => bW W gG (oL gst gw gg) /\ bW W gS (oL ws ww wg) /\ bW W gM (mL id m u b c z s me o a l (.slice A1 n1 k1) (.slice A2 n2 k2) (.slice A3 n3 k3)) /\ bW W gX (xL kd i p n (.slice Ad d.length kdd) f)) (ds := []) (bq 24 0) (by kernel_rfl) rfl (by kernel_rfl) ⟨H.out.drew.cell 2 rfl, H.out.drew.cell 1 rfl, H.out.drew.cell 4 rfl, H.out.drew.cell 3 rfl⟩ (fun hHeld => ?_)
  refine with_tabW tab_judge_Zone_15 bits_judge_Zone_15 (fun HT_ HW_ => ?_)
  have zH := H.out.drew
  generalize W42.drew = W43 at zH hHeld ⊢
  replace H := Lib.hid zH; clear zH
  apply pu 0 100 (bq 24 1) HT_
  apply tw 1 101 (bq 24 3) HT_ HW_ hHeld
  apply pu 2 102 (bq 24 7) HT_
  apply tw 3 103 (bq 24 15) HT_ HW_ hHeld
  apply pu 4 104 (bq 24 31) HT_
  apply pu 5 105 (bq 24 63) HT_
  apply pu 6 106 (bq 24 127) HT_
  apply tw 7 107 (bq 24 255) HT_ HW_ hHeld
  apply tw 8 108 (bq 24 511) HT_ HW_ hHeld
  apply pu 9 109 (bq 24 1023) HT_
  apply on 10 (some 110) (bq 24 2047) HT_; intro K hK
  refine gs Try.func36 #[modV id m u b c z s me o a l (.slice A1 n1 k1) (.slice A2 n2 k2) (.slice A3 n3 k3), .int .i64 z_] ?_
  refine (HL.out _ (MC_below HMC.out H.out.below)).mono ?_
  rintro e W44 ⟨rfl, hb⟩
  refine ⟨_, rfl, ?_⟩
  replace H := pc H hb
  clear hb
  refine hK.out _ _ ⟨H.out.cell 2 rfl, H.out.cell 1 rfl, H.out.cell 4 rfl, H.out.cell 3 rfl⟩ (fun hHeld => ?_)
  clear hK K
  apply nm 0
  apply pu 11 111 (bq 24 4095) HT_
  apply pu 12 112 (bq 24 8191) HT_
  apply pu 13 113 (bq 24 16383) HT_
  apply pu 14 114 (bq 24 32767) HT_
  apply tw 15 115 (bq 24 65535) HT_ HW_ hHeld
  apply tw 16 116 (bq 24 131071) HT_ HW_ hHeld
  apply tw 17 117 (bq 24 262143) HT_ HW_ hHeld
  apply pu 18 118 (bq 24 524287) HT_
  apply pu 19 119 (bq 24 1048575) HT_
  apply on 20 (some 120) (bq 24 2097151) HT_; intro K hK
  refine gs Try.func37 #[modV id m u b c z s me o a l (.slice A1 n1 k1) (.slice A2 n2 k2) (.slice A3 n3 k3), cmdV kd i p n (.slice Ad d.length kdd) f, .bool is, .int .i64 z_] ?_
  refine (HH.out _ (MC_below HMC.out H.out.below) (Kd.C_below HD.out H.out.below)).mono ?_
  rintro e W45 ⟨rfl, hb⟩
  refine ⟨_, rfl, ?_⟩
  replace H := pc H hb
  clear hb
  refine hK.out _ _ ⟨H.out.cell 2 rfl, H.out.cell 1 rfl, H.out.cell 4 rfl, H.out.cell 3 rfl⟩ (fun hHeld => ?_)
  clear hK K
  apply nm 0
  apply pu 21 121 (bq 24 4194303) HT_
  apply pu 22 122 (bq 24 8388607) HT_
  apply pu 23 99 (bq 24 16777215) HT_
  refine done_ (done_of HT_.out (by kernel_rfl)) ?_
  obtain ⟨-, cC, cS, cG, cX, cM⟩ := n5_ H
  go_wp2
  clear cC cS cG cX cM
  refine start_ (n := 21) (S := fun W => bW W gG (oL gst gw gg) /\ bW W gS (oL ws ww wg) /\ bW W gC (cL id m u b c z s me o a l)) (ds := []) (bq 21 0) (by kernel_rfl) rfl (by kernel_rfl) ⟨H.out.drew.cell 2 rfl, H.out.drew.cell 1 rfl, H.out.drew.cell 0 rfl⟩ (fun hHeld => ?_)
  refine with_tabW tab_judge_Zone_17 bits_judge_Zone_17 (fun HT_ HW_ => ?_)
  have zH := H.out.drew
  generalize W45.drew = W46 at zH hHeld ⊢
  replace H := Lib.hid zH; clear zH
  apply pu 0 124 (bq 21 1) HT_
  apply tw 1 125 (bq 21 3) HT_ HW_ hHeld
  apply tw 2 126 (bq 21 7) HT_ HW_ hHeld
  apply tw 3 127 (bq 21 15) HT_ HW_ hHeld
  apply pu 4 128 (bq 21 31) HT_
  apply tw 5 129 (bq 21 63) HT_ HW_ hHeld
  apply on 6 (some 130) (bq 21 127) HT_; intro K hK
  refine gs Try.func42 #[.agg #[.int .i64 id, .int .i64 m, .int .i64 u, .int .i64 b, .int .i64 c, .int .i64 z, .int .i64 s, .int .i64 me, .int .i64 o, .int .i64 a, .int .i64 l], zoV ⟨ws, ww, wg⟩, .int .i64 gw] ?_
  refine (HRS.out _).mono ?_
  rintro e W47 ⟨rfl, hb⟩
  refine ⟨_, rfl, ?_⟩
  replace H := pc H hb
  clear hb
  refine hK.out _ _ ⟨H.out.cell 2 rfl, H.out.cell 1 rfl, H.out.cell 0 rfl⟩ (fun hHeld => ?_)
  clear hK K
  apply nm 0
  apply pu 7 131 (bq 21 255) HT_
  apply pu 8 132 (bq 21 511) HT_
  apply tw 9 133 (bq 21 1023) HT_ HW_ hHeld
  apply tw 10 134 (bq 21 2047) HT_ HW_ hHeld
  apply on 11 (some 135) (bq 21 4095) HT_; intro K hK
  refine gs Try.func91 #[.agg #[.int .i64 id, .int .i64 m, .int .i64 u, .int .i64 b, .int .i64 c, .int .i64 z, .int .i64 s, .int .i64 me, .int .i64 o, .int .i64 a, .int .i64 l], zoV ⟨ws, ww, wg⟩] ?_
  refine (HCU.out _).mono ?_
  rintro e W48 ⟨rfl, hb⟩
  refine ⟨_, rfl, ?_⟩
  replace H := pc H hb
  clear hb
  refine hK.out _ _ ⟨H.out.cell 2 rfl, H.out.cell 1 rfl, H.out.cell 0 rfl⟩ (fun hHeld => ?_)
  clear hK K
  apply nm 0
  apply pu 12 136 (bq 21 8191) HT_
  apply pu 13 137 (bq 21 16383) HT_
  apply tw 14 138 (bq 21 32767) HT_ HW_ hHeld
  apply pu 15 139 (bq 21 65535) HT_
  apply tw 16 140 (bq 21 131071) HT_ HW_ hHeld
  apply pu 17 141 (bq 21 262143) HT_
  apply pu 18 142 (bq 21 524287) HT_
  apply pu 19 143 (bq 21 1048575) HT_
  apply pu 20 123 (bq 21 2097151) HT_
  refine done_ (done_of HT_.out (by kernel_rfl)) ?_
  obtain ⟨-, cC, cS, cG, cX, cM⟩ := n5_ H
  go_wp2
  go_ret
  exact ⟨congrArg (fun b : Bool => Ending.returned (.bool b)) HW.out.symm, H.out.below⟩
 replace q6 := Decidable.not_not.mp q6
 by_cases q7 : ¬ Y <= (LW.length : Int)
 ·
  have hv := HA.out; unfold tailB at hv
  rw [if_neg (fun h => h q1), if_neg q2, if_neg q3, if_neg (fun h => h q4), if_neg (fun h => h.2 q6), if_pos q7] at hv
  have HW := Lib.hid hv
  clear hv HA
  have bq1 : (gg == wg) = true := beq_iff_eq.mpr q1; have dq1 : (gg != wg) = false := bne_eq_false_iff_eq.mpr q1; clear q1
  have bq4 : (gst == rr) = true := beq_iff_eq.mpr q4; have dq4 : (gst != rr) = false := bne_eq_false_iff_eq.mpr q4; clear q4
  have bq6 : (gw == ww) = true := beq_iff_eq.mpr q6; have dq6 : (gw != ww) = false := bne_eq_false_iff_eq.mpr q6; clear q6
  have bq2 : decide (gw < lo) = false := decide_eq_false q2
  have bq3 : decide (hi_ < gw) = false := decide_eq_false q3
  have bq7 : decide (Y <= (LW.length : Int)) = false := decide_eq_false q7
  subst q5
  obtain ⟨-, cS, cG, cX, cM⟩ := n4_ H
  go_wp2_with first
   | (apply bh H 20 (cL 0 0 0 0 0 0 0 0 0 0 0) 23; clear H cS cG cX cM; intro gC W41 H; obtain ⟨-, cC, cS, cG, cX, cM⟩ := n5_ H)
   | (apply sh H 0 23 20 gC (cL id m u b c z s me o a l); clear H cC cS cG cX cM; intro W42 K_; obtain ⟨H, cC, cS, cG, cX, cM⟩ := n5_ K_; clear K_)
  clear cC cS cG cX cM
  refine start_ (n := 24) (S := fun W => bW W gG (oL gst gw gg) /\ bW W gS (oL ws ww wg) /\ bW W gM (mL id m u b c z s me o a l (.slice A1 n1 k1) (.slice A2 n2 k2) (.slice A3 n3 k3)) /\ bW W gX (xL kd i p n (.slice Ad d.length kdd) f)) (ds := []) (bq 24 0) (by kernel_rfl) rfl (by kernel_rfl) ⟨H.out.drew.cell 2 rfl, H.out.drew.cell 1 rfl, H.out.drew.cell 4 rfl, H.out.drew.cell 3 rfl⟩ (fun hHeld => ?_)
  refine with_tabW tab_judge_Zone_15 bits_judge_Zone_15 (fun HT_ HW_ => ?_)
  have zH := H.out.drew
  generalize W42.drew = W43 at zH hHeld ⊢
  replace H := Lib.hid zH; clear zH
  apply pu 0 100 (bq 24 1) HT_
  apply tw 1 101 (bq 24 3) HT_ HW_ hHeld
  apply pu 2 102 (bq 24 7) HT_
  apply tw 3 103 (bq 24 15) HT_ HW_ hHeld
  apply pu 4 104 (bq 24 31) HT_
  apply pu 5 105 (bq 24 63) HT_
  apply pu 6 106 (bq 24 127) HT_
  apply tw 7 107 (bq 24 255) HT_ HW_ hHeld
  apply tw 8 108 (bq 24 511) HT_ HW_ hHeld
  apply pu 9 109 (bq 24 1023) HT_
  apply on 10 (some 110) (bq 24 2047) HT_; intro K hK
  refine gs Try.func36 #[modV id m u b c z s me o a l (.slice A1 n1 k1) (.slice A2 n2 k2) (.slice A3 n3 k3), .int .i64 z_] ?_
  refine (HL.out _ (MC_below HMC.out H.out.below)).mono ?_
  rintro e W44 ⟨rfl, hb⟩
  refine ⟨_, rfl, ?_⟩
  replace H := pc H hb
  clear hb
  refine hK.out _ _ ⟨H.out.cell 2 rfl, H.out.cell 1 rfl, H.out.cell 4 rfl, H.out.cell 3 rfl⟩ (fun hHeld => ?_)
  clear hK K
  apply nm 0
  apply pu 11 111 (bq 24 4095) HT_
  apply pu 12 112 (bq 24 8191) HT_
  apply pu 13 113 (bq 24 16383) HT_
  apply pu 14 114 (bq 24 32767) HT_
  apply tw 15 115 (bq 24 65535) HT_ HW_ hHeld
  apply tw 16 116 (bq 24 131071) HT_ HW_ hHeld
  apply tw 17 117 (bq 24 262143) HT_ HW_ hHeld
  apply pu 18 118 (bq 24 524287) HT_
  apply pu 19 119 (bq 24 1048575) HT_
  apply on 20 (some 120) (bq 24 2097151) HT_; intro K hK
  refine gs Try.func37 #[modV id m u b c z s me o a l (.slice A1 n1 k1) (.slice A2 n2 k2) (.slice A3 n3 k3), cmdV kd i p n (.slice Ad d.length kdd) f, .bool is, .int .i64 z_] ?_
  refine (HH.out _ (MC_below HMC.out H.out.below) (Kd.C_below HD.out H.out.below)).mono ?_
  rintro e W45 ⟨rfl, hb⟩
  refine ⟨_, rfl, ?_⟩
  replace H := pc H hb
  clear hb
  refine hK.out _ _ ⟨H.out.cell 2 rfl, H.out.cell 1 rfl, H.out.cell 4 rfl, H.out.cell 3 rfl⟩ (fun hHeld => ?_)
  clear hK K
  apply nm 0
  apply pu 21 121 (bq 24 4194303) HT_
  apply pu 22 122 (bq 24 8388607) HT_
  apply pu 23 99 (bq 24 16777215) HT_
  refine done_ (done_of HT_.out (by kernel_rfl)) ?_
  obtain ⟨-, cC, cS, cG, cX, cM⟩ := n5_ H
  go_wp2
  clear cC cS cG cX cM
  refine start_ (n := 21) (S := fun W => bW W gG (oL gst gw gg) /\ bW W gS (oL ws ww wg) /\ bW W gC (cL id m u b c z s me o a l)) (ds := []) (bq 21 0) (by kernel_rfl) rfl (by kernel_rfl) ⟨H.out.drew.cell 2 rfl, H.out.drew.cell 1 rfl, H.out.drew.cell 0 rfl⟩ (fun hHeld => ?_)
  refine with_tabW tab_judge_Zone_17 bits_judge_Zone_17 (fun HT_ HW_ => ?_)
  have zH := H.out.drew
  generalize W45.drew = W46 at zH hHeld ⊢
  replace H := Lib.hid zH; clear zH
  apply pu 0 124 (bq 21 1) HT_
  apply tw 1 125 (bq 21 3) HT_ HW_ hHeld
  apply tw 2 126 (bq 21 7) HT_ HW_ hHeld
  apply tw 3 127 (bq 21 15) HT_ HW_ hHeld
  apply pu 4 128 (bq 21 31) HT_
  apply tw 5 129 (bq 21 63) HT_ HW_ hHeld
  apply on 6 (some 130) (bq 21 127) HT_; intro K hK
  refine gs Try.func42 #[.agg #[.int .i64 id, .int .i64 m, .int .i64 u, .int .i64 b, .int .i64 c, .int .i64 z, .int .i64 s, .int .i64 me, .int .i64 o, .int .i64 a, .int .i64 l], zoV ⟨ws, ww, wg⟩, .int .i64 gw] ?_
  refine (HRS.out _).mono ?_
  rintro e W47 ⟨rfl, hb⟩
  refine ⟨_, rfl, ?_⟩
  replace H := pc H hb
  clear hb
  refine hK.out _ _ ⟨H.out.cell 2 rfl, H.out.cell 1 rfl, H.out.cell 0 rfl⟩ (fun hHeld => ?_)
  clear hK K
  apply nm 0
  apply pu 7 131 (bq 21 255) HT_
  apply pu 8 132 (bq 21 511) HT_
  apply tw 9 133 (bq 21 1023) HT_ HW_ hHeld
  apply tw 10 134 (bq 21 2047) HT_ HW_ hHeld
  apply on 11 (some 135) (bq 21 4095) HT_; intro K hK
  refine gs Try.func91 #[.agg #[.int .i64 id, .int .i64 m, .int .i64 u, .int .i64 b, .int .i64 c, .int .i64 z, .int .i64 s, .int .i64 me, .int .i64 o, .int .i64 a, .int .i64 l], zoV ⟨ws, ww, wg⟩] ?_
  refine (HCU.out _).mono ?_
  rintro e W48 ⟨rfl, hb⟩
  refine ⟨_, rfl, ?_⟩
  replace H := pc H hb
  clear hb
  refine hK.out _ _ ⟨H.out.cell 2 rfl, H.out.cell 1 rfl, H.out.cell 0 rfl⟩ (fun hHeld => ?_)
  clear hK K
  apply nm 0
  apply pu 12 136 (bq 21 8191) HT_
  apply pu 13 137 (bq 21 16383) HT_
  apply tw 14 138 (bq 21 32767) HT_ HW_ hHeld
  apply pu 15 139 (bq 21 65535) HT_
  apply tw 16 140 (bq 21 131071) HT_ HW_ hHeld
  apply pu 17 141 (bq 21 262143) HT_
  apply pu 18 142 (bq 21 524287) HT_
  apply pu 19 143 (bq 21 1048575) HT_
  apply pu 20 123 (bq 21 2097151) HT_
  refine done_ (done_of HT_.out (by kernel_rfl)) ?_
  obtain ⟨-, cC, cS, cG, cX, cM⟩ := n5_ H
  go_wp2
  go_ret
  exact ⟨congrArg (fun b : Bool => Ending.returned (.bool b)) HW.out.symm, H.out.below⟩
 replace q7 := Decidable.not_not.mp q7
 ·
  have hv := HA.out; unfold tailB at hv
  rw [if_neg (fun h => h q1), if_neg q2, if_neg q3, if_neg (fun h => h q4), if_neg (fun h => h.2 q6), if_neg (fun h => h q7)] at hv
  have HW := Lib.hid hv
  clear hv HA
  have hef := HEF.out LW
  generalize ((strOfNums tx).toList == (strOfNums (LW.take Y.toNat)).toList) = eF at hef HW
  have HE2 := Lib.hid hef; clear hef
  have bq1 : (gg == wg) = true := beq_iff_eq.mpr q1; have dq1 : (gg != wg) = false := bne_eq_false_iff_eq.mpr q1; clear q1
  have bq4 : (gst == rr) = true := beq_iff_eq.mpr q4; have dq4 : (gst != rr) = false := bne_eq_false_iff_eq.mpr q4; clear q4
  have bq6 : (gw == ww) = true := beq_iff_eq.mpr q6; have dq6 : (gw != ww) = false := bne_eq_false_iff_eq.mpr q6; clear q6
  have bq2 : decide (gw < lo) = false := decide_eq_false q2
  have bq3 : decide (hi_ < gw) = false := decide_eq_false q3
  have bq7 : decide (Y <= (LW.length : Int)) = true := decide_eq_true q7
  have q9 : Y <= (cW : Int) := by omega
  subst q5
  obtain ⟨-, cS, cG, cX, cM⟩ := n4_ H
  go_wp2_with first
   | (apply bh H 20 (cL 0 0 0 0 0 0 0 0 0 0 0) 23; clear H cS cG cX cM; intro gC W41 H; obtain ⟨-, cC, cS, cG, cX, cM⟩ := n5_ H)
   | (apply sh H 0 23 20 gC (cL id m u b c z s me o a l); clear H cC cS cG cX cM; intro W42 K_; obtain ⟨H, cC, cS, cG, cX, cM⟩ := n5_ K_; clear K_)
  clear cC cS cG cX cM
  refine start_ (n := 24) (S := fun W => bW W gG (oL gst gw gg) /\ bW W gS (oL ws ww wg) /\ bW W gM (mL id m u b c z s me o a l (.slice A1 n1 k1) (.slice A2 n2 k2) (.slice A3 n3 k3)) /\ bW W gX (xL kd i p n (.slice Ad d.length kdd) f)) (ds := []) (bq 24 0) (by kernel_rfl) rfl (by kernel_rfl) ⟨H.out.drew.cell 2 rfl, H.out.drew.cell 1 rfl, H.out.drew.cell 4 rfl, H.out.drew.cell 3 rfl⟩ (fun hHeld => ?_)
  refine with_tabW tab_judge_Zone_15 bits_judge_Zone_15 (fun HT_ HW_ => ?_)
  have zH := H.out.drew
  generalize W42.drew = W43 at zH hHeld ⊢
  replace H := Lib.hid zH; clear zH
  apply pu 0 100 (bq 24 1) HT_
  apply tw 1 101 (bq 24 3) HT_ HW_ hHeld
  apply pu 2 102 (bq 24 7) HT_
  apply tw 3 103 (bq 24 15) HT_ HW_ hHeld
  apply pu 4 104 (bq 24 31) HT_
  apply pu 5 105 (bq 24 63) HT_
  apply pu 6 106 (bq 24 127) HT_
  apply tw 7 107 (bq 24 255) HT_ HW_ hHeld
  apply tw 8 108 (bq 24 511) HT_ HW_ hHeld
  apply pu 9 109 (bq 24 1023) HT_
  apply on 10 (some 110) (bq 24 2047) HT_; intro K hK
  refine gs Try.func36 #[modV id m u b c z s me o a l (.slice A1 n1 k1) (.slice A2 n2 k2) (.slice A3 n3 k3), .int .i64 z_] ?_
  refine (HL.out _ (MC_below HMC.out H.out.below)).mono ?_
  rintro e W44 ⟨rfl, hb⟩
  refine ⟨_, rfl, ?_⟩
  replace H := pc H hb
  clear hb
  refine hK.out _ _ ⟨H.out.cell 2 rfl, H.out.cell 1 rfl, H.out.cell 4 rfl, H.out.cell 3 rfl⟩ (fun hHeld => ?_)
  clear hK K
  apply nm 0
  apply pu 11 111 (bq 24 4095) HT_
  apply pu 12 112 (bq 24 8191) HT_
  apply pu 13 113 (bq 24 16383) HT_
  apply pu 14 114 (bq 24 32767) HT_
  apply tw 15 115 (bq 24 65535) HT_ HW_ hHeld
  apply tw 16 116 (bq 24 131071) HT_ HW_ hHeld
  apply tw 17 117 (bq 24 262143) HT_ HW_ hHeld
  apply pu 18 118 (bq 24 524287) HT_
  apply pu 19 119 (bq 24 1048575) HT_
  apply on 20 (some 120) (bq 24 2097151) HT_; intro K hK
  refine gs Try.func37 #[modV id m u b c z s me o a l (.slice A1 n1 k1) (.slice A2 n2 k2) (.slice A3 n3 k3), cmdV kd i p n (.slice Ad d.length kdd) f, .bool is, .int .i64 z_] ?_
  refine (HH.out _ (MC_below HMC.out H.out.below) (Kd.C_below HD.out H.out.below)).mono ?_
  rintro e W45 ⟨rfl, hb⟩
  refine ⟨_, rfl, ?_⟩
  replace H := pc H hb
  clear hb
  refine hK.out _ _ ⟨H.out.cell 2 rfl, H.out.cell 1 rfl, H.out.cell 4 rfl, H.out.cell 3 rfl⟩ (fun hHeld => ?_)
  clear hK K
  apply nm 0
  apply pu 21 121 (bq 24 4194303) HT_
  apply pu 22 122 (bq 24 8388607) HT_
  apply pu 23 99 (bq 24 16777215) HT_
  refine done_ (done_of HT_.out (by kernel_rfl)) ?_
  obtain ⟨-, cC, cS, cG, cX, cM⟩ := n5_ H
  go_wp2
  clear cC cS cG cX cM
  refine start_ (n := 21) (S := fun W => bW W gG (oL gst gw gg) /\ bW W gS (oL ws ww wg) /\ bW W gC (cL id m u b c z s me o a l)) (ds := []) (bq 21 0) (by kernel_rfl) rfl (by kernel_rfl) ⟨H.out.drew.cell 2 rfl, H.out.drew.cell 1 rfl, H.out.drew.cell 0 rfl⟩ (fun hHeld => ?_)
  refine with_tabW tab_judge_Zone_17 bits_judge_Zone_17 (fun HT_ HW_ => ?_)
  have zH := H.out.drew
  generalize W45.drew = W46 at zH hHeld ⊢
  replace H := Lib.hid zH; clear zH
  apply pu 0 124 (bq 21 1) HT_
  apply tw 1 125 (bq 21 3) HT_ HW_ hHeld
  apply tw 2 126 (bq 21 7) HT_ HW_ hHeld
  apply tw 3 127 (bq 21 15) HT_ HW_ hHeld
  apply pu 4 128 (bq 21 31) HT_
  apply tw 5 129 (bq 21 63) HT_ HW_ hHeld
  apply on 6 (some 130) (bq 21 127) HT_; intro K hK
  refine gs Try.func42 #[.agg #[.int .i64 id, .int .i64 m, .int .i64 u, .int .i64 b, .int .i64 c, .int .i64 z, .int .i64 s, .int .i64 me, .int .i64 o, .int .i64 a, .int .i64 l], zoV ⟨ws, ww, wg⟩, .int .i64 gw] ?_
  refine (HRS.out _).mono ?_
  rintro e W47 ⟨rfl, hb⟩
  refine ⟨_, rfl, ?_⟩
  replace H := pc H hb
  clear hb
  refine hK.out _ _ ⟨H.out.cell 2 rfl, H.out.cell 1 rfl, H.out.cell 0 rfl⟩ (fun hHeld => ?_)
  clear hK K
  apply nm 0
  apply pu 7 131 (bq 21 255) HT_
  apply pu 8 132 (bq 21 511) HT_
  apply tw 9 133 (bq 21 1023) HT_ HW_ hHeld
  apply tw 10 134 (bq 21 2047) HT_ HW_ hHeld
  apply on 11 (some 135) (bq 21 4095) HT_; intro K hK
  refine gs Try.func91 #[.agg #[.int .i64 id, .int .i64 m, .int .i64 u, .int .i64 b, .int .i64 c, .int .i64 z, .int .i64 s, .int .i64 me, .int .i64 o, .int .i64 a, .int .i64 l], zoV ⟨ws, ww, wg⟩] ?_
  refine (HCU.out _).mono ?_
  rintro e W48 ⟨rfl, hb⟩
  refine ⟨_, rfl, ?_⟩
  replace H := pc H hb
  clear hb
  refine hK.out _ _ ⟨H.out.cell 2 rfl, H.out.cell 1 rfl, H.out.cell 0 rfl⟩ (fun hHeld => ?_)
  clear hK K
  apply nm 0
  apply pu 12 136 (bq 21 8191) HT_
  apply pu 13 137 (bq 21 16383) HT_
  apply tw 14 138 (bq 21 32767) HT_ HW_ hHeld
  apply pu 15 139 (bq 21 65535) HT_
  apply tw 16 140 (bq 21 131071) HT_ HW_ hHeld
  apply pu 17 141 (bq 21 262143) HT_
  apply pu 18 142 (bq 21 524287) HT_
  apply pu 19 143 (bq 21 1048575) HT_
  apply pu 20 123 (bq 21 2097151) HT_
  refine done_ (done_of HT_.out (by kernel_rfl)) ?_
  obtain ⟨-, cC, cS, cG, cX, cM⟩ := n5_ H
  go_wp2_with first
   | (go_at_call 90; refine (HE2.out _ _ _ (Kd.C_string Try.underlying57 Try.underlying5 Try.underlying9 (Kd.C_below HT.out H.out.below)) (by have h := BR_slice_take (k := Y.toNat) (H.out.fact 0 rfl) (by omega); exact h)).mono ?_; rintro e W49 ⟨rfl, hb⟩; clear cC cS cG cX cM; replace H := pc H hb; clear hb; obtain ⟨-, cC, cS, cG, cX, cM⟩ := n5_ H)
  go_ret
  exact ⟨congrArg (fun b : Bool => Ending.returned (.bool b)) HW.out.symm, H.out.below⟩
set_option maxHeartbeats 16000000 in
set_option maxRecDepth 100000 in
theorem jz_any (id m u b c z s me o a l : Int) (w : World) (x y q : Value) (D N : Mdl) (kd i p n : Int) (Ad : Option Addr) (kdd : Nat) (d : List Int) (f : Bool) (is mb : Bool) (z_ ws ww wg ts tv tg gst gw gg Y lo hi_ rr : Int) (t2 cb ez et : Bool) (LD LN : List Int) (At : Option Addr) (kt : Nat) (tx : List Int) (cc : JzC id m u b c z s me o a l w x y q D N kd i p n Ad kdd d f is mb z_ ws ww wg ts tv tg gst gw gg Y lo hi_ rr t2 cb ez et LD LN At kt tx) : Calls Try.prog 39 #[modV id m u b c z s me o a l x y q, cmdV kd i p n (.slice Ad d.length kdd) f, .bool is, .int .i64 z_, .agg #[.int .i64 gst, .int .i64 gw, .int .i64 gg], .slice At tx.length kt] w fun e w' => e = .returned (.bool (zoneQ mb kd ez et gst gw gg ws ww wg lo hi_ rr cb Y LD LN tx)) /\ Below w.heap.size w w' := by
 obtain ⟨h, hi, hd, hdk, hx, hxk, af, z1, z2, x1, x2, hl, hh, rs, cu, hlo, hY, hez, het⟩ := cc
 obtain ⟨A1, A2, A3, n1, n2, n3, k1, k2, k3, rfl, rfl, rfl, hn1, hn2, hn3, hC1, hC2, hC3, hk1, hk2, hk3, hrt, hL1, hLp, hlT, hlS, hcb⟩ := mc_open h hi
 have y1 : wrap64 (gw * b) = Y := hY; have y2 : IntKind.i64.wrap (gw * b) = Y := (i64_w _).trans hY
 obtain ⟨V, hV⟩ : ∃ V, V = zoneQ mb kd ez et gst gw gg ws ww wg lo hi_ rr cb Y LD LN tx := ⟨_, rfl⟩
 rw [<- hV]
 have h1_ := jzt_1 id m u b c z s me o a l w (.slice A1 n1 k1) (.slice A2 n2 k2) (.slice A3 n3 k3) D N kd i p n Ad kdd d f is mb z_ ws ww wg ts tv tg gst gw gg Y lo hi_ rr t2 cb ez et LD LN At kt tx ⟨h, hi, hd, hdk, hx, hxk, af, z1, z2, x1, x2, hl, hh, rs, cu, hlo, hY, hez, het⟩; have h2_ := jzt_2 id m u b c z s me o a l w (.slice A1 n1 k1) (.slice A2 n2 k2) (.slice A3 n3 k3) D N kd i p n Ad kdd d f is mb z_ ws ww wg ts tv tg gst gw gg Y lo hi_ rr t2 cb ez et LD LN At kt tx ⟨h, hi, hd, hdk, hx, hxk, af, z1, z2, x1, x2, hl, hh, rs, cu, hlo, hY, hez, het⟩; have h3_ := jzt_3 id m u b c z s me o a l w (.slice A1 n1 k1) (.slice A2 n2 k2) (.slice A3 n3 k3) D N kd i p n Ad kdd d f is mb z_ ws ww wg ts tv tg gst gw gg Y lo hi_ rr t2 cb ez et LD LN At kt tx ⟨h, hi, hd, hdk, hx, hxk, af, z1, z2, x1, x2, hl, hh, rs, cu, hlo, hY, hez, het⟩; rw [<- hV] at h1_ h2_ h3_
 have HT1 := Lib.hid h1_; have HT2 := Lib.hid h2_; have HT3 := Lib.hid h3_; clear h1_ h2_ h3_
 obtain ⟨lx, hlx⟩ : ∃ n, n = tx.length := ⟨_, rfl⟩
 unfold zoneQ at hV
 rw [<- hlx] at hx hxk hV ⊢
 have heq := fun v1 v2 W h1 h2 => equal_any v1 v2 (strOfNums tx) (strOfNums LD) W h1 h2
 rw [het] at heq
 have HMC := Lib.hid h; have HD := Lib.hid hd; have HT := Lib.hid hx; have HAF := Lib.hid af; have HZ1 := Lib.hid z1; have HZ2 := Lib.hid z2; have HX1 := Lib.hid x1; have HX2 := Lib.hid x2; have HET := Lib.hid heq; have HV := Lib.hid hV; have HEZ := Lib.hid hez; have HLX := Lib.hid hlx
 clear hd hx hdk hxk af z1 z2 x1 x2 hl hh rs cu heq het hY hlx hV hez hlo y1 y2
 clear h hi hcb hrt hL1 hLp hlT hlS hn1 hn2 hn3 hk1 hk2 hk3 hC1 hC2 hC3
 have H := Lib.hid (Pk.start w)
 go_enter Try.func39, Try.ntmps39
 go_upto_block 0 with first
  | (apply bh H 6 (mL id m u b c z s me o a l (.slice A1 n1 k1) (.slice A2 n2 k2) (.slice A3 n3 k3)) 53; clear H; intro gM W1 H; obtain ⟨-, cM⟩ := n1_ H)
  | (apply bh H 7 (xL kd i p n (.slice Ad d.length kdd) f) 65; clear H cM; intro gX W2 H; obtain ⟨-, cX, cM⟩ := n2_ H)
  | (apply bh H 10 (oL gst gw gg) 59; clear H cX cM; intro gG W3 H; obtain ⟨-, cG, cX, cM⟩ := n3_ H)
  | (go_at_call 32; (with_reducible refine (HZ1.out _ (MC_below HMC.out H.out.below)).mono ?_); rintro e W4 ⟨rfl, hb⟩; clear cG cX cM; replace H := pc H hb; clear hb; obtain ⟨-, cG, cX, cM⟩ := n3_ H)
  | (apply bh H 13 (oL 0 0 0) 59; clear H cG cX cM; intro gS W5 H; obtain ⟨-, cS, cG, cX, cM⟩ := n4_ H)
  | (apply sh H 0 59 13 gS (oL ws ww wg); clear H cS cG cX cM; intro W6 K_; obtain ⟨H, cS, cG, cX, cM⟩ := n4_ K_; clear K_)
  | (go_at_call 89; refine (HAF.out _ (MC_below HMC.out H.out.below) (Kd.C_below HD.out H.out.below)).mono ?_; rintro e W7 ⟨⟨x_, y_, q_, rfl, hM⟩, hb⟩; obtain ⟨B51, m51, j51, rfl⟩ := RowD_shape hM.1; obtain ⟨B52, m52, j52, rfl⟩ := RowD_shape hM.2.1; obtain ⟨B53, m53, j53, rfl⟩ := RowD_shape hM.2.2; clear cS cG cX cM; replace H := Lib.hid ((H.out.called hb).row (MdF w.heap.size (.slice A1 n1 k1) (.slice A2 n2 k2) (.slice A3 n3 k3) D (.slice B51 m51 j51) (.slice B52 m52 j52) (.slice B53 m53 j53) (N)) (MD_lower hM H.out.below.size)); clear hM; clear hb; obtain ⟨-, cS, cG, cX, cM⟩ := n4_ H)
  | (apply bh H 15 (mL 0 0 0 0 0 0 0 0 0 0 0 nil_ nil_ nil_) 53; clear H cS cG cX cM; intro gN W8 H; obtain ⟨-, cN, cS, cG, cX, cM⟩ := n5_ H)
  | (apply sh H 0 53 15 gN (mL id m u b c z s me o a l (.slice B51 m51 j51) (.slice B52 m52 j52) (.slice B53 m53 j53)); clear H cN cS cG cX cM; intro W9 K_; obtain ⟨H, cN, cS, cG, cX, cM⟩ := n5_ K_; clear K_)
  | (go_at_call 32; refine (HZ2.out _ _ _ _ (MD_C (H.out.fact 0 rfl) (MC_below HMC.out H.out.below))).mono ?_; rintro e W10 ⟨rfl, hb⟩; clear cN cS cG cX cM; replace H := pc H hb; clear hb; obtain ⟨-, cN, cS, cG, cX, cM⟩ := n5_ H)
  | (apply bhz H 17 (oL 0 0 0) 59; have HO_ := H; clear H cN cS cG cX cM; intro gT W11 hg H; have n_T_G5 := Lib.hid (mdf_lt (HO_.out.fact 0 rfl) hg); clear HO_ hg; obtain ⟨-, cT, cN, cS, cG, cX, cM⟩ := n6_ H)
  | (apply shz H 0 59 17 gT (oL ts tv tg) (fun w_ hw_ => fcons (mdf_set hw_ (H.out.fact 0 rfl) n_T_G5.out (H.out.at_ 0 rfl)) (fnil)); clear H cT cN cS cG cX cM; intro W12 K_; obtain ⟨H, cT, cN, cS, cG, cX, cM⟩ := n6_ K_; clear K_)
  | (go_at_call 81; refine (HX1.out _ (MC_below HMC.out H.out.below)).mono ?_; rintro e W13 ⟨v, rfl, hB, hb⟩; clear cT cN cS cG cX cM; obtain ⟨BV, cV, rfl⟩ := BR_len hB; replace H := pbr H hb hB; clear hB hb; obtain ⟨-, cT, cN, cS, cG, cX, cM⟩ := n6_ H)
 go_cut [19] from 22 (fun s19 wx => ∃ (LW : List Int) (BW : Option Addr) (cW : Nat), s19 = .slice BW LW.length cW /\ Hid (V = tailB gst gw gg ws ww wg lo hi_ rr cb Y tx LW) /\ Hid (Pk w wx [⟨gS, 59, (oL ws ww wg).toArray⟩, ⟨gG, 59, (oL gst gw gg).toArray⟩, ⟨gX, 65, (xL kd i p n (.slice Ad d.length kdd) f).toArray⟩, ⟨gM, 53, (mL id m u b c z s me o a l (.slice A1 n1 k1) (.slice A2 n2 k2) (.slice A3 n3 k3)).toArray⟩] [BytF (.slice BW LW.length cW) LW]))
 case first =>
  clear HT1 HT2 HT3 cT cN cS cG cX cM
  have hcs : (mb = true /\ kd = 0 /\ V = tailB gst gw gg ws ww wg lo hi_ rr cb Y tx LN) \/ (mb = true /\ kd = 3 /\ ez = true /\ lx = 0 /\ V = true) \/ (mb = true /\ kd = 4 /\ ez = true /\ et = true /\ V = true) \/ (mb = false /\ V = tailB gst gw gg ws ww wg lo hi_ rr cb Y tx LD) \/ (mb = true /\ kd = 3 /\ ez = false /\ V = tailB gst gw gg ws ww wg lo hi_ rr cb Y tx LD) \/ (mb = true /\ kd = 3 /\ ez = true /\ ¬ lx = 0 /\ V = tailB gst gw gg ws ww wg lo hi_ rr cb Y tx LD) \/ (mb = true /\ kd = 4 /\ ez = false /\ V = tailB gst gw gg ws ww wg lo hi_ rr cb Y tx LD) \/ (mb = true /\ kd = 4 /\ ez = true /\ et = false /\ V = tailB gst gw gg ws ww wg lo hi_ rr cb Y tx LD) \/ (mb = true /\ ¬ kd = 0 /\ ¬ kd = 3 /\ ¬ kd = 4 /\ V = tailB gst gw gg ws ww wg lo hi_ rr cb Y tx LD) := heads_of HV.out
  rcases hcs with ⟨rfl, p, hv⟩ | ⟨rfl, p, rfl, rfl, hv⟩ | ⟨rfl, p, rfl, rfl, hv⟩ | hcs
  ·
   have HA := Lib.hid hv; have hez := HEZ.out
   (try have bp0 : (kd == 0) = true := beq_iff_eq.mpr p)
   (try have bp3 : (kd == 3) = false := beq_eq_false_iff_ne.mpr (by omega))
   (try have bp4 : (kd == 4) = false := beq_eq_false_iff_ne.mpr (by omega))
   clear p hv
   obtain ⟨-, cT, cN, cS, cG, cX, cM⟩ := n6_ H
   go_wp2_with first
    | (go_at_call 81; refine (HX2.out _ _ _ _ (MD_C (H.out.fact 1 rfl) (MC_below HMC.out H.out.below))).mono ?_; rintro e W14 ⟨v, rfl, hB, hb⟩; clear cT cN cS cG cX cM; obtain ⟨BW, cW, rfl⟩ := BR_len hB; replace H := pbr H hb hB; clear hB hb; obtain ⟨-, cT, cN, cS, cG, cX, cM⟩ := n6_ H)
   go_meet
   exact ⟨LN, BW, cW, rfl, HA, Lib.hid (H.out.refs (fs' := [BytF (.slice BW LN.length cW) LN]) (by intro f hf; rcases List.mem_cons.1 hf with rfl | hf; exact H.out.fact 0 rfl; cases hf)).tail.tail⟩
  ·
   have HA := Lib.hid hv; have hez := HEZ.out
   (try have bp3 : (kd == 3) = true := beq_iff_eq.mpr p)
   (try have bp4 : (kd == 4) = true := beq_iff_eq.mpr p)
   have bp0 : (kd == 0) = false := beq_eq_false_iff_ne.mpr (by omega)
   (try have bp3 : (kd == 3) = false := beq_eq_false_iff_ne.mpr (by omega))
   clear p hv
   (try have bl : (((0 : Nat) : Int) == 0) = true := rfl)
   obtain ⟨-, cT, cN, cS, cG, cX, cM⟩ := n6_ H
   go_wp2_with first
    | (go_at_call 90; refine (HET.out _ _ _ (Kd.C_string Try.underlying57 Try.underlying5 Try.underlying9 (Kd.C_below HT.out H.out.below)) (by have h := BR_string (H.out.fact 0 rfl); exact h)).mono ?_; rintro e W14 ⟨rfl, hb⟩; clear cT cN cS cG cX cM; replace H := pc H hb; clear hb; obtain ⟨-, cT, cN, cS, cG, cX, cM⟩ := n6_ H)
   go_ret
   exact ⟨congrArg (fun b : Bool => Ending.returned (.bool b)) HA.out.symm, H.out.below⟩
  ·
   have HA := Lib.hid hv; have hez := HEZ.out
   (try have bp3 : (kd == 3) = true := beq_iff_eq.mpr p)
   (try have bp4 : (kd == 4) = true := beq_iff_eq.mpr p)
   have bp0 : (kd == 0) = false := beq_eq_false_iff_ne.mpr (by omega)
   (try have bp3 : (kd == 3) = false := beq_eq_false_iff_ne.mpr (by omega))
   clear p hv
   (try have bl : (((0 : Nat) : Int) == 0) = true := rfl)
   obtain ⟨-, cT, cN, cS, cG, cX, cM⟩ := n6_ H
   go_wp2_with first
    | (go_at_call 90; refine (HET.out _ _ _ (Kd.C_string Try.underlying57 Try.underlying5 Try.underlying9 (Kd.C_below HT.out H.out.below)) (by have h := BR_string (H.out.fact 0 rfl); exact h)).mono ?_; rintro e W14 ⟨rfl, hb⟩; clear cT cN cS cG cX cM; replace H := pc H hb; clear hb; obtain ⟨-, cT, cN, cS, cG, cX, cM⟩ := n6_ H)
   go_ret
   exact ⟨congrArg (fun b : Bool => Ending.returned (.bool b)) HA.out.symm, H.out.below⟩
  rcases hcs with ⟨rfl, hv⟩ | ⟨rfl, p, rfl, hv⟩ | ⟨rfl, p, rfl, q, hv⟩ | ⟨rfl, p, rfl, hv⟩ | ⟨rfl, p, rfl, rfl, hv⟩ | ⟨rfl, p, q, r, hv⟩ <;> (
   have HA := Lib.hid hv; have hez := HEZ.out
   clear hv
   (try have bp3 : (kd == 3) = true := beq_iff_eq.mpr p)
   (try have bp4 : (kd == 4) = true := beq_iff_eq.mpr p)
   (try have bp0 : (kd == 0) = false := beq_eq_false_iff_ne.mpr (by omega))
   (try have bp3 : (kd == 3) = false := beq_eq_false_iff_ne.mpr (by omega))
   (try have bp4 : (kd == 4) = false := beq_eq_false_iff_ne.mpr (by omega))
   (try have bl : ((lx : Int) == 0) = false := beq_eq_false_iff_ne.mpr (by omega))
   (try clear p)
   (try clear q)
   obtain ⟨-, cT, cN, cS, cG, cX, cM⟩ := n6_ H
   go_wp2_with first
    | (go_at_call 90; refine (HET.out _ _ _ (Kd.C_string Try.underlying57 Try.underlying5 Try.underlying9 (Kd.C_below HT.out H.out.below)) (by have h := BR_string (H.out.fact 0 rfl); exact h)).mono ?_; rintro e W14 ⟨rfl, hb⟩; clear cT cN cS cG cX cM; replace H := pc H hb; clear hb; obtain ⟨-, cT, cN, cS, cG, cX, cM⟩ := n6_ H)
   go_meet
   exact ⟨LD, BV, cV, rfl, HA, Lib.hid (H.out.refs (fs' := [BytF (.slice BV LD.length cV) LD]) (by intro f hf; rcases List.mem_cons.1 hf with rfl | hf; exact H.out.fact 0 rfl; cases hf)).tail.tail⟩)
 case rest =>
  clear H cT cN cS cG cX cM
  obtain ⟨LW, BW, cW, rfl, HA, H⟩ := hcut
  have e := HLX.out; subst e
  have hst := fun (C : Prop) (h : JzTail id m u b c z s me o a l w (.slice A1 n1 k1) (.slice A2 n2 k2) (.slice A3 n3 k3) D N kd i p n Ad kdd d f is mb z_ ws ww wg ts tv tg gst gw gg Y lo hi_ rr t2 cb ez et LD LN At kt tx V C) (hc : C) => h (fun k => (#[modV id m u b c z s me o a l (.slice A1 n1 k1) (.slice A2 n2 k2) (.slice A3 n3 k3), cmdV kd i p n (.slice Ad d.length kdd) f, undef, undef, .agg #[.int .i64 gst, .int .i64 gw, .int .i64 gg], undef, undef, undef, undef, undef, undef, undef, u12, undef, .bool true, .pointer (some ⟨gN, 0, none⟩), .bool mb, .pointer (some ⟨gT, 0, none⟩), .bool t2, undef, undef, undef, u22, u23, u24, u25, u26, u27, u28, u29, u30, u31, u32, u33, u34, u35, u36, u37, u38, u39, u40, u41, u42, u43, u44, u45, u46, u47, u48, u49, u50, u51, u52, u53, u54, u55, u56, u57, u58, u59, u60, u61, u62, u63, u64, u65, u66, u67, u68, u69, u70, u71, u72, u73, u74, u75, u76, u77, u78, u79, u80, u81, u82, u83, u84, u85, u86, u87, u88, u89, u90, u91, u92, u93, u94, u95, u96, u97, u98, u99, u100, u101, u102, u103, u104, u105, u106, u107, u108, u109, u110, u111, u112, u113, u114, u115, u116, u117, u118, u119, u120, u121, u122, u123, u124, u125, u126, u127, u128, u129, u130, u131, u132, u133, u134, u135, u136, u137, u138, u139, u140, u141, u142, u143, u144, u145, u146, u147, u148, u149, u150, u151, u152, u153, u154] : Array Value).getD k undef) gM gX gG gS wc LW BW cW hc HA H
  go_step
  by_cases q : gg = wg /\ lo <= gw /\ gw <= hi_ /\ gst = rr
  ·
   cases q5 : cb
   · exact hst _ HT2.out ⟨q.1, q.2.1, q.2.2.1, q.2.2.2, q5⟩
   · exact hst _ HT3.out ⟨q.1, q.2.1, q.2.2.1, q.2.2.2, q5⟩
  · exact hst _ HT1.out q
end Go.Proofs.Ytgckcaoncjhgbaa
