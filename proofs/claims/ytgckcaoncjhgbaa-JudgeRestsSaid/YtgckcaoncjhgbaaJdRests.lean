/- The walk of revetmentlaw29.JudgeRests. -/
import Derived.WalkKit
import Derived.WalkSpells
import Derived.WalkLawsBesides
import Derived.Lib.Hide
import Derived.Test.YtgckcaoncjhgbaaFGw
import Derived.Deep.CutBlock
import Derived.Test.YtgckcaoncjhgbaaFJl
import Derived.Test.YtgckcaoncjhgbaaFJf
import Derived.Test.YtgckcaoncjhgbaaJdThere
namespace Go.Proofs.Ytgckcaoncjhgbaa
open Go.RowKit Go.Proofs.Ytgckcaoncjhgbaa.PL Go.Proofs.YtgckcaoncjhgbaaW.PrintWords Go.Proofs.YtgckcaoncjhgbaaW.PrintLast
set_option linter.unusedVariables false
set_option linter.unusedSimpArgs false
attribute [local go_sem] List.getElem?_toArray List.getElem?_cons_succ List.getElem?_cons_zero mL tL cL xL rL oL
def T_revetmentlaw29_JudgeRests_4 : Bool × List (List Nat × List Nat) := (true, [([], []), ([0], [0]), ([1], [1]), ([2], [2]), ([3], [3]), ([4, 3], [3, 4]), ([3], [3]), ([6, 3, 3], [3, 6]), ([5, 7, 3], [3, 5, 7]), ([3, 8], [3, 8]), ([9, 7, 0, 1, 2, 3, 4, 5, 6, 7, 8, 9], [9])])
theorem tab_revetmentlaw29_JudgeRests_4 : rtab .any (opsOf Try.f8 4) = T_revetmentlaw29_JudgeRests_4 := by kernel_rfl
theorem bits_revetmentlaw29_JudgeRests_4 : waitsOk T_revetmentlaw29_JudgeRests_4.2 [0, 1, 3, 7, 15, 31, 15, 79, 255, 511, 1023] = true := by kernel_rfl
def T_revetmentlaw29_JudgeRests_5 : Bool × List (List Nat × List Nat) := (true, [([], []), ([], []), ([], []), ([0, 1, 2], [0, 1, 2]), ([], []), ([], []), ([], []), ([4, 5, 6, 3], [4, 5, 6]), ([3, 7], [3, 7])])
theorem tab_revetmentlaw29_JudgeRests_5 : rtab .any (opsOf Try.f8 5) = T_revetmentlaw29_JudgeRests_5 := by kernel_rfl
theorem bits_revetmentlaw29_JudgeRests_5 : waitsOk T_revetmentlaw29_JudgeRests_5.2 [0, 0, 0, 7, 0, 0, 0, 127, 255] = true := by kernel_rfl
def T_revetmentlaw29_JudgeRests_9 : Bool × List (List Nat × List Nat) := (true, [([], []), ([0], [0]), ([1], [1]), ([], []), ([2, 3], [2, 3]), ([4], [4]), ([], []), ([6], [6]), ([], []), ([7, 8], [7, 8]), ([9], [9]), ([], []), ([11, 5, 0, 1, 2, 3, 4, 5, 11], [5, 11]), ([10, 12, 0, 1, 2, 3, 4, 5, 6, 7, 8, 9, 10, 11, 12], [10])])
theorem tab_revetmentlaw29_JudgeRests_9 : rtab .any (opsOf Try.f8 9) = T_revetmentlaw29_JudgeRests_9 := by kernel_rfl
theorem bits_revetmentlaw29_JudgeRests_9 : waitsOk T_revetmentlaw29_JudgeRests_9.2 [0, 1, 3, 0, 15, 31, 0, 64, 0, 448, 960, 0, 2111, 8191] = true := by kernel_rfl
def T_revetmentlaw29_JudgeRests_16 : Bool × List (List Nat × List Nat) := (true, [([], []), ([], []), ([1], [1]), ([2], [2]), ([], []), ([3, 4], [3, 4]), ([5], [5]), ([], []), ([0, 6, 7], [0, 6, 7]), ([], []), ([], []), ([10], [10]), ([8, 9, 11], [8, 9, 11]), ([], []), ([13, 12, 8, 0, 1, 2, 3, 4, 5, 6, 7, 8, 9, 10, 11, 12, 13], [12, 13])])
theorem tab_revetmentlaw29_JudgeRests_16 : rtab .any (opsOf Try.f8 16) = T_revetmentlaw29_JudgeRests_16 := by kernel_rfl
theorem bits_revetmentlaw29_JudgeRests_16 : waitsOk T_revetmentlaw29_JudgeRests_16.2 [0, 0, 2, 6, 0, 30, 62, 0, 255, 0, 0, 1024, 4095, 0, 16383] = true := by kernel_rfl
def T_revetmentlaw29_JudgeRests_17 : Bool × List (List Nat × List Nat) := (true, [([], []), ([], []), ([], []), ([], []), ([], []), ([], []), ([], []), ([6], [6]), ([5, 7], [5, 7]), ([4, 8], [4, 8]), ([9], [9]), ([0, 1, 2, 3, 10], [0, 1, 2, 3, 10]), ([11, 11], [11]), ([12, 12], [12]), ([12, 13], [12, 13]), ([14, 13, 0, 1, 2, 3, 4, 5, 6, 7, 8, 9, 10, 11, 12, 13, 14], [14])])
theorem tab_revetmentlaw29_JudgeRests_17 : rtab .any (opsOf Try.f8 17) = T_revetmentlaw29_JudgeRests_17 := by kernel_rfl
theorem bits_revetmentlaw29_JudgeRests_17 : waitsOk T_revetmentlaw29_JudgeRests_17.2 [0, 0, 0, 0, 0, 0, 0, 64, 224, 496, 1008, 2047, 4095, 8191, 16383, 32767] = true := by kernel_rfl
theorem rest_hi (id m u b c z s me o a l : Int) {D : Mdl} (hi : MInv2 id m u b c z s me o a l D) {z_ : Int} (hin : 0 ≤ z_ ∧ z_ < (D.T.length : Int)) : 0 ≤ (rd_T59 D.L z_).f1 ∧ (rd_T59 D.L z_).f1 ≤ sizeC m u b c z s me o a l ∧ ((rdOf default D.T z_).size : Int) = (rd_T59 D.L z_).f1 * b ∧ 0 ≤ rdOf default D.S z_ ∧ rdOf default D.S z_ ≤ (rd_T59 D.L z_).f1 ∧ 1 ≤ b ∧ b ≤ 4096 := by
  have hT : D.T.length = D.L.length := hi.1.2.1
  have f0 := rd_wp hi.1 z_.toNat (by omega)
  have f1 := hi.1.2.2.2 z_.toNat (by omega)
  rw [Int.toNat_of_nonneg hin.1] at f0 f1
  have hbb := okC_bd (checkC_ok (rightZ_len hi.1.1).1).1
  exact ⟨f0.1, f0.2, f1.1, f1.2.1, f1.2.2, by omega, by omega⟩
theorem rest_eq (id m u b c z s me o a l : Int) {D : Mdl} {z_ : Int} (hin : 0 ≤ z_ ∧ z_ < (D.T.length : Int)) (g : S59) (tx : List Int) : zoneB id m u b c z s me o a l D ⟨0, 0, 0, 0, [], false⟩ false z_ g tx = tailB g.f0 g.f1 g.f2 (rd_T59 D.L z_).f0 (rd_T59 D.L z_).f1 (rd_T59 D.L z_).f2 (rdOf default D.S z_) (rd_T59 D.L z_).f1 (restB (sizeC m u b c z s me o a l) (rd_T59 D.L z_) g.f1) (cutB (sizeC m u b c z s me o a l) (rd_T59 D.L z_)) (g.f1 * b) tx (bytesOf (rdOf default D.T z_)) := by
  unfold zoneB highM textL zoneOf mineB
  rw [if_pos hin, if_pos hin, if_pos hin]
  unfold zoneQ
  simp only [Bool.false_and, Bool.false_eq_true, false_and, ↓reduceIte]
theorem take_all (t : ByteArray) {n : Nat} (h : t.size = n) : strOfNums ((bytesOf t).take n) = t := by
  rw [List.take_of_length_le (by rw [bytesOf_length]; omega), strOf_bytesOf]
theorem take_str2 (wh : ByteArray) (n : Nat) : strOfNums ((bytesOf wh).take n) = wh.extract 0 n := by
  apply ByteArray.ext
  apply Array.ext'
  have e : ((fun n : Int => UInt8.ofNat n.toNat) ∘ fun b : UInt8 => (b.toNat : Int)) = id := by funext b; simp
  simp [strOfNums, bytesOf, List.map_take, List.map_map, e]
theorem rest_now (id m u b c z s me o a l : Int) {D : Mdl} (hi : MInv2 id m u b c z s me o a l D) {z_ : Int} (hin : 0 ≤ z_ ∧ z_ < (D.T.length : Int)) : zoneB id m u b c z s me o a l D ⟨0, 0, 0, 0, [], false⟩ false z_ ⟨restB (sizeC m u b c z s me o a l) (rd_T59 D.L z_) (rd_T59 D.L z_).f1, (rd_T59 D.L z_).f1, (rd_T59 D.L z_).f2⟩ (bytesOf (rdOf default D.T z_)) = true := by
  obtain ⟨h0, h1, h2, h3, h4, h5, h6⟩ := rest_hi id m u b c z s me o a l hi hin
  rw [rest_eq id m u b c z s me o a l hin]
  unfold tailB
  dsimp only
  have e : (rdOf default D.T z_).size = ((rd_T59 D.L z_).f1 * b).toNat := by omega
  rw [if_neg (fun h => h rfl), if_neg (by omega), if_neg (by omega), if_neg (fun h => h rfl), if_neg (fun h => h.2 rfl), if_neg (fun h => h (by rw [bytesOf_length]; omega)), take_all _ e, strOf_bytesOf]
  simp
theorem rest_safe (id m u b c z s me o a l : Int) {D : Mdl} (hi : MInv2 id m u b c z s me o a l D) {z_ : Int} (hin : 0 ≤ z_ ∧ z_ < (D.T.length : Int)) (hf : ¬ (rd_T59 D.L z_).f0 = 3) : zoneB id m u b c z s me o a l D ⟨0, 0, 0, 0, [], false⟩ false z_ ⟨restB (sizeC m u b c z s me o a l) (rd_T59 D.L z_) (rdOf default D.S z_), rdOf default D.S z_, (rd_T59 D.L z_).f2⟩ (bytesOf ((rdOf default D.T z_).extract 0 (rdOf default D.S z_ * b).toNat)) = true := by
  obtain ⟨h0, h1, h2, h3, h4, h5, h6⟩ := rest_hi id m u b c z s me o a l hi hin
  have e1 : rdOf default D.S z_ * b ≤ (rd_T59 D.L z_).f1 * b := Int.mul_le_mul_of_nonneg_right h4 (by omega)
  have hc : cutB (sizeC m u b c z s me o a l) (rd_T59 D.L z_) = false := by unfold cutB; simp [hf]
  rw [rest_eq id m u b c z s me o a l hin]
  unfold tailB
  dsimp only
  rw [if_neg (fun h => h rfl), if_neg (by omega), if_neg (by omega), if_neg (fun h => h rfl), if_neg (fun h => absurd h.1 (by rw [hc]; decide)), if_neg (fun h => h (by rw [bytesOf_length]; omega)), take_str2, strOf_bytesOf]
  simp
section
variable {P : Program} {ops : Array Oper} {rest : List Oper} {o : Oper} {a : Act} {Q : Exit → Act → World → Prop} {w W : World} {bs : List Blk} {fs : List Fct} {q : Nat} {cs : Array Value} {v : Operand}
theorem spz (H : Hid (Pk w W bs fs)) (k t p g : Nat) (ys cs' : List Value) (hF : ∀ w', w' = W.setCells g 0 ys → ∀ f ∈ fs, f.P w') (hk : bs[k]? = some ⟨g, q, cs⟩ := by rfl) (ho : o.op = .store t (.tmp p) v := by rfl) (hgd : o.guard = none := by rfl) (hN : o.dst = none := by rfl) (hrun : (∀ i, W.frozen? ⟨g, i, none⟩ = false) → (execOp a.eval o).run P W = .ok .skip (W.setCells g 0 ys) := by (intro f_; first | (go_simp; done) | (go_simp; rfl))) (hl : Nat.ble (0 + ys.length) cs.size = true := by rfl) (e : (over cs.toList 0 ys).toArray = cs'.toArray := by rfl) (h : ∀ w', Hid (Pk w w' (bs.set k ⟨g, q, cs'.toArray⟩) fs) → wpList P ops Q rest a w') : wpList P ops Q (o :: rest) a W :=
  sv t p g 0 ys ho hgd hN (hrun (H.out.froz k hk)) (fun w' hw => h w' (by
    have h1 : Pk w w' (bs.set k ⟨g, q, cs'.toArray⟩) [] := (Pk.mk H.out.below H.out.blk H.out.ne (by simp) : Pk w W bs []).put k hk hw hl e rfl
    exact Lib.hid ⟨h1.below, h1.blk, h1.ne, hF w' hw⟩))
end
set_option maxHeartbeats 16000000 in
set_option maxRecDepth 100000 in
theorem rests_no (id m u b c z s me o a l : Int) (Aa : Option Addr) (ca nx : Nat) (z_ os ow og n_ : Int) (D : Mdl) (w : World) (hbo : BothN id m u b c z s me o a l Aa ca nx w) : Calls Try.prog 8 #[.agg #[.int .i64 id, .int .i64 m, .int .i64 u, .int .i64 b, .int .i64 c, .int .i64 z, .int .i64 s, .int .i64 me, .int .i64 o, .int .i64 a, .int .i64 l], .slice Aa nx ca, .int .i64 z_, .agg #[.int .i64 os, .int .i64 ow, .int .i64 og], .int .i64 n_] w fun e w' => e = .returned (.bool true) ∧ Below w.heap.size w w' := by
  have H := Lib.hid (Pk.start w)
  have HBO := Lib.hid hbo; clear hbo
  go_enter Try.func8, Try.ntmps8
  go_wp2_with first
    | (apply bh H 5 (cL id m u b c z s me o a l) 23; clear H; intro gC W1 H; obtain ⟨-, cC⟩ := n1_ H)
    | (apply bh H 8 (oL os ow og) 59; clear H cC; intro gO W2 H; obtain ⟨-, cO, cC⟩ := n2_ H)
    | (go_at_call 33; refine (HBO.out _ H.out.below).mono ?_; rintro e W3 ⟨rfl, hb⟩; clear cO cC; replace H := pc H hb; clear hb; obtain ⟨-, cO, cC⟩ := n2_ H)
    | (apply bh H 11 (mL 0 0 0 0 0 0 0 0 0 0 0 nil_ nil_ nil_) 53; clear H cO cC; intro gM W4 H; obtain ⟨-, cM, cO, cC⟩ := n3_ H)
    | (apply bh H 12 (mL 0 0 0 0 0 0 0 0 0 0 0 nil_ nil_ nil_) 68; clear H cM cO cC; intro gQ W5 H; obtain ⟨-, cQ, cM, cO, cC⟩ := n4_ H)
    | (apply sn H 1 53 11 gM (mL 0 0 0 0 0 0 0 0 0 0 0 nil_ nil_ nil_))
    | (apply sn H 0 68 12 gQ (mL 0 0 0 0 0 0 0 0 0 0 0 nil_ nil_ nil_))
    | (go_at_call 34; refine (live29_any _).mono ?_; rintro e W6 ⟨rfl, hb⟩; clear cQ cM cO cC; replace H := pc H hb; clear hb; obtain ⟨-, cQ, cM, cO, cC⟩ := n4_ H)
  go_ret
  exact ⟨rfl, H.out.below⟩
set_option maxHeartbeats 16000000 in
set_option maxRecDepth 100000 in
theorem rests_in (id m u b c z s me o a l : Int) (Aa : Option Addr) (ca nx : Nat) (z_ os ow og n_ : Int) (D : Mdl) (w : World) (hi : MInv2 id m u b c z s me o a l D) (hbo : BothP id m u b c z s me o a l Aa ca nx w D) (hin : (0 ≤ z_ ∧ z_ < (D.T.length : Int))) : Calls Try.prog 8 #[.agg #[.int .i64 id, .int .i64 m, .int .i64 u, .int .i64 b, .int .i64 c, .int .i64 z, .int .i64 s, .int .i64 me, .int .i64 o, .int .i64 a, .int .i64 l], .slice Aa nx ca, .int .i64 z_, .agg #[.int .i64 os, .int .i64 ow, .int .i64 og], .int .i64 n_] w fun e w' => e = .returned (.bool true) ∧ Below w.heap.size w w' := by
  have H := Lib.hid (Pk.start w)
  have hk := (rightZ_len hi.1.1).1
  have hjr := fun W => jrest_any id m u b c z s me o a l hk ⟨os, ow, og⟩ n_ W
  have hrr := fun W => rrest_any id m u b c z s me o a l n_ (cutB (sizeC m u b c z s me o a l) ⟨os, ow, og⟩) W
  unfold restB at hjr
  generalize (if cutB (sizeC m u b c z s me o a l) (⟨os, ow, og⟩ : S59) = true then 3 else if n_ = sizeC m u b c z s me o a l then 3 else if n_ = 0 then 0 else 2 : Int) = rr at hjr hrr
  have hsz := fun W => rsize_any id m u b c z s me o a l W
  have hth := fun x y q W h => rthere_any id m u b c z s me o a l x y q D z_ W h
  rw [decide_eq_true hin] at hth
  obtain ⟨r0, r1, r2, r3, r4, r5, r6⟩ := rest_hi id m u b c z s me o a l hi hin
  have hrn := rest_now id m u b c z s me o a l hi hin
  have hrs := fun h => rest_safe id m u b c z s me o a l hi hin h
  have hsl := sizeC_le hk
  have hL1 : D.S.length = D.T.length := hi.1.2.2.1.trans hi.1.2.1.symm
  have hL2 : D.T.length = D.L.length := hi.1.2.1
  have hj1 := fun W => jrest_any id m u b c z s me o a l hk (rd_T59 D.L z_) (rd_T59 D.L z_).f1 W
  have hj2 := fun W => jrest_any id m u b c z s me o a l hk (rd_T59 D.L z_) (rdOf default D.S z_) W
  have hji := fun (sb gw gg : Int) (tl_ : List Int) (hg : -100 ≤ gw ∧ gw ≤ 3932160) A k x y q W h hx hxk => jzone_any id m u b c z s me o a l x y q D 0 0 0 0 none 0 [] false false z_ sb gw gg A k tl_ W h hi (Kd.C_nil _ W) (Nat.le_refl 0) hx hxk hg
  obtain ⟨j0, j1⟩ := hin
  have i1 : z_ < (D.L.length : Int) := by omega
  have i2 : z_ < (D.T.length : Int) := j1
  have i3 : z_ < (D.S.length : Int) := by omega
  have HP : Hid (0 < D.L.length ∧ 0 < D.T.length ∧ 0 < D.S.length) := Lib.hid (by omega)
  obtain ⟨wD, hwD⟩ : ∃ v, v = rdOf default D.T z_ := ⟨_, rfl⟩
  obtain ⟨lo, hlo⟩ : ∃ v, v = rdOf default D.S z_ := ⟨_, rfl⟩
  obtain ⟨wz, hwz⟩ : ∃ v, v = (rd_T59 D.L z_) := ⟨_, rfl⟩
  simp only [← hwD, ← hlo, ← hwz] at hrn hrs hj1 hj2 r0 r1 r2 r3 r4
  have HWD := Lib.hid hwD; have HLO := Lib.hid hlo; have HWZ := Lib.hid hwz; clear hwD hlo hwz
  obtain ⟨ws, ww, wg⟩ := wz
  dsimp only at hrn hrs r0 r1 r2 r4
  generalize restB (sizeC m u b c z s me o a l) ⟨ws, ww, wg⟩ ww = q1 at hrn hj1
  generalize restB (sizeC m u b c z s me o a l) ⟨ws, ww, wg⟩ lo = q2 at hrs hj2
  have hz1 := hji q1 ww wg (bytesOf wD) (by omega)
  rw [hrn, bytesOf_length] at hz1
  have hz2 := hji q2 lo wg (bytesOf (wD.extract 0 (lo * b).toNat)) (by omega)
  have e1 : lo * b ≤ ww * b := Int.mul_le_mul_of_nonneg_right r4 (by omega)
  have e2 : 0 ≤ lo * b := Int.mul_nonneg r3 (by omega)
  have e3 : ww * b ≤ 3932160 * b := Int.mul_le_mul_of_nonneg_right (by omega) (by omega)
  obtain ⟨Y, hY⟩ : ∃ Y, Y = lo * b := ⟨_, rfl⟩
  rw [← hY] at hrs hz2 e1 e2
  have y1 : wrap64 (lo * b) = Y := by rw [hY]; unfold wrap64; omega
  have y2 : IntKind.i64.wrap (lo * b) = Y := (i64_w _).trans y1
  have q8 : 0 ≤ Y := e2
  have q9 : Y ≤ (wD.size : Int) := by omega
  have q10 : Y.toNat ≤ wD.size := by omega
  have hwz_ : wD.size ≤ 9223372036854775807 := by omega
  have hsx : (wD.extract 0 Y.toNat).size ≤ 9223372036854775807 := by rw [ByteArray.size_extract]; omega
  have HSW := Lib.hid hwz_; have HSX := Lib.hid hsx
  have HJ1 := Lib.hid hj1; have HJ2 := Lib.hid hj2; have HZ1 := Lib.hid hz1; have HZ2 := Lib.hid hz2; have HRS := Lib.hid hrs
  clear hj1 hj2 hz1 hz2 hrs hrn hji r0 r1 r2 r3 r4 r5 r6 hsl hL1 hL2 j1 e1 e2 e3 hY hwz_ hsx
  have HBO := Lib.hid hbo; have HJR := Lib.hid hjr; have HRR := Lib.hid hrr; have HTH := Lib.hid hth
  obtain ⟨fi, hfi⟩ : ∃ f, f = cutB (sizeC m u b c z s me o a l) ⟨os, ow, og⟩ := ⟨_, rfl⟩
  rw [← hfi] at HRR
  unfold cutB at hfi
  dsimp only at hfi
  generalize sizeC m u b c z s me o a l = Z at hsz hfi
  have HSZ := Lib.hid hsz
  have hcs : (os = 3 ∧ fi = decide (ow < Z)) ∨ (¬ os = 3 ∧ fi = false) := by
    rw [hfi]; by_cases h : os = 3 <;> simp [h]
  clear hbo hjr hrr hth hsz hfi hi hk
  go_enter Try.func8, Try.ntmps8
  go_upto_region 4 with first
    | (apply bh H 5 (cL id m u b c z s me o a l) 23; clear H; intro gC W1 H; obtain ⟨-, cC⟩ := n1_ H)
    | (apply bh H 8 (oL os ow og) 59; clear H cC; intro gO W2 H; obtain ⟨-, cO, cC⟩ := n2_ H)
    | (go_at_call 33; refine (HBO.out _ H.out.below).mono ?_; rintro e W3 ⟨⟨B1, m1, j1, B2, m2, j2, B3, m3, j3, Bd1, md1, jd1, Bd2, md2, jd2, Bd3, md3, jd3, rfl, hM, hM2⟩, hb⟩; have hC_ := MC_R hM2; obtain ⟨⟨ad1, rfl⟩, hm1⟩ := slc_some hC_.1 HP.out.1; obtain ⟨⟨ad2, rfl⟩, hm2⟩ := slc_some hC_.2.1 HP.out.2.1; obtain ⟨⟨ad3, rfl⟩, hm3⟩ := slc_some hC_.2.2 HP.out.2.2; have im1 : z_ < (md1 : Int) := (by omega); have im2 : z_ < (md2 : Int) := (by omega); have im3 : z_ < (md3 : Int) := (by omega); clear hC_ hm1 hm2 hm3; clear cO cC; have hb0_ := H.out.below.size; replace H := Lib.hid ((H.out.called hb).row (MrF w.heap.size (.slice B1 m1 j1) (.slice B2 m2 j2) (.slice B3 m3 j3) (D)) (MR_lower hM H.out.below.size)); replace H := Lib.hid ((H.out).row (MrF w.heap.size (.slice (some ad1) md1 jd1) (.slice (some ad2) md2 jd2) (.slice (some ad3) md3 jd3) (D)) (MR_lower hM2 hb0_)); clear hb0_; clear hM hM2; clear hb; obtain ⟨-, cO, cC⟩ := n2_ H)
    | (apply bh H 11 (mL 0 0 0 0 0 0 0 0 0 0 0 nil_ nil_ nil_) 53; clear H cO cC; intro gM W4 H; obtain ⟨-, cM, cO, cC⟩ := n3_ H)
    | (apply bh H 12 (mL 0 0 0 0 0 0 0 0 0 0 0 nil_ nil_ nil_) 68; clear H cM cO cC; intro gQ W5 H; obtain ⟨-, cQ, cM, cO, cC⟩ := n4_ H)
    | (apply sh H 1 53 11 gM (mL id m u b c z s me o a l (.slice B1 m1 j1) (.slice B2 m2 j2) (.slice B3 m3 j3)); clear H cQ cM cO cC; intro W6 K_; obtain ⟨H, cQ, cM, cO, cC⟩ := n4_ K_; clear K_)
    | (apply sh H 0 68 12 gQ (mL id m u b c z s me o a l (.slice (some ad1) md1 jd1) (.slice (some ad2) md2 jd2) (.slice (some ad3) md3 jd3)); clear H cQ cM cO cC; intro W7 K_; obtain ⟨H, cQ, cM, cO, cC⟩ := n4_ K_; clear K_)
  go_cut [14] from 19 (fun s14 wx => s14 = .bool fi ∧ Hid (Pk w wx [⟨gQ, 68, (mL id m u b c z s me o a l (.slice (some ad1) md1 jd1) (.slice (some ad2) md2 jd2) (.slice (some ad3) md3 jd3)).toArray⟩, ⟨gM, 53, (mL id m u b c z s me o a l (.slice B1 m1 j1) (.slice B2 m2 j2) (.slice B3 m3 j3)).toArray⟩, ⟨gO, 59, (oL os ow og).toArray⟩, ⟨gC, 23, (cL id m u b c z s me o a l).toArray⟩] [MrF w.heap.size (.slice (some ad1) md1 jd1) (.slice (some ad2) md2 jd2) (.slice (some ad3) md3 jd3) (D), MrF w.heap.size (.slice B1 m1 j1) (.slice B2 m2 j2) (.slice B3 m3 j3) (D)]))
  case first =>
    clear cQ cM cO cC
    rcases hcs with hcs | hcs
    · obtain ⟨h1, hv⟩ := hcs
      have HF := Lib.hid hv; clear hv
      (try have bh1 : (os == 3) = true := beq_iff_eq.mpr h1)
      (try have bh1 : (os == 3) = false := beq_eq_false_iff_ne.mpr h1)
      (try have dh1 : (os != 3) = false := bne_eq_false_iff_eq.mpr h1)
      (try have dh1 : (os != 3) = true := bne_iff_ne.mpr h1)
      (try have Hh1 := Lib.hid h1)
      (try clear h1)
      obtain ⟨-, cQ, cM, cO, cC⟩ := n4_ H
      go_wp2
      clear cQ cM cO cC
      refine start_ (n := 11) (S := fun W => bW W gC (cL id m u b c z s me o a l) ∧ bW W gO (oL os ow og)) (ds := []) (bq 11 0) (by kernel_rfl) rfl (by kernel_rfl) ⟨H.out.drew.cell 3 rfl, H.out.drew.cell 2 rfl⟩ (fun hHeld => ?_)
      refine with_tabW tab_revetmentlaw29_JudgeRests_4 bits_revetmentlaw29_JudgeRests_4 (fun HT_ HW_ => ?_)
      have zH := H.out.drew
      generalize W7.drew = W13 at zH hHeld ⊢
      replace H := Lib.hid zH; clear zH
      apply pu 0 29 (bq 11 1) HT_
      apply tw 1 30 (bq 11 3) HT_ HW_ hHeld
      apply pu 2 31 (bq 11 7) HT_
      apply pu 3 32 (bq 11 15) HT_
      apply pu 4 33 (bq 11 31) HT_
      apply tw 5 34 (bq 11 63) HT_ HW_ hHeld
      apply tw 6 35 (bq 11 127) HT_ HW_ hHeld
      apply on 7 (some 36) (bq 11 255) HT_; intro K hK
      refine gs Try.func41 #[.agg #[.int .i64 id, .int .i64 m, .int .i64 u, .int .i64 b, .int .i64 c, .int .i64 z, .int .i64 s, .int .i64 me, .int .i64 o, .int .i64 a, .int .i64 l]] ?_
      refine (HSZ.out _).mono ?_
      rintro e W14 ⟨rfl, hb⟩
      refine ⟨_, rfl, ?_⟩
      replace H := pc H hb
      clear hb
      refine hK.out _ _ ⟨H.out.cell 3 rfl, H.out.cell 2 rfl⟩ (fun hHeld => ?_)
      clear hK K
      apply nm 0
      apply pu 8 37 (bq 11 511) HT_
      apply pu 9 38 (bq 11 1023) HT_
      apply pu 10 14 (bq 11 2047) HT_
      refine done_ (done_of HT_.out (by kernel_rfl)) ?_
      obtain ⟨-, cQ, cM, cO, cC⟩ := n4_ H
      go_wp2
      go_meet
      exact ⟨by rw [HF.out], H⟩
    · obtain ⟨h1, hv⟩ := hcs
      have HF := Lib.hid hv; clear hv
      (try have bh1 : (os == 3) = true := beq_iff_eq.mpr h1)
      (try have bh1 : (os == 3) = false := beq_eq_false_iff_ne.mpr h1)
      (try have dh1 : (os != 3) = false := bne_eq_false_iff_eq.mpr h1)
      (try have dh1 : (os != 3) = true := bne_iff_ne.mpr h1)
      (try have Hh1 := Lib.hid h1)
      (try clear h1)
      obtain ⟨-, cQ, cM, cO, cC⟩ := n4_ H
      go_wp2
      clear cQ cM cO cC
      refine start_ (n := 11) (S := fun W => bW W gC (cL id m u b c z s me o a l) ∧ bW W gO (oL os ow og)) (ds := []) (bq 11 0) (by kernel_rfl) rfl (by kernel_rfl) ⟨H.out.drew.cell 3 rfl, H.out.drew.cell 2 rfl⟩ (fun hHeld => ?_)
      refine with_tabW tab_revetmentlaw29_JudgeRests_4 bits_revetmentlaw29_JudgeRests_4 (fun HT_ HW_ => ?_)
      have zH := H.out.drew
      generalize W7.drew = W13 at zH hHeld ⊢
      replace H := Lib.hid zH; clear zH
      apply pu 0 29 (bq 11 1) HT_
      apply tw 1 30 (bq 11 3) HT_ HW_ hHeld
      apply pu 2 31 (bq 11 7) HT_
      apply pu 3 32 (bq 11 15) HT_
      apply po 4 33 (bq 11 31) HT_
      apply po 5 34 (bq 11 63) HT_
      apply po 6 35 (bq 11 127) HT_
      apply po 7 36 (bq 11 255) HT_
      apply po 8 37 (bq 11 511) HT_
      apply pu 9 38 (bq 11 1023) HT_
      apply pu 10 14 (bq 11 2047) HT_
      refine done_ (done_of HT_.out (by kernel_rfl)) ?_
      obtain ⟨-, cQ, cM, cO, cC⟩ := n4_ H
      go_wp2
      go_meet
      exact ⟨by rw [HF.out], H⟩
  case rest =>
    clear H hcs cQ cM cO cC
    obtain ⟨rfl, H⟩ := hcut
    obtain ⟨-, cQ, cM, cO, cC⟩ := n4_ H
    go_wp2
    clear cQ cM cO cC
    refine start_ (n := 9) (S := fun W => bW W gC (cL id m u b c z s me o a l) ∧ bW W gO (oL os ow og)) (ds := []) (bq 9 0) (by kernel_rfl) rfl (by kernel_rfl) ⟨H.out.drew.cell 3 rfl, H.out.drew.cell 2 rfl⟩ (fun hHeld => ?_)
    refine with_tabW tab_revetmentlaw29_JudgeRests_5 bits_revetmentlaw29_JudgeRests_5 (fun HT_ HW_ => ?_)
    have zH := H.out.drew
    generalize wc.drew = W81 at zH hHeld ⊢
    replace H := Lib.hid zH; clear zH
    apply tw 0 39 (bq 9 1) HT_ HW_ hHeld
    apply tw 1 40 (bq 9 3) HT_ HW_ hHeld
    apply pu 2 41 (bq 9 7) HT_
    apply tw 4 43 (bq 9 23) HT_ HW_ hHeld
    apply pu 5 44 (bq 9 55) HT_
    apply pu 6 45 (bq 9 119) HT_
    apply on 3 (some 42) (bq 9 127) HT_; intro K hK
    refine gs Try.func42 #[.agg #[.int .i64 id, .int .i64 m, .int .i64 u, .int .i64 b, .int .i64 c, .int .i64 z, .int .i64 s, .int .i64 me, .int .i64 o, .int .i64 a, .int .i64 l], .agg #[.int .i64 os, .int .i64 ow, .int .i64 og], .int .i64 n_] ?_
    refine (HJR.out _).mono ?_
    rintro e W82 ⟨rfl, hb⟩
    refine ⟨_, rfl, ?_⟩
    replace H := pc H hb
    clear hb
    refine hK.out _ _ ⟨H.out.cell 3 rfl, H.out.cell 2 rfl⟩ (fun hHeld => ?_)
    clear hK K
    apply nm 0
    apply on 7 (some 46) (bq 9 255) HT_; intro K hK
    refine gs Try.func43 #[.agg #[.int .i64 id, .int .i64 m, .int .i64 u, .int .i64 b, .int .i64 c, .int .i64 z, .int .i64 s, .int .i64 me, .int .i64 o, .int .i64 a, .int .i64 l], .int .i64 n_, .bool fi] ?_
    refine (HRR.out _).mono ?_
    rintro e W83 ⟨rfl, hb⟩
    refine ⟨_, rfl, ?_⟩
    replace H := pc H hb
    clear hb
    refine hK.out _ _ ⟨H.out.cell 3 rfl, H.out.cell 2 rfl⟩ (fun hHeld => ?_)
    clear hK K
    apply nm 0
    apply pu 8 47 (bq 9 511) HT_
    refine done_ (done_of HT_.out (by kernel_rfl)) ?_
    obtain ⟨-, cQ, cM, cO, cC⟩ := n4_ H
    go_wp2_with first
      | (go_at_call 35; refine (HTH.out _ _ _ _ (MC_R (H.out.fact 0 rfl))).mono ?_; rintro e W84 ⟨rfl, hb⟩; clear cQ cM cO cC; replace H := pc H hb; clear hb; obtain ⟨-, cQ, cM, cO, cC⟩ := n4_ H)
    skip
    go_wp2
    clear cQ cM cO cC
    refine start_ (n := 14) (S := fun W => bW W gQ (mL id m u b c z s me o a l (.slice (some ad1) md1 jd1) (.slice (some ad2) md2 jd2) (.slice (some ad3) md3 jd3)) ∧ (W.cell? (ad1.add (z_.toNat * 3)) = some (.int .i64 ws) ∧ W.cell? ⟨(ad1.add (z_.toNat * 3)).block, (ad1.add (z_.toNat * 3)).off + 1, none⟩ = some (.int .i64 ww) ∧ W.cell? ⟨(ad1.add (z_.toNat * 3)).block, (ad1.add (z_.toNat * 3)).off + 2, none⟩ = some (.int .i64 wg)) ∧ W.cell? (ad2.add z_.toNat) = some (.string wD)) (ds := []) (bq 14 0) (by kernel_rfl) rfl (by kernel_rfl) ⟨H.out.drew.cell 0 rfl, (by have h := zone_atI (slc_C (MC_R ((H.out.drew).fact 0 rfl)).1) z_ j0 i1; rw [← HWZ.out] at h; exact h), (by rw [HWD.out]; exact C_el default (slc_C (MC_R ((H.out.drew).fact 0 rfl)).2.1) z_ j0 (by omega))⟩ (fun hHeld => ?_)
    refine with_tabW tab_revetmentlaw29_JudgeRests_9 bits_revetmentlaw29_JudgeRests_9 (fun HT_ HW_ => ?_)
    have zH := H.out.drew
    generalize W84.drew = W85 at zH hHeld ⊢
    replace H := Lib.hid zH; clear zH
    apply pu 0 53 (bq 14 1) HT_
    apply pu 1 54 (bq 14 3) HT_
    apply tw 2 55 (bq 14 7) HT_ HW_ hHeld
    apply pu 3 56 (bq 14 15) HT_
    apply pu 4 57 (bq 14 31) HT_
    apply tw 5 58 (bq 14 63) HT_ HW_ hHeld
    apply pu 6 59 (bq 14 127) HT_
    apply tw 7 60 (bq 14 255) HT_ HW_ hHeld
    apply pu 8 61 (bq 14 511) HT_
    apply pu 9 62 (bq 14 1023) HT_
    apply tw 10 63 (bq 14 2047) HT_ HW_ hHeld
    apply on 11 (some 15) (bq 14 4095) HT_; intro K hK
    obtain ⟨-, cQ, cM, cO, cC⟩ := n4_ H
    apply bhs H 15 (oL 0 0 0) 59
    have HO_ := H
    clear H cQ cM cO cC
    intro gY W86 hg hb H
    have n_Y_Kd := Lib.hid (mrf_lt (HO_.out.fact 0 rfl) hg)
    have n_Y_G0 := Lib.hid (mrf_lt (HO_.out.fact 1 rfl) hg)
    clear HO_
    clear hb hg
    refine hK.out _ _ ⟨H.out.cell 1 rfl, (by have h := zone_atI (slc_C (MC_R (H.out.fact 0 rfl)).1) z_ j0 i1; rw [← HWZ.out] at h; exact h), (by rw [HWD.out]; exact C_el default (slc_C (MC_R (H.out.fact 0 rfl)).2.1) z_ j0 (by omega))⟩ (fun hHeld => ?_)
    clear hK K
    apply nm 0
    apply on 12 none (bq 14 8191) HT_; intro K hK
    obtain ⟨-, cY, cQ, cM, cO, cC⟩ := n5_ H
    apply shzs H 0 59 15 gY (oL ws ww wg) (fun w_ hw_ => fcons (mrf_set hw_ (H.out.fact 0 rfl) n_Y_Kd.out (H.out.at_ 0 rfl)) (fcons (mrf_set hw_ (H.out.fact 1 rfl) n_Y_G0.out (H.out.at_ 0 rfl)) (fnil)))
    clear H cY cQ cM cO cC
    intro W87 K_
    have H := (n5_ K_).1; clear K_
    refine hK.out _ _ ⟨H.out.cell 1 rfl, (by have h := zone_atI (slc_C (MC_R (H.out.fact 0 rfl)).1) z_ j0 i1; rw [← HWZ.out] at h; exact h), (by rw [HWD.out]; exact C_el default (slc_C (MC_R (H.out.fact 0 rfl)).2.1) z_ j0 (by omega))⟩ (fun hHeld => ?_)
    clear hK K
    apply pu 13 16 (bq 14 16383) HT_
    refine done_ (done_of HT_.out (by kernel_rfl)) ?_
    obtain ⟨-, cY, cQ, cM, cO, cC⟩ := n5_ H
    go_upto_region 13 with first
      | (go_at_call 42; refine (HJ1.out _).mono ?_; rintro e W88 ⟨rfl, hb⟩; clear cY cQ cM cO cC; replace H := pc H hb; clear hb; obtain ⟨-, cY, cQ, cM, cO, cC⟩ := n5_ H)
      | (apply spz H 0 3 69 gY [.int .i64 q1] (oL q1 ww wg) (fun w_ hw_ => fcons (mrf_set hw_ (H.out.fact 0 rfl) n_Y_Kd.out (H.out.at_ 0 rfl)) (fcons (mrf_set hw_ (H.out.fact 1 rfl) n_Y_G0.out (H.out.at_ 0 rfl)) (fnil))); clear H cY cQ cM cO cC; intro W89 K_; obtain ⟨H, cY, cQ, cM, cO, cC⟩ := n5_ K_; clear K_)
      | ((with_reducible refine gate_dst (N := 75) rfl ?_); have hr_ := print_bytes (P := Try.prog) 9 57 5 Try.underlying9 Try.underlying57 Try.underlying5 wD W89; refine Kd.event_run rfl (v := .slice (some ⟨W89.heap.size, 0, none⟩) wD.size (grownCap W89 wD.size 0 5)) (w1 := Lib.bytesWorld W89 5 wD) ?hr ?_; (case hr => first | (go_simp; done) | (go_simp; rfl)); clear hr_; clear cY cQ cM cO cC; have hb : Below W89.heap.size W89 (Lib.bytesWorld W89 5 wD) := bytes_below (Below.refl _ _) (Nat.le_refl _) _ _; have hR : BR (Lib.bytesWorld W89 5 wD) (.slice (some ⟨W89.heap.size, 0, none⟩) wD.size (grownCap W89 wD.size 0 5)) (bytesOf wD) := BR_bytes _ _ (HSW.out) _ (grownCap_ge _ _ _ _); generalize Lib.bytesWorld W89 5 wD = W90 at hb hR ⊢; generalize grownCap W89 wD.size 0 5 = cB_ at hR ⊢; generalize W89.heap.size = gB_ at hR ⊢; replace H := Lib.hid ((H.out.called hb).row (BytF (.slice (some ⟨gB_, 0, none⟩) wD.size cB_) (bytesOf wD)) (hR)); clear hb hR; obtain ⟨-, cY, cQ, cM, cO, cC⟩ := n5_ H)
      | (go_at_call 39; refine (HZ1.out _ _ _ _ _ _ (MC_R (H.out.fact 2 rfl)) (by have h := slc_C (BR_slc (H.out.fact 0 rfl)); rw [bytesOf_length] at h; exact h) (by have h := BR_cap (H.out.fact 0 rfl); rw [bytesOf_length] at h; exact h)).mono ?_; rintro e W91 ⟨rfl, hb⟩; clear cY cQ cM cO cC; replace H := pc H hb; clear hb; obtain ⟨-, cY, cQ, cM, cO, cC⟩ := n5_ H)
    by_cases h3 : ws = 3
    · clear cY cQ cM cO cC
      (try have bh3 : (ws == 3) = true := beq_iff_eq.mpr h3)
      (try have bh3 : (ws == 3) = false := beq_eq_false_iff_ne.mpr h3)
      (try have dh3 : (ws != 3) = false := bne_eq_false_iff_eq.mpr h3)
      (try have dh3 : (ws != 3) = true := bne_iff_ne.mpr h3)
      (try have Hh3 := Lib.hid h3)
      (try clear h3)
      obtain ⟨-, cY, cQ, cM, cO, cC⟩ := n5_ H
      have zs := (show W91.cell? (ad3.add z_.toNat) = some (.int .i64 lo) from (by rw [HLO.out]; exact C_el default (slc_C (MC_R (H.out.fact 1 rfl)).2.2) z_ j0 i3))
      have zc := (show W91.cell? (ad1.add (z_.toNat * 3)) = some (.int .i64 ws) ∧ W91.cell? ⟨(ad1.add (z_.toNat * 3)).block, (ad1.add (z_.toNat * 3)).off + 1, none⟩ = some (.int .i64 ww) ∧ W91.cell? ⟨(ad1.add (z_.toNat * 3)).block, (ad1.add (z_.toNat * 3)).off + 2, none⟩ = some (.int .i64 wg) from (by have h := zone_atI (slc_C (MC_R (H.out.fact 1 rfl)).1) z_ j0 i1; rw [← HWZ.out] at h; exact h))
      go_wp2_with first
        | (go_at_call 34; refine (live29_any _).mono ?_; rintro e W92 ⟨rfl, hb⟩; clear cY cQ cM cO cC zs zc; replace H := pc H hb; clear hb; obtain ⟨-, cY, cQ, cM, cO, cC⟩ := n5_ H; have zs := (show W92.cell? (ad3.add z_.toNat) = some (.int .i64 lo) from (by rw [HLO.out]; exact C_el default (slc_C (MC_R (H.out.fact 1 rfl)).2.2) z_ j0 i3)); have zc := (show W92.cell? (ad1.add (z_.toNat * 3)) = some (.int .i64 ws) ∧ W92.cell? ⟨(ad1.add (z_.toNat * 3)).block, (ad1.add (z_.toNat * 3)).off + 1, none⟩ = some (.int .i64 ww) ∧ W92.cell? ⟨(ad1.add (z_.toNat * 3)).block, (ad1.add (z_.toNat * 3)).off + 2, none⟩ = some (.int .i64 wg) from (by have h := zone_atI (slc_C (MC_R (H.out.fact 1 rfl)).1) z_ j0 i1; rw [← HWZ.out] at h; exact h)))
      go_ret
      exact ⟨rfl, H.out.below⟩
    · have hz3 := HZ2.out
      rw [HRS.out h3, bytesOf_length] at hz3
      have HZ3 := Lib.hid hz3; clear hz3
      clear cY cQ cM cO cC
      (try have bh3 : (ws == 3) = true := beq_iff_eq.mpr h3)
      (try have bh3 : (ws == 3) = false := beq_eq_false_iff_ne.mpr h3)
      (try have dh3 : (ws != 3) = false := bne_eq_false_iff_eq.mpr h3)
      (try have dh3 : (ws != 3) = true := bne_iff_ne.mpr h3)
      (try have Hh3 := Lib.hid h3)
      (try clear h3)
      obtain ⟨-, cY, cQ, cM, cO, cC⟩ := n5_ H
      have zs := (show W91.cell? (ad3.add z_.toNat) = some (.int .i64 lo) from (by rw [HLO.out]; exact C_el default (slc_C (MC_R (H.out.fact 1 rfl)).2.2) z_ j0 i3))
      have zc := (show W91.cell? (ad1.add (z_.toNat * 3)) = some (.int .i64 ws) ∧ W91.cell? ⟨(ad1.add (z_.toNat * 3)).block, (ad1.add (z_.toNat * 3)).off + 1, none⟩ = some (.int .i64 ww) ∧ W91.cell? ⟨(ad1.add (z_.toNat * 3)).block, (ad1.add (z_.toNat * 3)).off + 2, none⟩ = some (.int .i64 wg) from (by have h := zone_atI (slc_C (MC_R (H.out.fact 1 rfl)).1) z_ j0 i1; rw [← HWZ.out] at h; exact h))
      go_wp2
      clear cY cQ cM cO cC zs zc
      obtain ⟨-, cY, cQ, cM, cO, cC⟩ := n5_ H
      go_wp2
      clear cY cQ cM cO cC
      refine start_ (n := 15) (S := fun W => bW W gC (cL id m u b c z s me o a l) ∧ bW W gQ (mL id m u b c z s me o a l (.slice (some ad1) md1 jd1) (.slice (some ad2) md2 jd2) (.slice (some ad3) md3 jd3)) ∧ bW W gY (oL q1 ww wg) ∧ (W.cell? (ad1.add (z_.toNat * 3)) = some (.int .i64 ws) ∧ W.cell? ⟨(ad1.add (z_.toNat * 3)).block, (ad1.add (z_.toNat * 3)).off + 1, none⟩ = some (.int .i64 ww) ∧ W.cell? ⟨(ad1.add (z_.toNat * 3)).block, (ad1.add (z_.toNat * 3)).off + 2, none⟩ = some (.int .i64 wg))) (ds := []) (bq 15 0) (by kernel_rfl) rfl (by kernel_rfl) ⟨H.out.drew.cell 4 rfl, H.out.drew.cell 1 rfl, H.out.drew.cell 0 rfl, (by have h := zone_atI (slc_C (MC_R ((H.out.drew).fact 1 rfl)).1) z_ j0 i1; rw [← HWZ.out] at h; exact h)⟩ (fun hHeld => ?_)
      refine with_tabW tab_revetmentlaw29_JudgeRests_16 bits_revetmentlaw29_JudgeRests_16 (fun HT_ HW_ => ?_)
      have zH := H.out.drew
      generalize W91.drew = W92 at zH hHeld ⊢
      replace H := Lib.hid zH; clear zH
      apply tw 0 92 (bq 15 1) HT_ HW_ hHeld
      apply pu 1 93 (bq 15 3) HT_
      apply pu 2 94 (bq 15 7) HT_
      apply tw 3 95 (bq 15 15) HT_ HW_ hHeld
      apply pu 4 96 (bq 15 31) HT_
      apply pu 5 97 (bq 15 63) HT_
      apply tw 6 98 (bq 15 127) HT_ HW_ hHeld
      apply pu 7 99 (bq 15 255) HT_
      apply pu 9 101 (bq 15 767) HT_
      apply pu 10 102 (bq 15 1791) HT_
      apply tw 11 103 (bq 15 3839) HT_ HW_ hHeld
      have b0 := Lib.hid (Below.refl W92.heap.size W92)
      refine join_ (σ := Nat) 1 (bq 15 16383) (fun y => [(100, .int .i64 q2), (104, .agg #[.int .i64 q2, .int .i64 lo, .int .i64 wg]), (18, .pointer (some ⟨y, 0, none⟩))]) (fun y W => (bW W gC (cL id m u b c z s me o a l) ∧ bW W gQ (mL id m u b c z s me o a l (.slice (some ad1) md1 jd1) (.slice (some ad2) md2 jd2) (.slice (some ad3) md3 jd3)) ∧ bW W gY (oL q1 ww wg) ∧ (W.cell? (ad1.add (z_.toNat * 3)) = some (.int .i64 ws) ∧ W.cell? ⟨(ad1.add (z_.toNat * 3)).block, (ad1.add (z_.toNat * 3)).off + 1, none⟩ = some (.int .i64 ww) ∧ W.cell? ⟨(ad1.add (z_.toNat * 3)).block, (ad1.add (z_.toNat * 3)).off + 2, none⟩ = some (.int .i64 wg))) ∧ Below W92.heap.size W92 W ∧ W.heap[y]? = some (.cells (oL 0 0 0).toArray 59 (0, 0)) ∧ W92.heap.size ≤ y ∧ Value.ownBlock (.slice (some ad1) md1 jd1) ≠ some y ∧ Value.ownBlock (.slice B1 m1 j1) ≠ some y) ?_ ?_
      rotate_left
      · intro hCont
        refine two_ (i := 8) (j := 13) (Ni := some 100) (Nj := some 18) (bq 15 4095) (bq 15 12031) rfl rfl rfl rfl (two_of HT_.out (by kernel_rfl)) (by decide) (by decide) (fun K hK => ?_) (fun K hK => ?_)
        · refine gs Try.func42 #[.agg #[.int .i64 id, .int .i64 m, .int .i64 u, .int .i64 b, .int .i64 c, .int .i64 z, .int .i64 s, .int .i64 me, .int .i64 o, .int .i64 a, .int .i64 l], .agg #[.int .i64 ws, .int .i64 ww, .int .i64 wg], .int .i64 lo] ?_
          refine (HJ2.out _).mono ?_
          rintro e W93 ⟨rfl, hb⟩
          refine ⟨_, rfl, ?_⟩
          replace H := pc H hb
          replace b0 := Lib.hid (below_step b0.out hb)
          clear hb
          refine hK.out _ _ ⟨H.out.cell 4 rfl, H.out.cell 1 rfl, H.out.cell 0 rfl, (by have h := zone_atI (slc_C (MC_R (H.out.fact 1 rfl)).1) z_ j0 i1; rw [← HWZ.out] at h; exact h)⟩ (fun hHeld => ?_)
          clear hK K
          apply nm 0
          apply pu 12 104 (bq 15 8191) HT_
          apply on 13 (some 18) (bq 15 16383) HT_; intro K hK
          obtain ⟨-, cY, cQ, cM, cO, cC⟩ := n5_ H
          apply bhs H 18 (oL 0 0 0) 59
          have HO_ := H
          clear H cY cQ cM cO cC
          intro gV W94 hg hb H
          have n_V_Kd := Lib.hid (mrf_lt (HO_.out.fact 1 rfl) hg)
          have n_V_G0 := Lib.hid (mrf_lt (HO_.out.fact 2 rfl) hg)
          clear HO_
          have GV := Lib.hid (Nat.le_trans b0.out.size hg)
          replace b0 := Lib.hid (below_step b0.out hb)
          clear hb hg
          refine hK.out _ _ ⟨H.out.cell 5 rfl, H.out.cell 2 rfl, H.out.cell 1 rfl, (by have h := zone_atI (slc_C (MC_R (H.out.fact 1 rfl)).1) z_ j0 i1; rw [← HWZ.out] at h; exact h)⟩ (fun hHeld => ?_)
          clear hK K
          apply nm 0
          exact norm_ (by simp only [putAll, Act.put, List.setIfInBounds_toArray, List.set_cons_zero, List.set_cons_succ]) (hCont (gV) _ ⟨hHeld, b0.out, H.out.at_ 0 rfl, GV.out, n_V_Kd.out, n_V_G0.out⟩)
        · obtain ⟨-, cY, cQ, cM, cO, cC⟩ := n5_ H
          apply bhs H 18 (oL 0 0 0) 59
          have HO_ := H
          clear H cY cQ cM cO cC
          intro gV W93 hg hb H
          have n_V_Kd := Lib.hid (mrf_lt (HO_.out.fact 1 rfl) hg)
          have n_V_G0 := Lib.hid (mrf_lt (HO_.out.fact 2 rfl) hg)
          clear HO_
          have GV := Lib.hid (Nat.le_trans b0.out.size hg)
          replace b0 := Lib.hid (below_step b0.out hb)
          clear hb hg
          refine hK.out _ _ ⟨H.out.cell 5 rfl, H.out.cell 2 rfl, H.out.cell 1 rfl, (by have h := zone_atI (slc_C (MC_R (H.out.fact 1 rfl)).1) z_ j0 i1; rw [← HWZ.out] at h; exact h)⟩ (fun hHeld => ?_)
          clear hK K
          apply nm 0
          apply on 8 (some 100) (bq 15 12287) HT_; intro K hK
          refine gs Try.func42 #[.agg #[.int .i64 id, .int .i64 m, .int .i64 u, .int .i64 b, .int .i64 c, .int .i64 z, .int .i64 s, .int .i64 me, .int .i64 o, .int .i64 a, .int .i64 l], .agg #[.int .i64 ws, .int .i64 ww, .int .i64 wg], .int .i64 lo] ?_
          refine (HJ2.out _).mono ?_
          rintro e W94 ⟨rfl, hb⟩
          refine ⟨_, rfl, ?_⟩
          replace H := pc H hb
          replace b0 := Lib.hid (below_step b0.out hb)
          clear hb
          refine hK.out _ _ ⟨H.out.cell 5 rfl, H.out.cell 2 rfl, H.out.cell 1 rfl, (by have h := zone_atI (slc_C (MC_R (H.out.fact 1 rfl)).1) z_ j0 i1; rw [← HWZ.out] at h; exact h)⟩ (fun hHeld => ?_)
          clear hK K
          apply nm 0
          apply pu 12 104 (bq 15 16383) HT_
          exact norm_ (by simp only [putAll, Act.put, List.setIfInBounds_toArray, List.set_cons_zero, List.set_cons_succ]) (hCont (gV) _ ⟨hHeld, b0.out, H.out.at_ 0 rfl, GV.out, n_V_Kd.out, n_V_G0.out⟩)
      rintro gV W145 ⟨hHeld, hb, hV, hGV, hf_V_Kd, hf_V_G0⟩
      (try dsimp only at hHeld hV hGV hf_V_Kd hf_V_G0 ⊢)
      replace H := Lib.hid (H.out.join hb hV hGV)
      have n_V_Kd := Lib.hid hf_V_Kd
      have n_V_G0 := Lib.hid hf_V_G0
      clear b0 hb hV hGV hf_V_Kd hf_V_G0
      refine norm_ (a' := ?_) ?_ ?_
      rotate_left
      · simp only [putAll, Act.put, List.setIfInBounds_toArray, List.set_cons_zero, List.set_cons_succ]
        rfl
      apply on 14 none (bq 15 32767) HT_; intro K hK
      obtain ⟨-, cV, cY, cQ, cM, cO, cC⟩ := n6_ H
      apply shzs H 0 59 18 gV (oL q2 lo wg) (fun w_ hw_ => fcons (Fct.set _ hw_ (H.out.at_ 0 rfl) rfl (H.out.fact 0 rfl)) (fcons (mrf_set hw_ (H.out.fact 1 rfl) n_V_Kd.out (H.out.at_ 0 rfl)) (fcons (mrf_set hw_ (H.out.fact 2 rfl) n_V_G0.out (H.out.at_ 0 rfl)) (fnil))))
      clear H cV cY cQ cM cO cC
      intro W146 K_
      have H := (n6_ K_).1; clear K_
      refine hK.out _ _ ⟨H.out.cell 5 rfl, H.out.cell 2 rfl, H.out.cell 1 rfl, (by have h := zone_atI (slc_C (MC_R (H.out.fact 1 rfl)).1) z_ j0 i1; rw [← HWZ.out] at h; exact h)⟩ (fun hHeld => ?_)
      clear hK K
      refine done_ (done_of HT_.out (by kernel_rfl)) ?_
      obtain ⟨-, cV, cY, cQ, cM, cO, cC⟩ := n6_ H
      go_wp2
      clear cV cY cQ cM cO cC
      refine start_ (n := 16) (S := fun W => bW W gM (mL id m u b c z s me o a l (.slice B1 m1 j1) (.slice B2 m2 j2) (.slice B3 m3 j3)) ∧ bW W gV (oL q2 lo wg) ∧ bW W gC (cL id m u b c z s me o a l)) (ds := []) (bq 16 0) (by kernel_rfl) rfl (by kernel_rfl) ⟨H.out.drew.cell 3 rfl, H.out.drew.cell 0 rfl, H.out.drew.cell 5 rfl⟩ (fun hHeld => ?_)
      refine with_tabW tab_revetmentlaw29_JudgeRests_17 bits_revetmentlaw29_JudgeRests_17 (fun HT_ HW_ => ?_)
      have zH := H.out.drew
      generalize W146.drew = W147 at zH hHeld ⊢
      replace H := Lib.hid zH; clear zH
      apply tw 0 105 (bq 16 1) HT_ HW_ hHeld
      apply pu 1 106 (bq 16 3) HT_
      apply pu 2 107 (bq 16 7) HT_
      apply tw 3 108 (bq 16 15) HT_ HW_ hHeld
      apply pu 4 109 (bq 16 31) HT_
      apply pu 5 110 (bq 16 63) HT_
      apply pu 6 111 (bq 16 127) HT_
      apply tw 7 112 (bq 16 255) HT_ HW_ hHeld
      apply pu 8 113 (bq 16 511) HT_
      apply pu 9 114 (bq 16 1023) HT_
      apply on 10 (some 115) (bq 16 2047) HT_; intro K hK
      obtain ⟨-, cV, cY, cQ, cM, cO, cC⟩ := n6_ H
      have hr_ := print_bytes (P := Try.prog) 9 57 5 Try.underlying9 Try.underlying57 Try.underlying5 (wD.extract 0 Y.toNat) W147
      refine event_step rfl (v := .slice (some ⟨W147.heap.size, 0, none⟩) (wD.extract 0 Y.toNat).size (grownCap W147 (wD.extract 0 Y.toNat).size 0 5)) (w1 := Lib.bytesWorld W147 5 (wD.extract 0 Y.toNat)) ?hr ?_
      (case hr => first | (go_simp; done) | (go_simp; rfl))
      clear hr_
      clear cV cY cQ cM cO cC
      have hb : Below W147.heap.size W147 (Lib.bytesWorld W147 5 (wD.extract 0 Y.toNat)) := bytes_below (Below.refl _ _) (Nat.le_refl _) _ _
      have hR : BR (Lib.bytesWorld W147 5 (wD.extract 0 Y.toNat)) (.slice (some ⟨W147.heap.size, 0, none⟩) (wD.extract 0 Y.toNat).size (grownCap W147 (wD.extract 0 Y.toNat).size 0 5)) (bytesOf (wD.extract 0 Y.toNat)) := BR_bytes _ _ (HSX.out) _ (grownCap_ge _ _ _ _)
      generalize Lib.bytesWorld W147 5 (wD.extract 0 Y.toNat) = W148 at hb hR ⊢
      generalize grownCap W147 (wD.extract 0 Y.toNat).size 0 5 = cE_ at hR ⊢
      generalize W147.heap.size = gE_ at hR ⊢
      replace H := Lib.hid ((H.out.called hb).row (BytF (.slice (some ⟨gE_, 0, none⟩) (wD.extract 0 Y.toNat).size cE_) (bytesOf (wD.extract 0 Y.toNat))) (hR))
      clear hb hR
      refine hK.out _ _ ⟨H.out.cell 3 rfl, H.out.cell 0 rfl, H.out.cell 5 rfl⟩ (fun hHeld => ?_)
      clear hK K
      apply nm 0
      apply on 11 (some 116) (bq 16 4095) HT_; intro K hK
      refine gs Try.func39 #[modV id m u b c z s me o a l (.slice B1 m1 j1) (.slice B2 m2 j2) (.slice B3 m3 j3), cmdV 0 0 0 0 (.slice none 0 0) false, .bool false, .int .i64 z_, .agg #[.int .i64 q2, .int .i64 lo, .int .i64 wg], .slice (some ⟨gE_, 0, none⟩) (wD.extract 0 Y.toNat).size cE_] ?_
      refine (HZ3.out _ _ _ _ _ _ (MC_R (H.out.fact 3 rfl)) (by have h := slc_C (BR_slc (H.out.fact 0 rfl)); rw [bytesOf_length] at h; exact h) (by have h := BR_cap (H.out.fact 0 rfl); rw [bytesOf_length] at h; exact h)).mono ?_
      rintro e W149 ⟨rfl, hb⟩
      refine ⟨_, rfl, ?_⟩
      replace H := pc H hb
      clear hb
      refine hK.out _ _ ⟨H.out.cell 3 rfl, H.out.cell 0 rfl, H.out.cell 5 rfl⟩ (fun hHeld => ?_)
      clear hK K
      apply nm 0
      apply pu 12 117 (bq 16 8191) HT_
      apply on 13 (some 118) (bq 16 16383) HT_; intro K hK
      refine gs Try.func34 #[] ?_
      refine (live29_any _).mono ?_
      rintro e W150 ⟨rfl, hb⟩
      refine ⟨_, rfl, ?_⟩
      replace H := pc H hb
      clear hb
      refine hK.out _ _ ⟨H.out.cell 3 rfl, H.out.cell 0 rfl, H.out.cell 5 rfl⟩ (fun hHeld => ?_)
      clear hK K
      apply nm 0
      apply pu 14 119 (bq 16 32767) HT_
      apply pu 15 10 (bq 16 65535) HT_
      refine done_ (done_of HT_.out (by kernel_rfl)) ?_
      obtain ⟨-, cV, cY, cQ, cM, cO, cC⟩ := n6_ H
      go_wp2
      go_ret
      exact ⟨rfl, H.out.below⟩
set_option maxHeartbeats 16000000 in
set_option maxRecDepth 100000 in
theorem rests_out (id m u b c z s me o a l : Int) (Aa : Option Addr) (ca nx : Nat) (z_ os ow og n_ : Int) (D : Mdl) (w : World) (hi : MInv2 id m u b c z s me o a l D) (hbo : BothP id m u b c z s me o a l Aa ca nx w D) (hin : ¬ (0 ≤ z_ ∧ z_ < (D.T.length : Int))) : Calls Try.prog 8 #[.agg #[.int .i64 id, .int .i64 m, .int .i64 u, .int .i64 b, .int .i64 c, .int .i64 z, .int .i64 s, .int .i64 me, .int .i64 o, .int .i64 a, .int .i64 l], .slice Aa nx ca, .int .i64 z_, .agg #[.int .i64 os, .int .i64 ow, .int .i64 og], .int .i64 n_] w fun e w' => e = .returned (.bool true) ∧ Below w.heap.size w w' := by
  have H := Lib.hid (Pk.start w)
  have hk := (rightZ_len hi.1.1).1
  have hjr := fun W => jrest_any id m u b c z s me o a l hk ⟨os, ow, og⟩ n_ W
  have hrr := fun W => rrest_any id m u b c z s me o a l n_ (cutB (sizeC m u b c z s me o a l) ⟨os, ow, og⟩) W
  unfold restB at hjr
  generalize (if cutB (sizeC m u b c z s me o a l) (⟨os, ow, og⟩ : S59) = true then 3 else if n_ = sizeC m u b c z s me o a l then 3 else if n_ = 0 then 0 else 2 : Int) = rr at hjr hrr
  have hsz := fun W => rsize_any id m u b c z s me o a l W
  have hth := fun x y q W h => rthere_any id m u b c z s me o a l x y q D z_ W h
  rw [decide_eq_false hin] at hth
  clear hin
  have HBO := Lib.hid hbo; have HJR := Lib.hid hjr; have HRR := Lib.hid hrr; have HTH := Lib.hid hth
  obtain ⟨fi, hfi⟩ : ∃ f, f = cutB (sizeC m u b c z s me o a l) ⟨os, ow, og⟩ := ⟨_, rfl⟩
  rw [← hfi] at HRR
  unfold cutB at hfi
  dsimp only at hfi
  generalize sizeC m u b c z s me o a l = Z at hsz hfi
  have HSZ := Lib.hid hsz
  have hcs : (os = 3 ∧ fi = decide (ow < Z)) ∨ (¬ os = 3 ∧ fi = false) := by
    rw [hfi]; by_cases h : os = 3 <;> simp [h]
  clear hbo hjr hrr hth hsz hfi hi hk
  go_enter Try.func8, Try.ntmps8
  go_upto_region 4 with first
    | (apply bh H 5 (cL id m u b c z s me o a l) 23; clear H; intro gC W1 H; obtain ⟨-, cC⟩ := n1_ H)
    | (apply bh H 8 (oL os ow og) 59; clear H cC; intro gO W2 H; obtain ⟨-, cO, cC⟩ := n2_ H)
    | (go_at_call 33; refine (HBO.out _ H.out.below).mono ?_; rintro e W3 ⟨⟨B1, m1, j1, B2, m2, j2, B3, m3, j3, Bd1, md1, jd1, Bd2, md2, jd2, Bd3, md3, jd3, rfl, hM, hM2⟩, hb⟩; clear cO cC; have hb0_ := H.out.below.size; replace H := Lib.hid ((H.out.called hb).row (MrF w.heap.size (.slice B1 m1 j1) (.slice B2 m2 j2) (.slice B3 m3 j3) (D)) (MR_lower hM H.out.below.size)); replace H := Lib.hid ((H.out).row (MrF w.heap.size (.slice Bd1 md1 jd1) (.slice Bd2 md2 jd2) (.slice Bd3 md3 jd3) (D)) (MR_lower hM2 hb0_)); clear hb0_; clear hM hM2; clear hb; obtain ⟨-, cO, cC⟩ := n2_ H)
    | (apply bh H 11 (mL 0 0 0 0 0 0 0 0 0 0 0 nil_ nil_ nil_) 53; clear H cO cC; intro gM W4 H; obtain ⟨-, cM, cO, cC⟩ := n3_ H)
    | (apply bh H 12 (mL 0 0 0 0 0 0 0 0 0 0 0 nil_ nil_ nil_) 68; clear H cM cO cC; intro gQ W5 H; obtain ⟨-, cQ, cM, cO, cC⟩ := n4_ H)
    | (apply sh H 1 53 11 gM (mL id m u b c z s me o a l (.slice B1 m1 j1) (.slice B2 m2 j2) (.slice B3 m3 j3)); clear H cQ cM cO cC; intro W6 K_; obtain ⟨H, cQ, cM, cO, cC⟩ := n4_ K_; clear K_)
    | (apply sh H 0 68 12 gQ (mL id m u b c z s me o a l (.slice Bd1 md1 jd1) (.slice Bd2 md2 jd2) (.slice Bd3 md3 jd3)); clear H cQ cM cO cC; intro W7 K_; obtain ⟨H, cQ, cM, cO, cC⟩ := n4_ K_; clear K_)
  go_cut [14] from 19 (fun s14 wx => s14 = .bool fi ∧ Hid (Pk w wx [⟨gQ, 68, (mL id m u b c z s me o a l (.slice Bd1 md1 jd1) (.slice Bd2 md2 jd2) (.slice Bd3 md3 jd3)).toArray⟩, ⟨gM, 53, (mL id m u b c z s me o a l (.slice B1 m1 j1) (.slice B2 m2 j2) (.slice B3 m3 j3)).toArray⟩, ⟨gO, 59, (oL os ow og).toArray⟩, ⟨gC, 23, (cL id m u b c z s me o a l).toArray⟩] [MrF w.heap.size (.slice Bd1 md1 jd1) (.slice Bd2 md2 jd2) (.slice Bd3 md3 jd3) (D), MrF w.heap.size (.slice B1 m1 j1) (.slice B2 m2 j2) (.slice B3 m3 j3) (D)]))
  case first =>
    clear cQ cM cO cC
    rcases hcs with hcs | hcs
    · obtain ⟨h1, hv⟩ := hcs
      have HF := Lib.hid hv; clear hv
      (try have bh1 : (os == 3) = true := beq_iff_eq.mpr h1)
      (try have bh1 : (os == 3) = false := beq_eq_false_iff_ne.mpr h1)
      (try have dh1 : (os != 3) = false := bne_eq_false_iff_eq.mpr h1)
      (try have dh1 : (os != 3) = true := bne_iff_ne.mpr h1)
      (try have Hh1 := Lib.hid h1)
      (try clear h1)
      obtain ⟨-, cQ, cM, cO, cC⟩ := n4_ H
      go_wp2
      clear cQ cM cO cC
      refine start_ (n := 11) (S := fun W => bW W gC (cL id m u b c z s me o a l) ∧ bW W gO (oL os ow og)) (ds := []) (bq 11 0) (by kernel_rfl) rfl (by kernel_rfl) ⟨H.out.drew.cell 3 rfl, H.out.drew.cell 2 rfl⟩ (fun hHeld => ?_)
      refine with_tabW tab_revetmentlaw29_JudgeRests_4 bits_revetmentlaw29_JudgeRests_4 (fun HT_ HW_ => ?_)
      have zH := H.out.drew
      generalize W7.drew = W13 at zH hHeld ⊢
      replace H := Lib.hid zH; clear zH
      apply pu 0 29 (bq 11 1) HT_
      apply tw 1 30 (bq 11 3) HT_ HW_ hHeld
      apply pu 2 31 (bq 11 7) HT_
      apply pu 3 32 (bq 11 15) HT_
      apply pu 4 33 (bq 11 31) HT_
      apply tw 5 34 (bq 11 63) HT_ HW_ hHeld
      apply tw 6 35 (bq 11 127) HT_ HW_ hHeld
      apply on 7 (some 36) (bq 11 255) HT_; intro K hK
      refine gs Try.func41 #[.agg #[.int .i64 id, .int .i64 m, .int .i64 u, .int .i64 b, .int .i64 c, .int .i64 z, .int .i64 s, .int .i64 me, .int .i64 o, .int .i64 a, .int .i64 l]] ?_
      refine (HSZ.out _).mono ?_
      rintro e W14 ⟨rfl, hb⟩
      refine ⟨_, rfl, ?_⟩
      replace H := pc H hb
      clear hb
      refine hK.out _ _ ⟨H.out.cell 3 rfl, H.out.cell 2 rfl⟩ (fun hHeld => ?_)
      clear hK K
      apply nm 0
      apply pu 8 37 (bq 11 511) HT_
      apply pu 9 38 (bq 11 1023) HT_
      apply pu 10 14 (bq 11 2047) HT_
      refine done_ (done_of HT_.out (by kernel_rfl)) ?_
      obtain ⟨-, cQ, cM, cO, cC⟩ := n4_ H
      go_wp2
      go_meet
      exact ⟨by rw [HF.out], H⟩
    · obtain ⟨h1, hv⟩ := hcs
      have HF := Lib.hid hv; clear hv
      (try have bh1 : (os == 3) = true := beq_iff_eq.mpr h1)
      (try have bh1 : (os == 3) = false := beq_eq_false_iff_ne.mpr h1)
      (try have dh1 : (os != 3) = false := bne_eq_false_iff_eq.mpr h1)
      (try have dh1 : (os != 3) = true := bne_iff_ne.mpr h1)
      (try have Hh1 := Lib.hid h1)
      (try clear h1)
      obtain ⟨-, cQ, cM, cO, cC⟩ := n4_ H
      go_wp2
      clear cQ cM cO cC
      refine start_ (n := 11) (S := fun W => bW W gC (cL id m u b c z s me o a l) ∧ bW W gO (oL os ow og)) (ds := []) (bq 11 0) (by kernel_rfl) rfl (by kernel_rfl) ⟨H.out.drew.cell 3 rfl, H.out.drew.cell 2 rfl⟩ (fun hHeld => ?_)
      refine with_tabW tab_revetmentlaw29_JudgeRests_4 bits_revetmentlaw29_JudgeRests_4 (fun HT_ HW_ => ?_)
      have zH := H.out.drew
      generalize W7.drew = W13 at zH hHeld ⊢
      replace H := Lib.hid zH; clear zH
      apply pu 0 29 (bq 11 1) HT_
      apply tw 1 30 (bq 11 3) HT_ HW_ hHeld
      apply pu 2 31 (bq 11 7) HT_
      apply pu 3 32 (bq 11 15) HT_
      apply po 4 33 (bq 11 31) HT_
      apply po 5 34 (bq 11 63) HT_
      apply po 6 35 (bq 11 127) HT_
      apply po 7 36 (bq 11 255) HT_
      apply po 8 37 (bq 11 511) HT_
      apply pu 9 38 (bq 11 1023) HT_
      apply pu 10 14 (bq 11 2047) HT_
      refine done_ (done_of HT_.out (by kernel_rfl)) ?_
      obtain ⟨-, cQ, cM, cO, cC⟩ := n4_ H
      go_wp2
      go_meet
      exact ⟨by rw [HF.out], H⟩
  case rest =>
    clear H hcs cQ cM cO cC
    obtain ⟨rfl, H⟩ := hcut
    obtain ⟨-, cQ, cM, cO, cC⟩ := n4_ H
    go_wp2
    clear cQ cM cO cC
    refine start_ (n := 9) (S := fun W => bW W gC (cL id m u b c z s me o a l) ∧ bW W gO (oL os ow og)) (ds := []) (bq 9 0) (by kernel_rfl) rfl (by kernel_rfl) ⟨H.out.drew.cell 3 rfl, H.out.drew.cell 2 rfl⟩ (fun hHeld => ?_)
    refine with_tabW tab_revetmentlaw29_JudgeRests_5 bits_revetmentlaw29_JudgeRests_5 (fun HT_ HW_ => ?_)
    have zH := H.out.drew
    generalize wc.drew = W81 at zH hHeld ⊢
    replace H := Lib.hid zH; clear zH
    apply tw 0 39 (bq 9 1) HT_ HW_ hHeld
    apply tw 1 40 (bq 9 3) HT_ HW_ hHeld
    apply pu 2 41 (bq 9 7) HT_
    apply tw 4 43 (bq 9 23) HT_ HW_ hHeld
    apply pu 5 44 (bq 9 55) HT_
    apply pu 6 45 (bq 9 119) HT_
    apply on 3 (some 42) (bq 9 127) HT_; intro K hK
    refine gs Try.func42 #[.agg #[.int .i64 id, .int .i64 m, .int .i64 u, .int .i64 b, .int .i64 c, .int .i64 z, .int .i64 s, .int .i64 me, .int .i64 o, .int .i64 a, .int .i64 l], .agg #[.int .i64 os, .int .i64 ow, .int .i64 og], .int .i64 n_] ?_
    refine (HJR.out _).mono ?_
    rintro e W82 ⟨rfl, hb⟩
    refine ⟨_, rfl, ?_⟩
    replace H := pc H hb
    clear hb
    refine hK.out _ _ ⟨H.out.cell 3 rfl, H.out.cell 2 rfl⟩ (fun hHeld => ?_)
    clear hK K
    apply nm 0
    apply on 7 (some 46) (bq 9 255) HT_; intro K hK
    refine gs Try.func43 #[.agg #[.int .i64 id, .int .i64 m, .int .i64 u, .int .i64 b, .int .i64 c, .int .i64 z, .int .i64 s, .int .i64 me, .int .i64 o, .int .i64 a, .int .i64 l], .int .i64 n_, .bool fi] ?_
    refine (HRR.out _).mono ?_
    rintro e W83 ⟨rfl, hb⟩
    refine ⟨_, rfl, ?_⟩
    replace H := pc H hb
    clear hb
    refine hK.out _ _ ⟨H.out.cell 3 rfl, H.out.cell 2 rfl⟩ (fun hHeld => ?_)
    clear hK K
    apply nm 0
    apply pu 8 47 (bq 9 511) HT_
    refine done_ (done_of HT_.out (by kernel_rfl)) ?_
    obtain ⟨-, cQ, cM, cO, cC⟩ := n4_ H
    go_wp2_with first
      | (go_at_call 35; refine (HTH.out _ _ _ _ (MC_R (H.out.fact 0 rfl))).mono ?_; rintro e W84 ⟨rfl, hb⟩; clear cQ cM cO cC; replace H := pc H hb; clear hb; obtain ⟨-, cQ, cM, cO, cC⟩ := n4_ H)
      | (go_at_call 34; refine (live29_any _).mono ?_; rintro e W85 ⟨rfl, hb⟩; clear cQ cM cO cC; replace H := pc H hb; clear hb; obtain ⟨-, cQ, cM, cO, cC⟩ := n4_ H)
    go_ret
    exact ⟨rfl, H.out.below⟩
theorem rests_any (id m u b c z s me o a l : Int) (Aa : Option Addr) (ca : Nat) (xs : List S65) (z_ os ow og n_ : Int) (w : World) (hr : Kd.C k65 w Aa xs.length xs) (hc : xs.length ≤ ca) : Calls Try.prog 8 #[.agg #[.int .i64 id, .int .i64 m, .int .i64 u, .int .i64 b, .int .i64 c, .int .i64 z, .int .i64 s, .int .i64 me, .int .i64 o, .int .i64 a, .int .i64 l], .slice Aa xs.length ca, .int .i64 z_, .agg #[.int .i64 os, .int .i64 ow, .int .i64 og], .int .i64 n_] w fun e w' => e = .returned (.bool true) ∧ Below w.heap.size w w' := by
  rcases both_cases id m u b c z s me o a l Aa ca xs w hr hc with hn | ⟨hk, D, hi, hp⟩
  · exact rests_no id m u b c z s me o a l Aa ca xs.length z_ os ow og n_ ⟨[], [], []⟩ w hn
  by_cases hin : 0 ≤ z_ ∧ z_ < (D.T.length : Int)
  · exact rests_in id m u b c z s me o a l Aa ca xs.length z_ os ow og n_ D w hi hp hin
  · exact rests_out id m u b c z s me o a l Aa ca xs.length z_ os ow og n_ D w hi hp hin
end Go.Proofs.Ytgckcaoncjhgbaa
