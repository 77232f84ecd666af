/- revetmentlaw29.both. -/
/- Words for the laws of 29. -/
import Derived.WalkKit
import Derived.WalkSpells
import Derived.WalkLawsBesides
import Derived.Lib.Hide
import Derived.Test.YtgckcaoncjhgbaaFGw
import Derived.Test.YtgckcaoncjhgbaaFMe
import Derived.Test.YtgckcaoncjhgbaaFMb
import Derived.Test.YtgckcaoncjhgbaaMdDo
import Derived.Test.YtgckcaoncjhgbaaFMd
import Derived.Test.YtgckcaoncjhgbaaRmDo
import Derived.Test.YtgckcaoncjhgbaaRmNew
import Derived.Test.YtgckcaoncjhgbaaFJa
import Derived.Test.YtgckcaoncjhgbaaPLx5
namespace Go.Proofs.Ytgckcaoncjhgbaa
open Go.RowKit Go.Proofs.Ytgckcaoncjhgbaa.PL Go.Proofs.YtgckcaoncjhgbaaW.PrintWords Go.Proofs.YtgckcaoncjhgbaaW.PrintLast
set_option linter.unusedVariables false
set_option linter.unusedSimpArgs false
attribute [local go_sem] List.getElem?_toArray List.getElem?_cons_succ List.getElem?_cons_zero mL tL cL xL rL oL
-- revetmentref07_Check.calls
theorem results_cct {P : Program} {fn : Func} {p u p' : Tmp} {ty ty' : TypeId} (h : fn.results = #[.cell p ty, .cell p' ty', .tmp u]) (tmps : Array Value) (w : World) (g g' : Nat) (t t' : TypeId) (cs cs' : Array Value) (fr fr' : Nat × Nat) (d d' : TypeDesc)
  (hp : tmps.getD p undef = .pointer (some ⟨g, 0, none⟩)) (hg : w.heap[g]? = some (.cells cs t fr))
  (hu : P.underlying ty = some d) (hd : (match d with | .struct _ | .array _ _ => true | _ => false) = true) (hi : (P.info? ty).map (·.size) = some cs.size)
  (hp' : tmps.getD p' undef = .pointer (some ⟨g', 0, none⟩)) (hg' : w.heap[g']? = some (.cells cs' t' fr'))
  (hu' : P.underlying ty' = some d') (hd' : (match d' with | .struct _ | .array _ _ => true | _ => false) = true) (hi' : (P.info? ty').map (·.size) = some cs'.size) :
  (results fn tmps).run P w = .ok (.tuple #[.agg cs, .agg cs', tmps.getD u undef]) w := by
 have h1 : tmps[p]?.getD undef = .pointer (some ⟨g, 0, none⟩) := by simpa using hp
 have h2 : tmps[p']?.getD undef = .pointer (some ⟨g', 0, none⟩) := by simpa using hp'
 simp [results, h, h1, h2, asAddr, run_loadVar_row w g t ty cs fr d hg hu hd hi, run_loadVar_row w g' t' ty' cs' fr' d' hg' hu' hd' hi']
def T_revetmentlaw29_both_8 : Bool × List (List Nat × List Nat) := (true, [([], []), ([], []), ([], []), ([1, 2], [1, 2]), ([3], [3]), ([0, 4], [0, 4]), ([5], [5]), ([6], [6]), ([6], [6]), ([], []), ([], []), ([9, 7, 5, 0, 1, 2, 3, 4, 5, 6, 7, 9, 10], [7, 9]), ([10, 8, 11, 0, 1, 2, 3, 4, 5, 6, 7, 8, 9, 10, 11], [8, 10])])
theorem tab_revetmentlaw29_both_8 : rtab .any (opsOf Try.f33 8) = T_revetmentlaw29_both_8 := by kernel_rfl
theorem bits_revetmentlaw29_both_8 : waitsOk T_revetmentlaw29_both_8.2 [0, 0, 0, 6, 14, 31, 63, 127, 127, 0, 0, 1791, 4095] = true := by kernel_rfl
def T_revetmentlaw29_both_9 : Bool × List (List Nat × List Nat) := (true, [([], []), ([], []), ([], []), ([1, 2], [1, 2]), ([3], [3]), ([0, 4], [0, 4]), ([5], [5]), ([6], [6]), ([6], [6]), ([6], [6]), ([6], [6]), ([], []), ([], []), ([11, 7, 5, 0, 1, 2, 3, 4, 5, 6, 7, 11, 12], [7, 11]), ([8, 13, 0, 1, 2, 3, 4, 5, 6, 7, 8, 11, 12, 13], [8]), ([9, 14, 0, 1, 2, 3, 4, 5, 6, 7, 8, 9, 11, 12, 13, 14], [9]), ([12, 10, 15, 0, 1, 2, 3, 4, 5, 6, 7, 8, 9, 10, 11, 12, 13, 14, 15], [10, 12])])
theorem tab_revetmentlaw29_both_9 : rtab .any (opsOf Try.f33 9) = T_revetmentlaw29_both_9 := by kernel_rfl
theorem bits_revetmentlaw29_both_9 : waitsOk T_revetmentlaw29_both_9.2 [0, 0, 0, 6, 14, 31, 63, 127, 127, 127, 127, 0, 0, 6399, 14847, 31743, 65535] = true := by kernel_rfl
def T_revetmentlaw29_both_10 : Bool × List (List Nat × List Nat) := (true, [([], []), ([], []), ([0, 0], [0]), ([1, 2, 0, 1, 2], [1])])
theorem tab_revetmentlaw29_both_10 : rtab .any (opsOf Try.f33 10) = T_revetmentlaw29_both_10 := by kernel_rfl
theorem bits_revetmentlaw29_both_10 : waitsOk T_revetmentlaw29_both_10.2 [0, 0, 1, 7] = true := by kernel_rfl
def T_revetmentlaw29_both_11 : Bool × List (List Nat × List Nat) := (true, [([], []), ([], []), ([], []), ([2], [2]), ([3], [3]), ([0, 3, 0], [0]), ([1, 5, 0, 1, 5], [1]), ([4, 6, 0, 1, 2, 3, 4, 5, 6], [4])])
theorem tab_revetmentlaw29_both_11 : rtab .any (opsOf Try.f33 11) = T_revetmentlaw29_both_11 := by kernel_rfl
theorem bits_revetmentlaw29_both_11 : waitsOk T_revetmentlaw29_both_11.2 [0, 0, 0, 4, 12, 13, 47, 127] = true := by kernel_rfl
def runM (id m u b c z s me o a l : Int) (D : Mdl) (xs : List S65) : Mdl := xs.foldl (fun D x => (doM id m u b c z s me o a l D x).1) D
theorem run_step (id m u b c z s me o a l : Int) (D0 : Mdl) (xs : List S65) (j : Nat) (D : Mdl) (h : D = runM id m u b c z s me o a l D0 (xs.take j)) (hj : j < xs.length) : (doM id m u b c z s me o a l D (rd_T65 xs (j : Int))).1 = runM id m u b c z s me o a l D0 (xs.take (j + 1)) := by
 have e : rd_T65 xs (j : Int) = xs[j] := by simp [rd_T65, List.getD_eq_getElem?_getD, List.getElem?_eq_getElem hj]
 rw [e, List.take_succ_eq_append_getElem hj, h]
 unfold runM
 rw [List.foldl_append]
 rfl
set_option maxHeartbeats 16000000 in
set_option maxRecDepth 100000 in
theorem both_much (id m u b c z s me o a l : Int) (Aa : Option Addr) (ca : Nat) (xs : List S65) (w : World) (hr : Kd.C k65 w Aa xs.length xs) (hc : xs.length <= ca) (hm : ∀ (W' : World), Below w.heap.size w W' -> Calls Try.prog 24 #[.agg #[.int .i64 id, .int .i64 m, .int .i64 u, .int .i64 b, .int .i64 c, .int .i64 z, .int .i64 s, .int .i64 me, .int .i64 o, .int .i64 a, .int .i64 l], .slice Aa xs.length ca] W' fun e w' => e = .returned (.bool true) /\ Below W'.heap.size W' w') :
  Calls Try.prog 33 #[.agg #[.int .i64 id, .int .i64 m, .int .i64 u, .int .i64 b, .int .i64 c, .int .i64 z, .int .i64 s, .int .i64 me, .int .i64 o, .int .i64 a, .int .i64 l], .slice Aa xs.length ca] w fun e w' => e = .returned (.tuple #[modV 0 0 0 0 0 0 0 0 0 0 0 nil_ nil_ nil_, modV 0 0 0 0 0 0 0 0 0 0 0 nil_ nil_ nil_, .bool false]) /\ Below w.heap.size w w' := by
 have H := Lib.hid (Pk.start w)
 obtain ⟨n, hn⟩ : ∃ n, n = xs.length := ⟨_, rfl⟩
 rw [<- hn] at hr hc hm ⊢
 have HX := Lib.hid hr
 have hck := fun (r : Int) (W : World) (e : checkC id m u b c z s me o a l = r) => revetmentref07_Check.calls id m u b c z s me o a l r W (by unfold revetmentref07_Check.f; rw [e])
 have HM := Lib.hid hm; clear hm hr hn hck
 go_enter Try.func33, Try.ntmps33
 go_wp2_with first
  | (apply bh H 2 (cL id m u b c z s me o a l) 23; clear H; intro gC W1 H; obtain ⟨-, cC⟩ := n1_ H)
  | (apply bh H 4 (mL 0 0 0 0 0 0 0 0 0 0 0 nil_ nil_ nil_) 53; clear H cC; intro gR W2 H; obtain ⟨-, cR, cC⟩ := n2_ H)
  | (apply bh H 5 (mL 0 0 0 0 0 0 0 0 0 0 0 nil_ nil_ nil_) 68; clear H cR cC; intro gS W3 H; obtain ⟨-, cS, cR, cC⟩ := n3_ H)
  | (go_at_call 24; refine (HM.out _ H.out.below).mono ?_; rintro e W4 ⟨rfl, hb⟩; clear cS cR cC; replace H := pc H hb; clear hb; obtain ⟨-, cS, cR, cC⟩ := n3_ H)
  | (apply sn H 1 53 4 gR (mL 0 0 0 0 0 0 0 0 0 0 0 nil_ nil_ nil_))
  | (apply sn H 0 68 5 gS (mL 0 0 0 0 0 0 0 0 0 0 0 nil_ nil_ nil_))
 refine bodyPost_ret (results_cct rfl _ _ gR gS 53 68 (mL 0 0 0 0 0 0 0 0 0 0 0 nil_ nil_ nil_).toArray (mL 0 0 0 0 0 0 0 0 0 0 0 nil_ nil_ nil_).toArray (0, 0) (0, 0) _ _ rfl (H.out.at_ 1 rfl) Try.underlying53 rfl (by kernel_rfl) rfl (H.out.at_ 0 rfl) Try.underlying68 rfl (by kernel_rfl)) rfl ?_
 exact ⟨rfl, H.out.below⟩
set_option maxHeartbeats 16000000 in
set_option maxRecDepth 100000 in
theorem both_no (id m u b c z s me o a l : Int) (Aa : Option Addr) (ca : Nat) (xs : List S65) (w : World) (hr : Kd.C k65 w Aa xs.length xs) (hc : xs.length <= ca) (hm : ∀ (W' : World), Below w.heap.size w W' -> Calls Try.prog 24 #[.agg #[.int .i64 id, .int .i64 m, .int .i64 u, .int .i64 b, .int .i64 c, .int .i64 z, .int .i64 s, .int .i64 me, .int .i64 o, .int .i64 a, .int .i64 l], .slice Aa xs.length ca] W' fun e w' => e = .returned (.bool false) /\ Below W'.heap.size W' w') (hk : ¬ checkC id m u b c z s me o a l = 0) :
  Calls Try.prog 33 #[.agg #[.int .i64 id, .int .i64 m, .int .i64 u, .int .i64 b, .int .i64 c, .int .i64 z, .int .i64 s, .int .i64 me, .int .i64 o, .int .i64 a, .int .i64 l], .slice Aa xs.length ca] w fun e w' => e = .returned (.tuple #[modV 0 0 0 0 0 0 0 0 0 0 0 nil_ nil_ nil_, modV 0 0 0 0 0 0 0 0 0 0 0 nil_ nil_ nil_, .bool false]) /\ Below w.heap.size w w' := by
 have H := Lib.hid (Pk.start w)
 obtain ⟨n, hn⟩ : ∃ n, n = xs.length := ⟨_, rfl⟩
 rw [<- hn] at hr hc hm ⊢
 have HX := Lib.hid hr
 have hck := fun (r : Int) (W : World) (e : checkC id m u b c z s me o a l = r) => revetmentref07_Check.calls id m u b c z s me o a l r W (by unfold revetmentref07_Check.f; rw [e])
 have hck2 := fun W => hck _ W rfl
 clear hck
 generalize checkC id m u b c z s me o a l = E at hk hck2
 have kb : (E == 0) = false := beq_eq_false_iff_ne.mpr hk; have kb2 : (E != 0) = true := bne_iff_ne.mpr hk
 have HM := Lib.hid hm; have HK := Lib.hid hck2; clear hm hr hn hck2
 go_enter Try.func33, Try.ntmps33
 go_wp2_with first
  | (apply bh H 2 (cL id m u b c z s me o a l) 23; clear H; intro gC W1 H; obtain ⟨-, cC⟩ := n1_ H)
  | (apply bh H 4 (mL 0 0 0 0 0 0 0 0 0 0 0 nil_ nil_ nil_) 53; clear H cC; intro gR W2 H; obtain ⟨-, cR, cC⟩ := n2_ H)
  | (apply bh H 5 (mL 0 0 0 0 0 0 0 0 0 0 0 nil_ nil_ nil_) 68; clear H cR cC; intro gS W3 H; obtain ⟨-, cS, cR, cC⟩ := n3_ H)
  | (go_at_call 24; refine (HM.out _ H.out.below).mono ?_; rintro e W4 ⟨rfl, hb⟩; clear cS cR cC; replace H := pc H hb; clear hb; obtain ⟨-, cS, cR, cC⟩ := n3_ H)
  | (go_at_call 13; refine (HK.out _).mono ?_; rintro e W5 ⟨rfl, hb⟩; clear cS cR cC; replace H := pc H hb; clear hb; obtain ⟨-, cS, cR, cC⟩ := n3_ H)
  | (apply sn H 1 53 4 gR (mL 0 0 0 0 0 0 0 0 0 0 0 nil_ nil_ nil_))
  | (apply sn H 0 68 5 gS (mL 0 0 0 0 0 0 0 0 0 0 0 nil_ nil_ nil_))
 refine bodyPost_ret (results_cct rfl _ _ gR gS 53 68 (mL 0 0 0 0 0 0 0 0 0 0 0 nil_ nil_ nil_).toArray (mL 0 0 0 0 0 0 0 0 0 0 0 nil_ nil_ nil_).toArray (0, 0) (0, 0) _ _ rfl (H.out.at_ 1 rfl) Try.underlying53 rfl (by kernel_rfl) rfl (H.out.at_ 0 rfl) Try.underlying68 rfl (by kernel_rfl)) rfl ?_
 exact ⟨rfl, H.out.below⟩
set_option maxHeartbeats 16000000 in
set_option maxRecDepth 100000 in
theorem both_ok (id m u b c z s me o a l : Int) (Aa : Option Addr) (ca : Nat) (xs : List S65) (w : World) (hr : Kd.C k65 w Aa xs.length xs) (hc : xs.length <= ca) (hm : ∀ (W' : World), Below w.heap.size w W' -> Calls Try.prog 24 #[.agg #[.int .i64 id, .int .i64 m, .int .i64 u, .int .i64 b, .int .i64 c, .int .i64 z, .int .i64 s, .int .i64 me, .int .i64 o, .int .i64 a, .int .i64 l], .slice Aa xs.length ca] W' fun e w' => e = .returned (.bool false) /\ Below W'.heap.size W' w') (hk : checkC id m u b c z s me o a l = 0) (h40 : xs.length <= 40) :
  Calls Try.prog 33 #[.agg #[.int .i64 id, .int .i64 m, .int .i64 u, .int .i64 b, .int .i64 c, .int .i64 z, .int .i64 s, .int .i64 me, .int .i64 o, .int .i64 a, .int .i64 l], .slice Aa xs.length ca] w fun e w' => (∃ (B1 : Option Addr) (m1 : Nat) (j1 : Nat) (B2 : Option Addr) (m2 : Nat) (j2 : Nat) (B3 : Option Addr) (m3 : Nat) (j3 : Nat) (Bd1 : Option Addr) (md1 : Nat) (jd1 : Nat) (Bd2 : Option Addr) (md2 : Nat) (jd2 : Nat) (Bd3 : Option Addr) (md3 : Nat) (jd3 : Nat), e = .returned (.tuple #[modV id m u b c z s me o a l (.slice B1 m1 j1) (.slice B2 m2 j2) (.slice B3 m3 j3), modV id m u b c z s me o a l (.slice Bd1 md1 jd1) (.slice Bd2 md2 jd2) (.slice Bd3 md3 jd3), .bool true]) /\ MR w.heap.size w' (.slice B1 m1 j1) (.slice B2 m2 j2) (.slice B3 m3 j3) (runM id m u b c z s me o a l ⟨List.replicate z.toNat z59, List.replicate z.toNat ByteArray.empty, List.replicate z.toNat 0⟩ xs) /\ MR w.heap.size w' (.slice Bd1 md1 jd1) (.slice Bd2 md2 jd2) (.slice Bd3 md3 jd3) (runM id m u b c z s me o a l ⟨List.replicate z.toNat z59, List.replicate z.toNat ByteArray.empty, List.replicate z.toNat 0⟩ xs) /\ MInv2 id m u b c z s me o a l (runM id m u b c z s me o a l ⟨List.replicate z.toNat z59, List.replicate z.toNat ByteArray.empty, List.replicate z.toNat 0⟩ xs)) /\ Below w.heap.size w w' := by
 have H := Lib.hid (Pk.start w)
 obtain ⟨n, hn⟩ : ∃ n, n = xs.length := ⟨_, rfl⟩
 rw [<- hn] at hr hc hm ⊢
 have HX := Lib.hid hr
 have hck := fun (r : Int) (W : World) (e : checkC id m u b c z s me o a l = r) => revetmentref07_Check.calls id m u b c z s me o a l r W (by unfold revetmentref07_Check.f; rw [e])
 rw [<- hn] at h40; have c40 : (n : Int) <= 40 := (by omega)
 have hnew := fun W => mnew_ok id m u b c z s me o a l W hk
 have hb_ := okC_bd (checkC_ok hk).1
 have HRN := Lib.hid (fun W => rmnew_any id m u b c z s me o a l W (by omega) (by omega))
 have HN := Lib.hid hnew; have HK := Lib.hid (fun W => hck 0 W hk); have HI0 := Lib.hid (minv_new id m u b c z s me o a l hk); have HM := Lib.hid hm; have HNX := Lib.hid hn
 clear hnew hck hr hm hb_ hn
 go_enter Try.func33, Try.ntmps33
 go_wp2_with first
  | (apply bh H 2 (cL id m u b c z s me o a l) 23; clear H; intro gC W1 H; obtain ⟨-, cC⟩ := n1_ H)
  | (apply bh H 4 (mL 0 0 0 0 0 0 0 0 0 0 0 nil_ nil_ nil_) 53; clear H cC; intro gR W2 H; obtain ⟨-, cR, cC⟩ := n2_ H)
  | (apply bh H 5 (mL 0 0 0 0 0 0 0 0 0 0 0 nil_ nil_ nil_) 68; clear H cR cC; intro gS W3 H; obtain ⟨-, cS, cR, cC⟩ := n3_ H)
  | (go_at_call 24; refine (HM.out _ H.out.below).mono ?_; rintro e W4 ⟨rfl, hb⟩; clear cS cR cC; replace H := pc H hb; clear hb; obtain ⟨-, cS, cR, cC⟩ := n3_ H)
  | (go_at_call 13; refine (HK.out _).mono ?_; rintro e W5 ⟨rfl, hb⟩; clear cS cR cC; replace H := pc H hb; clear hb; obtain ⟨-, cS, cR, cC⟩ := n3_ H)
  | (go_at_call 22; refine (HN.out _).mono ?_; rintro e W6 ⟨x_, y_, q_, rfl, hM, hb⟩; clear cS cR cC; obtain ⟨B01, m01, j01, B02, m02, j02, B03, m03, j03, rfl, rfl, rfl⟩ := MR_shape hM; replace H := Lib.hid ((H.out.called hb).row (MrF w.heap.size (.slice B01 m01 j01) (.slice B02 m02 j02) (.slice B03 m03 j03) (⟨List.replicate z.toNat z59, List.replicate z.toNat ByteArray.empty, List.replicate z.toNat 0⟩)) (MR_lower hM H.out.below.size)); clear hM; clear hb; obtain ⟨-, cS, cR, cC⟩ := n3_ H)
  | (apply bh H 7 (mL 0 0 0 0 0 0 0 0 0 0 0 nil_ nil_ nil_) 53; clear H cS cR cC; intro gM W7 H; obtain ⟨-, cM, cS, cR, cC⟩ := n4_ H)
  | (apply sh H 0 53 7 gM (mL id m u b c z s me o a l (.slice B01 m01 j01) (.slice B02 m02 j02) (.slice B03 m03 j03)); clear H cM cS cR cC; intro W8 K_; obtain ⟨H, cM, cS, cR, cC⟩ := n4_ K_; clear K_)
  | (go_at_call 27; refine (HRN.out _).mono ?_; rintro e W9 ⟨x_, y_, q_, rfl, hM, hb⟩; clear cM cS cR cC; obtain ⟨B71, m71, j71, B72, m72, j72, B73, m73, j73, rfl, rfl, rfl⟩ := MR_shape hM; replace H := Lib.hid ((H.out.called hb).row (MrF w.heap.size (.slice B71 m71 j71) (.slice B72 m72 j72) (.slice B73 m73 j73) (⟨List.replicate z.toNat z59, List.replicate z.toNat ByteArray.empty, List.replicate z.toNat 0⟩)) (MR_lower hM H.out.below.size)); clear hM; clear hb; obtain ⟨-, cM, cS, cR, cC⟩ := n4_ H)
  | (apply bh H 9 (mL 0 0 0 0 0 0 0 0 0 0 0 nil_ nil_ nil_) 68; clear H cM cS cR cC; intro gQ W10 H; obtain ⟨-, cQ, cM, cS, cR, cC⟩ := n5_ H)
  | (apply sh H 0 68 9 gQ (mL id m u b c z s me o a l (.slice B71 m71 j71) (.slice B72 m72 j72) (.slice B73 m73 j73)); clear H cQ cM cS cR cC; intro W11 K_; obtain ⟨H, cQ, cM, cS, cR, cC⟩ := n5_ K_; clear K_)
 go_loopw [10] (fun v10 wr => ∃ (j : Nat) (D : Mdl) (B1 : Option Addr) (m1 : Nat) (j1 : Nat) (B2 : Option Addr) (m2 : Nat) (j2 : Nat) (B3 : Option Addr) (m3 : Nat) (j3 : Nat) (Bd1 : Option Addr) (md1 : Nat) (jd1 : Nat) (Bd2 : Option Addr) (md2 : Nat) (jd2 : Nat) (Bd3 : Option Addr) (md3 : Nat) (jd3 : Nat), v10 = .int .i64 j /\ j <= n /\ Hid (MInv2 id m u b c z s me o a l D) /\ Hid (D = runM id m u b c z s me o a l ⟨List.replicate z.toNat z59, List.replicate z.toNat ByteArray.empty, List.replicate z.toNat 0⟩ (xs.take j)) /\ Hid (Pk w wr [⟨gQ, 68, (mL id m u b c z s me o a l (.slice Bd1 md1 jd1) (.slice Bd2 md2 jd2) (.slice Bd3 md3 jd3)).toArray⟩, ⟨gM, 53, (mL id m u b c z s me o a l (.slice B1 m1 j1) (.slice B2 m2 j2) (.slice B3 m3 j3)).toArray⟩, ⟨gS, 68, (mL 0 0 0 0 0 0 0 0 0 0 0 nil_ nil_ nil_).toArray⟩, ⟨gR, 53, (mL 0 0 0 0 0 0 0 0 0 0 0 nil_ nil_ nil_).toArray⟩, ⟨gC, 23, (cL id m u b c z s me o a l).toArray⟩] [MrF w.heap.size (.slice Bd1 md1 jd1) (.slice Bd2 md2 jd2) (.slice Bd3 md3 jd3) (D), MrF w.heap.size (.slice B1 m1 j1) (.slice B2 m2 j2) (.slice B3 m3 j3) (D)])) (fun v10 _ => ((n : Int) - intOf v10).toNat)
 case atStart => exact ⟨0, _, B01, m01, j01, B02, m02, j02, B03, m03, j03, B71, m71, j71, B72, m72, j72, B73, m73, j73, rfl, by omega, HI0, Lib.hid rfl, H⟩
 case round =>
  clear H cQ cM cS cR cC
  obtain ⟨j, D, B1, m1, j1, B2, m2, j2, B3, m3, j3, Bd1, md1, jd1, Bd2, md2, jd2, Bd3, md3, jd3, rfl, hj, HI, HD0, H⟩ := hrel
  by_cases hlt : j < n
  ·
   have c1 : (j : Int) < (n : Int) := by omega
   obtain ⟨ad, A4, c4, e, hl4, hat⟩ := cmd_at HX.out j hlt
   subst e
   have q1 : (0 : Int) <= (j : Int) := by omega
   have e2 : wrap64 ((j : Int) + 1) = ((j + 1 : Nat) : Int) := by unfold wrap64; push_cast; omega
   have hdo : ∀ (W : World) (h : MC W (.slice B1 m1 j1) (.slice B2 m2 j2) (.slice B3 m3 j3) D) (hd : Kd.C (Kd.int .u8) W A4 (rd_T65 xs j).f4.length (rd_T65 xs j).f4), Calls Try.prog 26 #[modV id m u b c z s me o a l (.slice B1 m1 j1) (.slice B2 m2 j2) (.slice B3 m3 j3), cmdV (rd_T65 xs j).f0 (rd_T65 xs j).f1 (rd_T65 xs j).f2 (rd_T65 xs j).f3 (.slice A4 (rd_T65 xs j).f4.length c4) (rd_T65 xs j).f5] W (RepP id m u b c z s me o a l (.slice B1 m1 j1) (.slice B2 m2 j2) (.slice B3 m3 j3) D (doM id m u b c z s me o a l D (rd_T65 xs j)).1 (doM id m u b c z s me o a l D (rd_T65 xs j)).2.1 (bytesOf (doM id m u b c z s me o a l D (rd_T65 xs j)).2.2.1) (doM id m u b c z s me o a l D (rd_T65 xs j)).2.2.2 W) := fun W h hd => mdo_any id m u b c z s me o a l (.slice B1 m1 j1) (.slice B2 m2 j2) (.slice B3 m3 j3) D (rd_T65 xs j).f0 (rd_T65 xs j).f1 (rd_T65 xs j).f2 (rd_T65 xs j).f3 A4 c4 (rd_T65 xs j).f4 (rd_T65 xs j).f5 W h HI.out.1 hd hl4
   have hrd : ∀ (W : World) (h : MC W (.slice Bd1 md1 jd1) (.slice Bd2 md2 jd2) (.slice Bd3 md3 jd3) D) (hd : Kd.C (Kd.int .u8) W A4 (rd_T65 xs j).f4.length (rd_T65 xs j).f4), Calls Try.prog 28 #[modV id m u b c z s me o a l (.slice Bd1 md1 jd1) (.slice Bd2 md2 jd2) (.slice Bd3 md3 jd3), cmdV (rd_T65 xs j).f0 (rd_T65 xs j).f1 (rd_T65 xs j).f2 (rd_T65 xs j).f3 (.slice A4 (rd_T65 xs j).f4.length c4) (rd_T65 xs j).f5] W (RsP id m u b c z s me o a l (.slice Bd1 md1 jd1) (.slice Bd2 md2 jd2) (.slice Bd3 md3 jd3) D (doM id m u b c z s me o a l D (rd_T65 xs j)) W) := fun W h hd => rdo_any id m u b c z s me o a l (.slice Bd1 md1 jd1) (.slice Bd2 md2 jd2) (.slice Bd3 md3 jd3) D (rd_T65 xs j).f0 (rd_T65 xs j).f1 (rd_T65 xs j).f2 (rd_T65 xs j).f3 A4 c4 (rd_T65 xs j).f4 (rd_T65 xs j).f5 W h HI.out.1 hd hl4
   have hok := doM_ok HI.out (rd_T65 xs j)
   have hrn := run_step id m u b c z s me o a l ⟨List.replicate z.toNat z59, List.replicate z.toNat ByteArray.empty, List.replicate z.toNat 0⟩ xs j D HD0.out (by rw [<- HNX.out]; exact hlt)
   generalize doM id m u b c z s me o a l D (rd_T65 xs j) = r at hdo hrd hok hrn
   obtain ⟨N, E, dt, zz⟩ := r
   dsimp only at hdo hrd hok hrn
   obtain ⟨lx, hlx⟩ : ∃ q, q = (rd_T65 xs j).f4.length := ⟨_, rfl⟩
   rw [<- hlx] at hdo hrd
   have hat2 := fun (W : World) (hb : Below w.heap.size w W) => hat hb
   rw [<- hlx] at hat2
   have HIN := Lib.hid hok.1; have HD := Lib.hid hdo; have HRD := Lib.hid hrd; have HAT := Lib.hid hat2; clear hdo hrd hok hat hat2 hlx hl4
   have HDN := Lib.hid hrn; clear hrn
   obtain ⟨-, cQ, cM, cS, cR, cC⟩ := n5_ H
   go_wp2
   clear cQ cM cS cR cC
   refine start_ (n := 13) (S := fun W => bW W gM (mL id m u b c z s me o a l (.slice B1 m1 j1) (.slice B2 m2 j2) (.slice B3 m3 j3)) /\ (W.cell? (ad.add (j * 6)) = some (.int .i64 (rd_T65 xs j).f0) /\ W.cell? ⟨(ad.add (j * 6)).block, (ad.add (j * 6)).off + 1, none⟩ = some (.int .i64 (rd_T65 xs j).f1) /\ W.cell? ⟨(ad.add (j * 6)).block, (ad.add (j * 6)).off + 2, none⟩ = some (.int .i64 (rd_T65 xs j).f2) /\ W.cell? ⟨(ad.add (j * 6)).block, (ad.add (j * 6)).off + 3, none⟩ = some (.int .i64 (rd_T65 xs j).f3) /\ W.cell? ⟨(ad.add (j * 6)).block, (ad.add (j * 6)).off + 4, none⟩ = some (.slice A4 lx c4) /\ W.cell? ⟨(ad.add (j * 6)).block, (ad.add (j * 6)).off + 5, none⟩ = some (.bool (rd_T65 xs j).f5))) (ds := []) (bq 13 0) (by kernel_rfl) rfl (by kernel_rfl) ⟨H.out.drew.cell 1 rfl, (HAT.out _ (H.out.drew).below).2⟩ (fun hHeld => ?_)
   refine with_tabW tab_revetmentlaw29_both_8 bits_revetmentlaw29_both_8 (fun HT_ HW_ => ?_)
   have zH := H.out.drew
   generalize wr.drew = W61 at zH hHeld ⊢
   replace H := Lib.hid zH; clear zH
   apply tw 0 41 (bq 13 1) HT_ HW_ hHeld
   apply pu 1 42 (bq 13 3) HT_
   apply pu 2 43 (bq 13 7) HT_
   apply pu 3 44 (bq 13 15) HT_
   apply tw 4 45 (bq 13 31) HT_ HW_ hHeld
   have b0 := Lib.hid (Below.refl W61.heap.size W61)
   refine join_ (σ := Option Addr × Nat × Nat × Option Addr × Nat × Nat × Option Addr × Nat × Nat × Option Addr × Nat × Nat × Nat × Nat) 2 (bq 13 2047) (fun y => [(46, .tuple #[modV id m u b c z s me o a l (.slice y.1 y.2.1 y.2.2.1) (.slice y.2.2.2.1 y.2.2.2.2.1 y.2.2.2.2.2.1) (.slice y.2.2.2.2.2.2.1 y.2.2.2.2.2.2.2.1 y.2.2.2.2.2.2.2.2.1), repV E (.slice y.2.2.2.2.2.2.2.2.2.1 y.2.2.2.2.2.2.2.2.2.2.1 y.2.2.2.2.2.2.2.2.2.2.2.1) zz.f0 zz.f1 zz.f2]), (40, .tuple #[modV id m u b c z s me o a l (.slice y.1 y.2.1 y.2.2.1) (.slice y.2.2.2.1 y.2.2.2.2.1 y.2.2.2.2.2.1) (.slice y.2.2.2.2.2.2.1 y.2.2.2.2.2.2.2.1 y.2.2.2.2.2.2.2.2.1), repV E (.slice y.2.2.2.2.2.2.2.2.2.1 y.2.2.2.2.2.2.2.2.2.2.1 y.2.2.2.2.2.2.2.2.2.2.2.1) zz.f0 zz.f1 zz.f2]), (47, modV id m u b c z s me o a l (.slice y.1 y.2.1 y.2.2.1) (.slice y.2.2.2.1 y.2.2.2.2.1 y.2.2.2.2.2.1) (.slice y.2.2.2.2.2.2.1 y.2.2.2.2.2.2.2.1 y.2.2.2.2.2.2.2.2.1)), (48, repV E (.slice y.2.2.2.2.2.2.2.2.2.1 y.2.2.2.2.2.2.2.2.2.2.1 y.2.2.2.2.2.2.2.2.2.2.2.1) zz.f0 zz.f1 zz.f2), (11, .pointer (some ⟨y.2.2.2.2.2.2.2.2.2.2.2.2.1, 0, none⟩)), (12, .pointer (some ⟨y.2.2.2.2.2.2.2.2.2.2.2.2.2, 0, none⟩))]) (fun y W => (bW W gM (mL id m u b c z s me o a l (.slice B1 m1 j1) (.slice B2 m2 j2) (.slice B3 m3 j3)) /\ (W.cell? (ad.add (j * 6)) = some (.int .i64 (rd_T65 xs j).f0) /\ W.cell? ⟨(ad.add (j * 6)).block, (ad.add (j * 6)).off + 1, none⟩ = some (.int .i64 (rd_T65 xs j).f1) /\ W.cell? ⟨(ad.add (j * 6)).block, (ad.add (j * 6)).off + 2, none⟩ = some (.int .i64 (rd_T65 xs j).f2) /\ W.cell? ⟨(ad.add (j * 6)).block, (ad.add (j * 6)).off + 3, none⟩ = some (.int .i64 (rd_T65 xs j).f3) /\ W.cell? ⟨(ad.add (j * 6)).block, (ad.add (j * 6)).off + 4, none⟩ = some (.slice A4 lx c4) /\ W.cell? ⟨(ad.add (j * 6)).block, (ad.add (j * 6)).off + 5, none⟩ = some (.bool (rd_T65 xs j).f5))) /\ Below W61.heap.size W61 W /\ W.heap[y.2.2.2.2.2.2.2.2.2.2.2.2.1]? = some (.cells (mL 0 0 0 0 0 0 0 0 0 0 0 nil_ nil_ nil_).toArray 53 (0, 0)) /\ W.heap[y.2.2.2.2.2.2.2.2.2.2.2.2.2]? = some (.cells (rL 0 nil_ 0 0 0).toArray 61 (0, 0)) /\ W61.heap.size <= y.2.2.2.2.2.2.2.2.2.2.2.2.1 /\ W61.heap.size <= y.2.2.2.2.2.2.2.2.2.2.2.2.2 /\ y.2.2.2.2.2.2.2.2.2.2.2.2.1 ≠ y.2.2.2.2.2.2.2.2.2.2.2.2.2 /\ BR W (.slice y.2.2.2.2.2.2.2.2.2.1 y.2.2.2.2.2.2.2.2.2.2.1 y.2.2.2.2.2.2.2.2.2.2.2.1) (bytesOf dt) /\ (MrF w.heap.size (.slice y.1 y.2.1 y.2.2.1) (.slice y.2.2.2.1 y.2.2.2.2.1 y.2.2.2.2.2.1) (.slice y.2.2.2.2.2.2.1 y.2.2.2.2.2.2.2.1 y.2.2.2.2.2.2.2.2.1) (N)).P W) ?_ ?_
   rotate_left
   ·
    intro hCont
    refine three_ (i := 5) (j := 9) (k := 10) (Ni := some 46) (Nj := some 11) (Nk := some 12) (bq 13 63) (bq 13 543) (bq 13 1055) rfl rfl rfl rfl rfl rfl (three_of HT_.out (by kernel_rfl)) (by decide) (by decide) (by decide) (fun K hK => ?_) (fun K hK => ?_) (fun K hK => ?_)
    ·
     refine gs Try.func26 #[modV id m u b c z s me o a l (.slice B1 m1 j1) (.slice B2 m2 j2) (.slice B3 m3 j3), cmdV (rd_T65 xs j).f0 (rd_T65 xs j).f1 (rd_T65 xs j).f2 (rd_T65 xs j).f3 (.slice A4 lx c4) (rd_T65 xs j).f5] ?_
     refine (HD.out _ (MC_R (H.out.fact 1 rfl)) (HAT.out _ H.out.below).1).mono ?_
     rintro e W62 hP
     obtain ⟨B51, m51, j51, B52, m52, j52, B53, m53, j53, B54, m54, j54, rfl, hM, hB, hb⟩ := RepP_open hP
     clear hP
     refine ⟨_, rfl, ?_⟩
     have hb0_ := H.out.below.size; replace H := Lib.hid ((H.out.called hb).row (MrF w.heap.size (.slice B51 m51 j51) (.slice B52 m52 j52) (.slice B53 m53 j53) (N)) (MD_R hM ((H.out.called hb).fact 1 rfl) H.out.below.size))
     replace H := Lib.hid ((H.out).row (BytF (.slice B54 m54 j54) (bytesOf dt)) (hB))
     clear hb0_
     replace b0 := Lib.hid (below_step b0.out hb)
     clear hM hB
     clear hb
     refine hK.out _ _ ⟨H.out.cell 1 rfl, (HAT.out _ H.out.below).2⟩ (fun hHeld => ?_)
     clear hK K
     apply nm 0
     apply pu 6 40 (bq 13 127) HT_
     apply pu 7 47 (bq 13 255) HT_
     apply pu 8 48 (bq 13 511) HT_
     refine two_ (i := 9) (j := 10) (Ni := some 11) (Nj := some 12) (bq 13 1023) (bq 13 1535) rfl rfl rfl rfl (two_of HT_.out (by kernel_rfl)) (by decide) (by decide) (fun K hK => ?_) (fun K hK => ?_)
     ·
      obtain ⟨-, cQ, cM, cS, cR, cC⟩ := n5_ H
      apply bhs H 11 (mL 0 0 0 0 0 0 0 0 0 0 0 nil_ nil_ nil_) 53
      clear H cQ cM cS cR cC
      intro gU W63 hg hb H
      have GU := Lib.hid (Nat.le_trans b0.out.size hg)
      replace b0 := Lib.hid (below_step b0.out hb)
      clear hb hg
      refine hK.out _ _ ⟨H.out.cell 2 rfl, (HAT.out _ H.out.below).2⟩ (fun hHeld => ?_)
      clear hK K
      apply nm 0
      apply on 10 (some 12) (bq 13 2047) HT_; intro K hK
      obtain ⟨-, cU, cQ, cM, cS, cR, cC⟩ := n6_ H
      apply bhs H 12 (rL 0 nil_ 0 0 0) 61
      clear H cU cQ cM cS cR cC
      intro gP W64 hg hb H
      have GP := Lib.hid (Nat.le_trans b0.out.size hg)
      replace b0 := Lib.hid (below_step b0.out hb)
      clear hb hg
      refine hK.out _ _ ⟨H.out.cell 3 rfl, (HAT.out _ H.out.below).2⟩ (fun hHeld => ?_)
      clear hK K
      apply nm 0
      have hn_UP := (H.out.dist 0 1 rfl rfl (by decide)).symm
      exact norm_ (by simp only [putAll, Act.put, List.setIfInBounds_toArray, List.set_cons_zero, List.set_cons_succ]) (hCont (B51, m51, j51, B52, m52, j52, B53, m53, j53, B54, m54, j54, gU, gP) _ ⟨hHeld, b0.out, H.out.at_ 1 rfl, H.out.at_ 0 rfl, GU.out, GP.out, hn_UP, H.out.fact 0 rfl, H.out.fact 1 rfl⟩)
     ·
      obtain ⟨-, cQ, cM, cS, cR, cC⟩ := n5_ H
      apply bhs H 12 (rL 0 nil_ 0 0 0) 61
      clear H cQ cM cS cR cC
      intro gP W63 hg hb H
      have GP := Lib.hid (Nat.le_trans b0.out.size hg)
      replace b0 := Lib.hid (below_step b0.out hb)
      clear hb hg
      refine hK.out _ _ ⟨H.out.cell 2 rfl, (HAT.out _ H.out.below).2⟩ (fun hHeld => ?_)
      clear hK K
      apply nm 0
      apply on 9 (some 11) (bq 13 2047) HT_; intro K hK
      obtain ⟨-, cP, cQ, cM, cS, cR, cC⟩ := n6_ H
      apply bhs H 11 (mL 0 0 0 0 0 0 0 0 0 0 0 nil_ nil_ nil_) 53
      clear H cP cQ cM cS cR cC
      intro gU W64 hg hb H
      have GU := Lib.hid (Nat.le_trans b0.out.size hg)
      replace b0 := Lib.hid (below_step b0.out hb)
      clear hb hg
      refine hK.out _ _ ⟨H.out.cell 3 rfl, (HAT.out _ H.out.below).2⟩ (fun hHeld => ?_)
      clear hK K
      apply nm 0
      have hn_UP := H.out.dist 0 1 rfl rfl (by decide)
      exact norm_ (by simp only [putAll, Act.put, List.setIfInBounds_toArray, List.set_cons_zero, List.set_cons_succ]) (hCont (B51, m51, j51, B52, m52, j52, B53, m53, j53, B54, m54, j54, gU, gP) _ ⟨hHeld, b0.out, H.out.at_ 0 rfl, H.out.at_ 1 rfl, GU.out, GP.out, hn_UP, H.out.fact 0 rfl, H.out.fact 1 rfl⟩)
    ·
     obtain ⟨-, cQ, cM, cS, cR, cC⟩ := n5_ H
     apply bhs H 11 (mL 0 0 0 0 0 0 0 0 0 0 0 nil_ nil_ nil_) 53
     clear H cQ cM cS cR cC
     intro gU W62 hg hb H
     have GU := Lib.hid (Nat.le_trans b0.out.size hg)
     replace b0 := Lib.hid (below_step b0.out hb)
     clear hb hg
     refine hK.out _ _ ⟨H.out.cell 2 rfl, (HAT.out _ H.out.below).2⟩ (fun hHeld => ?_)
     clear hK K
     apply nm 0
     refine two_ (i := 5) (j := 10) (Ni := some 46) (Nj := some 12) (bq 13 575) (bq 13 1567) rfl rfl rfl rfl (two_of HT_.out (by kernel_rfl)) (by decide) (by decide) (fun K hK => ?_) (fun K hK => ?_)
     ·
      refine gs Try.func26 #[modV id m u b c z s me o a l (.slice B1 m1 j1) (.slice B2 m2 j2) (.slice B3 m3 j3), cmdV (rd_T65 xs j).f0 (rd_T65 xs j).f1 (rd_T65 xs j).f2 (rd_T65 xs j).f3 (.slice A4 lx c4) (rd_T65 xs j).f5] ?_
      refine (HD.out _ (MC_R (H.out.fact 1 rfl)) (HAT.out _ H.out.below).1).mono ?_
      rintro e W63 hP
      obtain ⟨B51, m51, j51, B52, m52, j52, B53, m53, j53, B54, m54, j54, rfl, hM, hB, hb⟩ := RepP_open hP
      clear hP
      refine ⟨_, rfl, ?_⟩
      have hb0_ := H.out.below.size; replace H := Lib.hid ((H.out.called hb).row (MrF w.heap.size (.slice B51 m51 j51) (.slice B52 m52 j52) (.slice B53 m53 j53) (N)) (MD_R hM ((H.out.called hb).fact 1 rfl) H.out.below.size))
      replace H := Lib.hid ((H.out).row (BytF (.slice B54 m54 j54) (bytesOf dt)) (hB))
      clear hb0_
      replace b0 := Lib.hid (below_step b0.out hb)
      clear hM hB
      clear hb
      refine hK.out _ _ ⟨H.out.cell 2 rfl, (HAT.out _ H.out.below).2⟩ (fun hHeld => ?_)
      clear hK K
      apply nm 0
      apply pu 6 40 (bq 13 639) HT_
      apply pu 7 47 (bq 13 767) HT_
      apply pu 8 48 (bq 13 1023) HT_
      apply on 10 (some 12) (bq 13 2047) HT_; intro K hK
      obtain ⟨-, cU, cQ, cM, cS, cR, cC⟩ := n6_ H
      apply bhs H 12 (rL 0 nil_ 0 0 0) 61
      clear H cU cQ cM cS cR cC
      intro gP W64 hg hb H
      have GP := Lib.hid (Nat.le_trans b0.out.size hg)
      replace b0 := Lib.hid (below_step b0.out hb)
      clear hb hg
      refine hK.out _ _ ⟨H.out.cell 3 rfl, (HAT.out _ H.out.below).2⟩ (fun hHeld => ?_)
      clear hK K
      apply nm 0
      have hn_UP := (H.out.dist 0 1 rfl rfl (by decide)).symm
      exact norm_ (by simp only [putAll, Act.put, List.setIfInBounds_toArray, List.set_cons_zero, List.set_cons_succ]) (hCont (B51, m51, j51, B52, m52, j52, B53, m53, j53, B54, m54, j54, gU, gP) _ ⟨hHeld, b0.out, H.out.at_ 1 rfl, H.out.at_ 0 rfl, GU.out, GP.out, hn_UP, H.out.fact 0 rfl, H.out.fact 1 rfl⟩)
     ·
      obtain ⟨-, cU, cQ, cM, cS, cR, cC⟩ := n6_ H
      apply bhs H 12 (rL 0 nil_ 0 0 0) 61
      clear H cU cQ cM cS cR cC
      intro gP W63 hg hb H
      have GP := Lib.hid (Nat.le_trans b0.out.size hg)
      replace b0 := Lib.hid (below_step b0.out hb)
      clear hb hg
      refine hK.out _ _ ⟨H.out.cell 3 rfl, (HAT.out _ H.out.below).2⟩ (fun hHeld => ?_)
      clear hK K
      apply nm 0
      apply on 5 (some 46) (bq 13 1599) HT_; intro K hK
      refine gs Try.func26 #[modV id m u b c z s me o a l (.slice B1 m1 j1) (.slice B2 m2 j2) (.slice B3 m3 j3), cmdV (rd_T65 xs j).f0 (rd_T65 xs j).f1 (rd_T65 xs j).f2 (rd_T65 xs j).f3 (.slice A4 lx c4) (rd_T65 xs j).f5] ?_
      refine (HD.out _ (MC_R (H.out.fact 1 rfl)) (HAT.out _ H.out.below).1).mono ?_
      rintro e W64 hP
      obtain ⟨B51, m51, j51, B52, m52, j52, B53, m53, j53, B54, m54, j54, rfl, hM, hB, hb⟩ := RepP_open hP
      clear hP
      refine ⟨_, rfl, ?_⟩
      have hb0_ := H.out.below.size; replace H := Lib.hid ((H.out.called hb).row (MrF w.heap.size (.slice B51 m51 j51) (.slice B52 m52 j52) (.slice B53 m53 j53) (N)) (MD_R hM ((H.out.called hb).fact 1 rfl) H.out.below.size))
      replace H := Lib.hid ((H.out).row (BytF (.slice B54 m54 j54) (bytesOf dt)) (hB))
      clear hb0_
      replace b0 := Lib.hid (below_step b0.out hb)
      clear hM hB
      clear hb
      refine hK.out _ _ ⟨H.out.cell 3 rfl, (HAT.out _ H.out.below).2⟩ (fun hHeld => ?_)
      clear hK K
      apply nm 0
      apply pu 6 40 (bq 13 1663) HT_
      apply pu 7 47 (bq 13 1791) HT_
      apply pu 8 48 (bq 13 2047) HT_
      have hn_UP := (H.out.dist 0 1 rfl rfl (by decide)).symm
      exact norm_ (by simp only [putAll, Act.put, List.setIfInBounds_toArray, List.set_cons_zero, List.set_cons_succ]) (hCont (B51, m51, j51, B52, m52, j52, B53, m53, j53, B54, m54, j54, gU, gP) _ ⟨hHeld, b0.out, H.out.at_ 1 rfl, H.out.at_ 0 rfl, GU.out, GP.out, hn_UP, H.out.fact 0 rfl, H.out.fact 1 rfl⟩)
    ·
     obtain ⟨-, cQ, cM, cS, cR, cC⟩ := n5_ H
     apply bhs H 12 (rL 0 nil_ 0 0 0) 61
     clear H cQ cM cS cR cC
     intro gP W62 hg hb H
     have GP := Lib.hid (Nat.le_trans b0.out.size hg)
     replace b0 := Lib.hid (below_step b0.out hb)
     clear hb hg
     refine hK.out _ _ ⟨H.out.cell 2 rfl, (HAT.out _ H.out.below).2⟩ (fun hHeld => ?_)
     clear hK K
     apply nm 0
     refine two_ (i := 5) (j := 9) (Ni := some 46) (Nj := some 11) (bq 13 1087) (bq 13 1567) rfl rfl rfl rfl (two_of HT_.out (by kernel_rfl)) (by decide) (by decide) (fun K hK => ?_) (fun K hK => ?_)
     ·
      refine gs Try.func26 #[modV id m u b c z s me o a l (.slice B1 m1 j1) (.slice B2 m2 j2) (.slice B3 m3 j3), cmdV (rd_T65 xs j).f0 (rd_T65 xs j).f1 (rd_T65 xs j).f2 (rd_T65 xs j).f3 (.slice A4 lx c4) (rd_T65 xs j).f5] ?_
      refine (HD.out _ (MC_R (H.out.fact 1 rfl)) (HAT.out _ H.out.below).1).mono ?_
      rintro e W63 hP
      obtain ⟨B51, m51, j51, B52, m52, j52, B53, m53, j53, B54, m54, j54, rfl, hM, hB, hb⟩ := RepP_open hP
      clear hP
      refine ⟨_, rfl, ?_⟩
      have hb0_ := H.out.below.size; replace H := Lib.hid ((H.out.called hb).row (MrF w.heap.size (.slice B51 m51 j51) (.slice B52 m52 j52) (.slice B53 m53 j53) (N)) (MD_R hM ((H.out.called hb).fact 1 rfl) H.out.below.size))
      replace H := Lib.hid ((H.out).row (BytF (.slice B54 m54 j54) (bytesOf dt)) (hB))
      clear hb0_
      replace b0 := Lib.hid (below_step b0.out hb)
      clear hM hB
      clear hb
      refine hK.out _ _ ⟨H.out.cell 2 rfl, (HAT.out _ H.out.below).2⟩ (fun hHeld => ?_)
      clear hK K
      apply nm 0
      apply pu 6 40 (bq 13 1151) HT_
      apply pu 7 47 (bq 13 1279) HT_
      apply pu 8 48 (bq 13 1535) HT_
      apply on 9 (some 11) (bq 13 2047) HT_; intro K hK
      obtain ⟨-, cP, cQ, cM, cS, cR, cC⟩ := n6_ H
      apply bhs H 11 (mL 0 0 0 0 0 0 0 0 0 0 0 nil_ nil_ nil_) 53
      clear H cP cQ cM cS cR cC
      intro gU W64 hg hb H
      have GU := Lib.hid (Nat.le_trans b0.out.size hg)
      replace b0 := Lib.hid (below_step b0.out hb)
      clear hb hg
      refine hK.out _ _ ⟨H.out.cell 3 rfl, (HAT.out _ H.out.below).2⟩ (fun hHeld => ?_)
      clear hK K
      apply nm 0
      have hn_UP := H.out.dist 0 1 rfl rfl (by decide)
      exact norm_ (by simp only [putAll, Act.put, List.setIfInBounds_toArray, List.set_cons_zero, List.set_cons_succ]) (hCont (B51, m51, j51, B52, m52, j52, B53, m53, j53, B54, m54, j54, gU, gP) _ ⟨hHeld, b0.out, H.out.at_ 0 rfl, H.out.at_ 1 rfl, GU.out, GP.out, hn_UP, H.out.fact 0 rfl, H.out.fact 1 rfl⟩)
     ·
      obtain ⟨-, cP, cQ, cM, cS, cR, cC⟩ := n6_ H
      apply bhs H 11 (mL 0 0 0 0 0 0 0 0 0 0 0 nil_ nil_ nil_) 53
      clear H cP cQ cM cS cR cC
      intro gU W63 hg hb H
      have GU := Lib.hid (Nat.le_trans b0.out.size hg)
      replace b0 := Lib.hid (below_step b0.out hb)
      clear hb hg
      refine hK.out _ _ ⟨H.out.cell 3 rfl, (HAT.out _ H.out.below).2⟩ (fun hHeld => ?_)
      clear hK K
      apply nm 0
      apply on 5 (some 46) (bq 13 1599) HT_; intro K hK
      refine gs Try.func26 #[modV id m u b c z s me o a l (.slice B1 m1 j1) (.slice B2 m2 j2) (.slice B3 m3 j3), cmdV (rd_T65 xs j).f0 (rd_T65 xs j).f1 (rd_T65 xs j).f2 (rd_T65 xs j).f3 (.slice A4 lx c4) (rd_T65 xs j).f5] ?_
      refine (HD.out _ (MC_R (H.out.fact 1 rfl)) (HAT.out _ H.out.below).1).mono ?_
      rintro e W64 hP
      obtain ⟨B51, m51, j51, B52, m52, j52, B53, m53, j53, B54, m54, j54, rfl, hM, hB, hb⟩ := RepP_open hP
      clear hP
      refine ⟨_, rfl, ?_⟩
      have hb0_ := H.out.below.size; replace H := Lib.hid ((H.out.called hb).row (MrF w.heap.size (.slice B51 m51 j51) (.slice B52 m52 j52) (.slice B53 m53 j53) (N)) (MD_R hM ((H.out.called hb).fact 1 rfl) H.out.below.size))
      replace H := Lib.hid ((H.out).row (BytF (.slice B54 m54 j54) (bytesOf dt)) (hB))
      clear hb0_
      replace b0 := Lib.hid (below_step b0.out hb)
      clear hM hB
      clear hb
      refine hK.out _ _ ⟨H.out.cell 3 rfl, (HAT.out _ H.out.below).2⟩ (fun hHeld => ?_)
      clear hK K
      apply nm 0
      apply pu 6 40 (bq 13 1663) HT_
      apply pu 7 47 (bq 13 1791) HT_
      apply pu 8 48 (bq 13 2047) HT_
      have hn_UP := H.out.dist 0 1 rfl rfl (by decide)
      exact norm_ (by simp only [putAll, Act.put, List.setIfInBounds_toArray, List.set_cons_zero, List.set_cons_succ]) (hCont (B51, m51, j51, B52, m52, j52, B53, m53, j53, B54, m54, j54, gU, gP) _ ⟨hHeld, b0.out, H.out.at_ 0 rfl, H.out.at_ 1 rfl, GU.out, GP.out, hn_UP, H.out.fact 0 rfl, H.out.fact 1 rfl⟩)
   rintro ⟨B51, m51, j51, B52, m52, j52, B53, m53, j53, B54, m54, j54, gU, gP⟩ W115 ⟨hHeld, hb, hU, hP, hGU, hGP, hnUP, hrV5, hrG5⟩
   (try dsimp only at hHeld hU hP hGU hGP hnUP hrV5 hrG5 ⊢)
   replace H := Lib.hid (H.out.join2 hb hU hGU hP hGP hnUP)
   replace H := Lib.hid (H.out.row (MrF w.heap.size (.slice B51 m51 j51) (.slice B52 m52 j52) (.slice B53 m53 j53) (N)) hrG5)
   replace H := Lib.hid (H.out.row (BytF (.slice B54 m54 j54) (bytesOf dt)) hrV5)
   clear b0 hb hU hP hGU hGP hnUP hrV5 hrG5
   refine norm_ (a' := ?_) ?_ ?_
   rotate_left
   ·
    simp only [putAll, Act.put, List.setIfInBounds_toArray, List.set_cons_zero, List.set_cons_succ]
    rfl
   apply on 11 none (bq 13 4095) HT_; intro K hK
   obtain ⟨-, cU, cP, cQ, cM, cS, cR, cC⟩ := n7_ H
   apply shs H 0 53 11 gU (mL id m u b c z s me o a l (.slice B51 m51 j51) (.slice B52 m52 j52) (.slice B53 m53 j53))
   clear H cU cP cQ cM cS cR cC
   intro W116 K_
   have H := (n7_ K_).1; clear K_
   refine hK.out _ _ ⟨H.out.cell 3 rfl, (HAT.out _ H.out.below).2⟩ (fun hHeld => ?_)
   clear hK K
   apply on 12 none (bq 13 8191) HT_; intro K hK
   obtain ⟨-, cU, cP, cQ, cM, cS, cR, cC⟩ := n7_ H
   apply shs H 1 61 12 gP (rL E (.slice B54 m54 j54) zz.f0 zz.f1 zz.f2)
   clear H cU cP cQ cM cS cR cC
   intro W117 K_
   have H := (n7_ K_).1; clear K_
   refine hK.out _ _ ⟨H.out.cell 3 rfl, (HAT.out _ H.out.below).2⟩ (fun hHeld => ?_)
   clear hK K
   refine done_ (done_of HT_.out (by kernel_rfl)) ?_
   obtain ⟨-, cU, cP, cQ, cM, cS, cR, cC⟩ := n7_ H
   go_wp2
   clear cU cP cQ cM cS cR cC
   refine start_ (n := 17) (S := fun W => bW W gQ (mL id m u b c z s me o a l (.slice Bd1 md1 jd1) (.slice Bd2 md2 jd2) (.slice Bd3 md3 jd3)) /\ (W.cell? (ad.add (j * 6)) = some (.int .i64 (rd_T65 xs j).f0) /\ W.cell? ⟨(ad.add (j * 6)).block, (ad.add (j * 6)).off + 1, none⟩ = some (.int .i64 (rd_T65 xs j).f1) /\ W.cell? ⟨(ad.add (j * 6)).block, (ad.add (j * 6)).off + 2, none⟩ = some (.int .i64 (rd_T65 xs j).f2) /\ W.cell? ⟨(ad.add (j * 6)).block, (ad.add (j * 6)).off + 3, none⟩ = some (.int .i64 (rd_T65 xs j).f3) /\ W.cell? ⟨(ad.add (j * 6)).block, (ad.add (j * 6)).off + 4, none⟩ = some (.slice A4 lx c4) /\ W.cell? ⟨(ad.add (j * 6)).block, (ad.add (j * 6)).off + 5, none⟩ = some (.bool (rd_T65 xs j).f5))) (ds := []) (bq 17 0) (by kernel_rfl) rfl (by kernel_rfl) ⟨H.out.drew.cell 2 rfl, (HAT.out _ (H.out.drew).below).2⟩ (fun hHeld => ?_)
   refine with_tabW tab_revetmentlaw29_both_9 bits_revetmentlaw29_both_9 (fun HT_ HW_ => ?_)
   have zH := H.out.drew
   generalize W117.drew = W118 at zH hHeld ⊢
   replace H := Lib.hid zH; clear zH
   apply tw 0 50 (bq 17 1) HT_ HW_ hHeld
   apply pu 1 51 (bq 17 3) HT_
   apply pu 2 52 (bq 17 7) HT_
   apply pu 3 53 (bq 17 15) HT_
   apply tw 4 54 (bq 17 31) HT_ HW_ hHeld
   have b0 := Lib.hid (Below.refl W118.heap.size W118)
   refine join_ (σ := Option Addr × Nat × Nat × Option Addr × Nat × Nat × Option Addr × Nat × Nat × Nat × Nat) 4 (bq 17 8191) (fun y => [(55, .tuple #[modV id m u b c z s me o a l (.slice y.1 y.2.1 y.2.2.1) (.slice y.2.2.2.1 y.2.2.2.2.1 y.2.2.2.2.2.1) (.slice y.2.2.2.2.2.2.1 y.2.2.2.2.2.2.2.1 y.2.2.2.2.2.2.2.2.1), .int .i64 E, .string dt, zoV zz]), (49, .tuple #[modV id m u b c z s me o a l (.slice y.1 y.2.1 y.2.2.1) (.slice y.2.2.2.1 y.2.2.2.2.1 y.2.2.2.2.2.1) (.slice y.2.2.2.2.2.2.1 y.2.2.2.2.2.2.2.1 y.2.2.2.2.2.2.2.2.1), .int .i64 E, .string dt, zoV zz]), (56, modV id m u b c z s me o a l (.slice y.1 y.2.1 y.2.2.1) (.slice y.2.2.2.1 y.2.2.2.2.1 y.2.2.2.2.2.1) (.slice y.2.2.2.2.2.2.1 y.2.2.2.2.2.2.2.1 y.2.2.2.2.2.2.2.2.1)), (57, .int .i64 E), (58, .string dt), (59, zoV zz), (13, .pointer (some ⟨y.2.2.2.2.2.2.2.2.2.1, 0, none⟩)), (16, .pointer (some ⟨y.2.2.2.2.2.2.2.2.2.2, 0, none⟩))]) (fun y W => (bW W gQ (mL id m u b c z s me o a l (.slice Bd1 md1 jd1) (.slice Bd2 md2 jd2) (.slice Bd3 md3 jd3)) /\ (W.cell? (ad.add (j * 6)) = some (.int .i64 (rd_T65 xs j).f0) /\ W.cell? ⟨(ad.add (j * 6)).block, (ad.add (j * 6)).off + 1, none⟩ = some (.int .i64 (rd_T65 xs j).f1) /\ W.cell? ⟨(ad.add (j * 6)).block, (ad.add (j * 6)).off + 2, none⟩ = some (.int .i64 (rd_T65 xs j).f2) /\ W.cell? ⟨(ad.add (j * 6)).block, (ad.add (j * 6)).off + 3, none⟩ = some (.int .i64 (rd_T65 xs j).f3) /\ W.cell? ⟨(ad.add (j * 6)).block, (ad.add (j * 6)).off + 4, none⟩ = some (.slice A4 lx c4) /\ W.cell? ⟨(ad.add (j * 6)).block, (ad.add (j * 6)).off + 5, none⟩ = some (.bool (rd_T65 xs j).f5))) /\ Below W118.heap.size W118 W /\ W.heap[y.2.2.2.2.2.2.2.2.2.1]? = some (.cells (mL 0 0 0 0 0 0 0 0 0 0 0 nil_ nil_ nil_).toArray 68 (0, 0)) /\ W.heap[y.2.2.2.2.2.2.2.2.2.2]? = some (.cells (oL 0 0 0).toArray 59 (0, 0)) /\ W118.heap.size <= y.2.2.2.2.2.2.2.2.2.1 /\ W118.heap.size <= y.2.2.2.2.2.2.2.2.2.2 /\ y.2.2.2.2.2.2.2.2.2.1 ≠ y.2.2.2.2.2.2.2.2.2.2 /\ (MrF w.heap.size (.slice y.1 y.2.1 y.2.2.1) (.slice y.2.2.2.1 y.2.2.2.2.1 y.2.2.2.2.2.1) (.slice y.2.2.2.2.2.2.1 y.2.2.2.2.2.2.2.1 y.2.2.2.2.2.2.2.2.1) (N)).P W /\ Value.ownBlock (.slice y.1 y.2.1 y.2.2.1) ≠ some y.2.2.2.2.2.2.2.2.2.2 /\ Value.ownBlock (.slice B51 m51 j51) ≠ some y.2.2.2.2.2.2.2.2.2.2 /\ Value.ownBlock (.slice Bd1 md1 jd1) ≠ some y.2.2.2.2.2.2.2.2.2.2 /\ Value.ownBlock (.slice B1 m1 j1) ≠ some y.2.2.2.2.2.2.2.2.2.2) ?_ ?_
   rotate_left
   ·
    intro hCont
    refine three_ (i := 5) (j := 11) (k := 12) (Ni := some 55) (Nj := some 13) (Nk := some 16) (bq 17 63) (bq 17 2079) (bq 17 4127) rfl rfl rfl rfl rfl rfl (three_of HT_.out (by kernel_rfl)) (by decide) (by decide) (by decide) (fun K hK => ?_) (fun K hK => ?_) (fun K hK => ?_)
    ·
     refine gs Try.func28 #[modV id m u b c z s me o a l (.slice Bd1 md1 jd1) (.slice Bd2 md2 jd2) (.slice Bd3 md3 jd3), cmdV (rd_T65 xs j).f0 (rd_T65 xs j).f1 (rd_T65 xs j).f2 (rd_T65 xs j).f3 (.slice A4 lx c4) (rd_T65 xs j).f5] ?_
     refine (HRD.out _ (MC_R (H.out.fact 2 rfl)) (HAT.out _ H.out.below).1).mono ?_
     rintro e W119 hP
     obtain ⟨B61, m61, j61, B62, m62, j62, B63, m63, j63, rfl, hM, hb⟩ := RsP_open hP
     clear hP
     refine ⟨_, rfl, ?_⟩
     replace H := Lib.hid ((H.out.called hb).row (MrF w.heap.size (.slice B61 m61 j61) (.slice B62 m62 j62) (.slice B63 m63 j63) (N)) (MD_R hM ((H.out.called hb).fact 2 rfl) H.out.below.size))
     replace b0 := Lib.hid (below_step b0.out hb)
     clear hM
     clear hb
     refine hK.out _ _ ⟨H.out.cell 2 rfl, (HAT.out _ H.out.below).2⟩ (fun hHeld => ?_)
     clear hK K
     apply nm 0
     apply pu 6 49 (bq 17 127) HT_
     apply pu 7 56 (bq 17 255) HT_
     apply pu 8 57 (bq 17 511) HT_
     apply pu 9 58 (bq 17 1023) HT_
     apply pu 10 59 (bq 17 2047) HT_
     refine two_ (i := 11) (j := 12) (Ni := some 13) (Nj := some 16) (bq 17 4095) (bq 17 6143) rfl rfl rfl rfl (two_of HT_.out (by kernel_rfl)) (by decide) (by decide) (fun K hK => ?_) (fun K hK => ?_)
     ·
      obtain ⟨-, cU, cP, cQ, cM, cS, cR, cC⟩ := n7_ H
      apply bhs H 13 (mL 0 0 0 0 0 0 0 0 0 0 0 nil_ nil_ nil_) 68
      clear H cU cP cQ cM cS cR cC
      intro gV W120 hg hb H
      have GV := Lib.hid (Nat.le_trans b0.out.size hg)
      replace b0 := Lib.hid (below_step b0.out hb)
      clear hb hg
      refine hK.out _ _ ⟨H.out.cell 3 rfl, (HAT.out _ H.out.below).2⟩ (fun hHeld => ?_)
      clear hK K
      apply nm 0
      apply on 12 (some 16) (bq 17 8191) HT_; intro K hK
      obtain ⟨-, cV, cU, cP, cQ, cM, cS, cR, cC⟩ := n8_ H
      apply bhs H 16 (oL 0 0 0) 59
      have HO_ := H
      clear H cV cU cP cQ cM cS cR cC
      intro gZ W121 hg hb H
      have n_Z_K6 := Lib.hid (mrf_lt (HO_.out.fact 0 rfl) hg)
      have n_Z_G5 := Lib.hid (mrf_lt (HO_.out.fact 2 rfl) hg)
      have n_Z_Kd := Lib.hid (mrf_lt (HO_.out.fact 3 rfl) hg)
      have n_Z_G0 := Lib.hid (mrf_lt (HO_.out.fact 4 rfl) hg)
      clear HO_
      have GZ := Lib.hid (Nat.le_trans b0.out.size hg)
      replace b0 := Lib.hid (below_step b0.out hb)
      clear hb hg
      refine hK.out _ _ ⟨H.out.cell 4 rfl, (HAT.out _ H.out.below).2⟩ (fun hHeld => ?_)
      clear hK K
      apply nm 0
      have hn_VZ := (H.out.dist 0 1 rfl rfl (by decide)).symm
      exact norm_ (by simp only [putAll, Act.put, List.setIfInBounds_toArray, List.set_cons_zero, List.set_cons_succ]) (hCont (B61, m61, j61, B62, m62, j62, B63, m63, j63, gV, gZ) _ ⟨hHeld, b0.out, H.out.at_ 1 rfl, H.out.at_ 0 rfl, GV.out, GZ.out, hn_VZ, H.out.fact 0 rfl, n_Z_K6.out, n_Z_G5.out, n_Z_Kd.out, n_Z_G0.out⟩)
     ·
      obtain ⟨-, cU, cP, cQ, cM, cS, cR, cC⟩ := n7_ H
      apply bhs H 16 (oL 0 0 0) 59
      have HO_ := H
      clear H cU cP cQ cM cS cR cC
      intro gZ W120 hg hb H
      have n_Z_K6 := Lib.hid (mrf_lt (HO_.out.fact 0 rfl) hg)
      have n_Z_G5 := Lib.hid (mrf_lt (HO_.out.fact 2 rfl) hg)
      have n_Z_Kd := Lib.hid (mrf_lt (HO_.out.fact 3 rfl) hg)
      have n_Z_G0 := Lib.hid (mrf_lt (HO_.out.fact 4 rfl) hg)
      clear HO_
      have GZ := Lib.hid (Nat.le_trans b0.out.size hg)
      replace b0 := Lib.hid (below_step b0.out hb)
      clear hb hg
      refine hK.out _ _ ⟨H.out.cell 3 rfl, (HAT.out _ H.out.below).2⟩ (fun hHeld => ?_)
      clear hK K
      apply nm 0
      apply on 11 (some 13) (bq 17 8191) HT_; intro K hK
      obtain ⟨-, cZ, cU, cP, cQ, cM, cS, cR, cC⟩ := n8_ H
      apply bhs H 13 (mL 0 0 0 0 0 0 0 0 0 0 0 nil_ nil_ nil_) 68
      clear H cZ cU cP cQ cM cS cR cC
      intro gV W121 hg hb H
      have GV := Lib.hid (Nat.le_trans b0.out.size hg)
      replace b0 := Lib.hid (below_step b0.out hb)
      clear hb hg
      refine hK.out _ _ ⟨H.out.cell 4 rfl, (HAT.out _ H.out.below).2⟩ (fun hHeld => ?_)
      clear hK K
      apply nm 0
      have hn_VZ := H.out.dist 0 1 rfl rfl (by decide)
      exact norm_ (by simp only [putAll, Act.put, List.setIfInBounds_toArray, List.set_cons_zero, List.set_cons_succ]) (hCont (B61, m61, j61, B62, m62, j62, B63, m63, j63, gV, gZ) _ ⟨hHeld, b0.out, H.out.at_ 0 rfl, H.out.at_ 1 rfl, GV.out, GZ.out, hn_VZ, H.out.fact 0 rfl, n_Z_K6.out, n_Z_G5.out, n_Z_Kd.out, n_Z_G0.out⟩)
    ·
     obtain ⟨-, cU, cP, cQ, cM, cS, cR, cC⟩ := n7_ H
     apply bhs H 13 (mL 0 0 0 0 0 0 0 0 0 0 0 nil_ nil_ nil_) 68
     clear H cU cP cQ cM cS cR cC
     intro gV W119 hg hb H
     have GV := Lib.hid (Nat.le_trans b0.out.size hg)
     replace b0 := Lib.hid (below_step b0.out hb)
     clear hb hg
     refine hK.out _ _ ⟨H.out.cell 3 rfl, (HAT.out _ H.out.below).2⟩ (fun hHeld => ?_)
     clear hK K
     apply nm 0
     refine two_ (i := 5) (j := 12) (Ni := some 55) (Nj := some 16) (bq 17 2111) (bq 17 6175) rfl rfl rfl rfl (two_of HT_.out (by kernel_rfl)) (by decide) (by decide) (fun K hK => ?_) (fun K hK => ?_)
     ·
      refine gs Try.func28 #[modV id m u b c z s me o a l (.slice Bd1 md1 jd1) (.slice Bd2 md2 jd2) (.slice Bd3 md3 jd3), cmdV (rd_T65 xs j).f0 (rd_T65 xs j).f1 (rd_T65 xs j).f2 (rd_T65 xs j).f3 (.slice A4 lx c4) (rd_T65 xs j).f5] ?_
      refine (HRD.out _ (MC_R (H.out.fact 2 rfl)) (HAT.out _ H.out.below).1).mono ?_
      rintro e W120 hP
      obtain ⟨B61, m61, j61, B62, m62, j62, B63, m63, j63, rfl, hM, hb⟩ := RsP_open hP
      clear hP
      refine ⟨_, rfl, ?_⟩
      replace H := Lib.hid ((H.out.called hb).row (MrF w.heap.size (.slice B61 m61 j61) (.slice B62 m62 j62) (.slice B63 m63 j63) (N)) (MD_R hM ((H.out.called hb).fact 2 rfl) H.out.below.size))
      replace b0 := Lib.hid (below_step b0.out hb)
      clear hM
      clear hb
      refine hK.out _ _ ⟨H.out.cell 3 rfl, (HAT.out _ H.out.below).2⟩ (fun hHeld => ?_)
      clear hK K
      apply nm 0
      apply pu 6 49 (bq 17 2175) HT_
      apply pu 7 56 (bq 17 2303) HT_
      apply pu 8 57 (bq 17 2559) HT_
      apply pu 9 58 (bq 17 3071) HT_
      apply pu 10 59 (bq 17 4095) HT_
      apply on 12 (some 16) (bq 17 8191) HT_; intro K hK
      obtain ⟨-, cV, cU, cP, cQ, cM, cS, cR, cC⟩ := n8_ H
      apply bhs H 16 (oL 0 0 0) 59
      have HO_ := H
      clear H cV cU cP cQ cM cS cR cC
      intro gZ W121 hg hb H
      have n_Z_K6 := Lib.hid (mrf_lt (HO_.out.fact 0 rfl) hg)
      have n_Z_G5 := Lib.hid (mrf_lt (HO_.out.fact 2 rfl) hg)
      have n_Z_Kd := Lib.hid (mrf_lt (HO_.out.fact 3 rfl) hg)
      have n_Z_G0 := Lib.hid (mrf_lt (HO_.out.fact 4 rfl) hg)
      clear HO_
      have GZ := Lib.hid (Nat.le_trans b0.out.size hg)
      replace b0 := Lib.hid (below_step b0.out hb)
      clear hb hg
      refine hK.out _ _ ⟨H.out.cell 4 rfl, (HAT.out _ H.out.below).2⟩ (fun hHeld => ?_)
      clear hK K
      apply nm 0
      have hn_VZ := (H.out.dist 0 1 rfl rfl (by decide)).symm
      exact norm_ (by simp only [putAll, Act.put, List.setIfInBounds_toArray, List.set_cons_zero, List.set_cons_succ]) (hCont (B61, m61, j61, B62, m62, j62, B63, m63, j63, gV, gZ) _ ⟨hHeld, b0.out, H.out.at_ 1 rfl, H.out.at_ 0 rfl, GV.out, GZ.out, hn_VZ, H.out.fact 0 rfl, n_Z_K6.out, n_Z_G5.out, n_Z_Kd.out, n_Z_G0.out⟩)
     ·
      obtain ⟨-, cV, cU, cP, cQ, cM, cS, cR, cC⟩ := n8_ H
      apply bhs H 16 (oL 0 0 0) 59
      have HO_ := H
      clear H cV cU cP cQ cM cS cR cC
      intro gZ W120 hg hb H
      have n_Z_G5 := Lib.hid (mrf_lt (HO_.out.fact 1 rfl) hg)
      have n_Z_Kd := Lib.hid (mrf_lt (HO_.out.fact 2 rfl) hg)
      have n_Z_G0 := Lib.hid (mrf_lt (HO_.out.fact 3 rfl) hg)
      clear HO_
      have GZ := Lib.hid (Nat.le_trans b0.out.size hg)
      replace b0 := Lib.hid (below_step b0.out hb)
      clear hb hg
      refine hK.out _ _ ⟨H.out.cell 4 rfl, (HAT.out _ H.out.below).2⟩ (fun hHeld => ?_)
      clear hK K
      apply nm 0
      apply on 5 (some 55) (bq 17 6207) HT_; intro K hK
      refine gs Try.func28 #[modV id m u b c z s me o a l (.slice Bd1 md1 jd1) (.slice Bd2 md2 jd2) (.slice Bd3 md3 jd3), cmdV (rd_T65 xs j).f0 (rd_T65 xs j).f1 (rd_T65 xs j).f2 (rd_T65 xs j).f3 (.slice A4 lx c4) (rd_T65 xs j).f5] ?_
      refine (HRD.out _ (MC_R (H.out.fact 2 rfl)) (HAT.out _ H.out.below).1).mono ?_
      rintro e W121 hP
      obtain ⟨B61, m61, j61, B62, m62, j62, B63, m63, j63, rfl, hM, hb⟩ := RsP_open hP
      clear hP
      have n_Z_K6 := Lib.hid (mrd_far hM n_Z_Kd.out (blk_lt (H.out.at_ 0 rfl)))
      refine ⟨_, rfl, ?_⟩
      replace H := Lib.hid ((H.out.called hb).row (MrF w.heap.size (.slice B61 m61 j61) (.slice B62 m62 j62) (.slice B63 m63 j63) (N)) (MD_R hM ((H.out.called hb).fact 2 rfl) H.out.below.size))
      replace b0 := Lib.hid (below_step b0.out hb)
      clear hM
      clear hb
      refine hK.out _ _ ⟨H.out.cell 4 rfl, (HAT.out _ H.out.below).2⟩ (fun hHeld => ?_)
      clear hK K
      apply nm 0
      apply pu 6 49 (bq 17 6271) HT_
      apply pu 7 56 (bq 17 6399) HT_
      apply pu 8 57 (bq 17 6655) HT_
      apply pu 9 58 (bq 17 7167) HT_
      apply pu 10 59 (bq 17 8191) HT_
      have hn_VZ := (H.out.dist 0 1 rfl rfl (by decide)).symm
      exact norm_ (by simp only [putAll, Act.put, List.setIfInBounds_toArray, List.set_cons_zero, List.set_cons_succ]) (hCont (B61, m61, j61, B62, m62, j62, B63, m63, j63, gV, gZ) _ ⟨hHeld, b0.out, H.out.at_ 1 rfl, H.out.at_ 0 rfl, GV.out, GZ.out, hn_VZ, H.out.fact 0 rfl, n_Z_K6.out, n_Z_G5.out, n_Z_Kd.out, n_Z_G0.out⟩)
    ·
     obtain ⟨-, cU, cP, cQ, cM, cS, cR, cC⟩ := n7_ H
     apply bhs H 16 (oL 0 0 0) 59
     have HO_ := H
     clear H cU cP cQ cM cS cR cC
     intro gZ W119 hg hb H
     have n_Z_G5 := Lib.hid (mrf_lt (HO_.out.fact 1 rfl) hg)
     have n_Z_Kd := Lib.hid (mrf_lt (HO_.out.fact 2 rfl) hg)
     have n_Z_G0 := Lib.hid (mrf_lt (HO_.out.fact 3 rfl) hg)
     clear HO_
     have GZ := Lib.hid (Nat.le_trans b0.out.size hg)
     replace b0 := Lib.hid (below_step b0.out hb)
     clear hb hg
     refine hK.out _ _ ⟨H.out.cell 3 rfl, (HAT.out _ H.out.below).2⟩ (fun hHeld => ?_)
     clear hK K
     apply nm 0
     refine two_ (i := 5) (j := 11) (Ni := some 55) (Nj := some 13) (bq 17 4159) (bq 17 6175) rfl rfl rfl rfl (two_of HT_.out (by kernel_rfl)) (by decide) (by decide) (fun K hK => ?_) (fun K hK => ?_)
     ·
      refine gs Try.func28 #[modV id m u b c z s me o a l (.slice Bd1 md1 jd1) (.slice Bd2 md2 jd2) (.slice Bd3 md3 jd3), cmdV (rd_T65 xs j).f0 (rd_T65 xs j).f1 (rd_T65 xs j).f2 (rd_T65 xs j).f3 (.slice A4 lx c4) (rd_T65 xs j).f5] ?_
      refine (HRD.out _ (MC_R (H.out.fact 2 rfl)) (HAT.out _ H.out.below).1).mono ?_
      rintro e W120 hP
      obtain ⟨B61, m61, j61, B62, m62, j62, B63, m63, j63, rfl, hM, hb⟩ := RsP_open hP
      clear hP
      have n_Z_K6 := Lib.hid (mrd_far hM n_Z_Kd.out (blk_lt (H.out.at_ 0 rfl)))
      refine ⟨_, rfl, ?_⟩
      replace H := Lib.hid ((H.out.called hb).row (MrF w.heap.size (.slice B61 m61 j61) (.slice B62 m62 j62) (.slice B63 m63 j63) (N)) (MD_R hM ((H.out.called hb).fact 2 rfl) H.out.below.size))
      replace b0 := Lib.hid (below_step b0.out hb)
      clear hM
      clear hb
      refine hK.out _ _ ⟨H.out.cell 3 rfl, (HAT.out _ H.out.below).2⟩ (fun hHeld => ?_)
      clear hK K
      apply nm 0
      apply pu 6 49 (bq 17 4223) HT_
      apply pu 7 56 (bq 17 4351) HT_
      apply pu 8 57 (bq 17 4607) HT_
      apply pu 9 58 (bq 17 5119) HT_
      apply pu 10 59 (bq 17 6143) HT_
      apply on 11 (some 13) (bq 17 8191) HT_; intro K hK
      obtain ⟨-, cZ, cU, cP, cQ, cM, cS, cR, cC⟩ := n8_ H
      apply bhs H 13 (mL 0 0 0 0 0 0 0 0 0 0 0 nil_ nil_ nil_) 68
      clear H cZ cU cP cQ cM cS cR cC
      intro gV W121 hg hb H
      have GV := Lib.hid (Nat.le_trans b0.out.size hg)
      replace b0 := Lib.hid (below_step b0.out hb)
      clear hb hg
      refine hK.out _ _ ⟨H.out.cell 4 rfl, (HAT.out _ H.out.below).2⟩ (fun hHeld => ?_)
      clear hK K
      apply nm 0
      have hn_VZ := H.out.dist 0 1 rfl rfl (by decide)
      exact norm_ (by simp only [putAll, Act.put, List.setIfInBounds_toArray, List.set_cons_zero, List.set_cons_succ]) (hCont (B61, m61, j61, B62, m62, j62, B63, m63, j63, gV, gZ) _ ⟨hHeld, b0.out, H.out.at_ 0 rfl, H.out.at_ 1 rfl, GV.out, GZ.out, hn_VZ, H.out.fact 0 rfl, n_Z_K6.out, n_Z_G5.out, n_Z_Kd.out, n_Z_G0.out⟩)
     ·
      obtain ⟨-, cZ, cU, cP, cQ, cM, cS, cR, cC⟩ := n8_ H
      apply bhs H 13 (mL 0 0 0 0 0 0 0 0 0 0 0 nil_ nil_ nil_) 68
      clear H cZ cU cP cQ cM cS cR cC
      intro gV W120 hg hb H
      have GV := Lib.hid (Nat.le_trans b0.out.size hg)
      replace b0 := Lib.hid (below_step b0.out hb)
      clear hb hg
      refine hK.out _ _ ⟨H.out.cell 4 rfl, (HAT.out _ H.out.below).2⟩ (fun hHeld => ?_)
      clear hK K
      apply nm 0
      apply on 5 (some 55) (bq 17 6207) HT_; intro K hK
      refine gs Try.func28 #[modV id m u b c z s me o a l (.slice Bd1 md1 jd1) (.slice Bd2 md2 jd2) (.slice Bd3 md3 jd3), cmdV (rd_T65 xs j).f0 (rd_T65 xs j).f1 (rd_T65 xs j).f2 (rd_T65 xs j).f3 (.slice A4 lx c4) (rd_T65 xs j).f5] ?_
      refine (HRD.out _ (MC_R (H.out.fact 2 rfl)) (HAT.out _ H.out.below).1).mono ?_
      rintro e W121 hP
      obtain ⟨B61, m61, j61, B62, m62, j62, B63, m63, j63, rfl, hM, hb⟩ := RsP_open hP
      clear hP
      have n_Z_K6 := Lib.hid (mrd_far hM n_Z_Kd.out (blk_lt (H.out.at_ 1 rfl)))
      refine ⟨_, rfl, ?_⟩
      replace H := Lib.hid ((H.out.called hb).row (MrF w.heap.size (.slice B61 m61 j61) (.slice B62 m62 j62) (.slice B63 m63 j63) (N)) (MD_R hM ((H.out.called hb).fact 2 rfl) H.out.below.size))
      replace b0 := Lib.hid (below_step b0.out hb)
      clear hM
      clear hb
      refine hK.out _ _ ⟨H.out.cell 4 rfl, (HAT.out _ H.out.below).2⟩ (fun hHeld => ?_)
      clear hK K
      apply nm 0
      apply pu 6 49 (bq 17 6271) HT_
      apply pu 7 56 (bq 17 6399) HT_
      apply pu 8 57 (bq 17 6655) HT_
      apply pu 9 58 (bq 17 7167) HT_
      apply pu 10 59 (bq 17 8191) HT_
      have hn_VZ := H.out.dist 0 1 rfl rfl (by decide)
      exact norm_ (by simp only [putAll, Act.put, List.setIfInBounds_toArray, List.set_cons_zero, List.set_cons_succ]) (hCont (B61, m61, j61, B62, m62, j62, B63, m63, j63, gV, gZ) _ ⟨hHeld, b0.out, H.out.at_ 0 rfl, H.out.at_ 1 rfl, GV.out, GZ.out, hn_VZ, H.out.fact 0 rfl, n_Z_K6.out, n_Z_G5.out, n_Z_Kd.out, n_Z_G0.out⟩)
   rintro ⟨B61, m61, j61, B62, m62, j62, B63, m63, j63, gV, gZ⟩ W172 ⟨hHeld, hb, hV, hZ, hGV, hGZ, hnVZ, hrK6, hf_Z_K6, hf_Z_G5, hf_Z_Kd, hf_Z_G0⟩
   (try dsimp only at hHeld hV hZ hGV hGZ hnVZ hrK6 hf_Z_K6 hf_Z_G5 hf_Z_Kd hf_Z_G0 ⊢)
   replace H := Lib.hid (H.out.join2 hb hV hGV hZ hGZ hnVZ)
   replace H := Lib.hid (H.out.row (MrF w.heap.size (.slice B61 m61 j61) (.slice B62 m62 j62) (.slice B63 m63 j63) (N)) hrK6)
   have n_Z_K6 := Lib.hid hf_Z_K6
   have n_Z_G5 := Lib.hid hf_Z_G5
   have n_Z_Kd := Lib.hid hf_Z_Kd
   have n_Z_G0 := Lib.hid hf_Z_G0
   clear b0 hb hV hZ hGV hGZ hnVZ hrK6 hf_Z_K6 hf_Z_G5 hf_Z_Kd hf_Z_G0
   refine norm_ (a' := ?_) ?_ ?_
   rotate_left
   ·
    simp only [putAll, Act.put, List.setIfInBounds_toArray, List.set_cons_zero, List.set_cons_succ]
    rfl
   apply on 13 none (bq 17 16383) HT_; intro K hK
   obtain ⟨-, cV, cZ, cU, cP, cQ, cM, cS, cR, cC⟩ := n9_ H
   apply shs H 0 68 13 gV (mL id m u b c z s me o a l (.slice B61 m61 j61) (.slice B62 m62 j62) (.slice B63 m63 j63))
   clear H cV cZ cU cP cQ cM cS cR cC
   intro W173 K_
   have H := (n9_ K_).1; clear K_
   refine hK.out _ _ ⟨H.out.cell 4 rfl, (HAT.out _ H.out.below).2⟩ (fun hHeld => ?_)
   clear hK K
   apply pu 14 14 (bq 17 32767) HT_
   apply pu 15 15 (bq 17 65535) HT_
   apply on 16 none (bq 17 131071) HT_; intro K hK
   obtain ⟨-, cV, cZ, cU, cP, cQ, cM, cS, cR, cC⟩ := n9_ H
   apply shzs H 1 59 16 gZ (oL zz.f0 zz.f1 zz.f2) (fun w_ hw_ => fcons (mrf_set hw_ (H.out.fact 0 rfl) n_Z_K6.out (H.out.at_ 1 rfl)) (fcons (Fct.set _ hw_ (H.out.at_ 1 rfl) rfl (H.out.fact 1 rfl)) (fcons (mrf_set hw_ (H.out.fact 2 rfl) n_Z_G5.out (H.out.at_ 1 rfl)) (fcons (mrf_set hw_ (H.out.fact 3 rfl) n_Z_Kd.out (H.out.at_ 1 rfl)) (fcons (mrf_set hw_ (H.out.fact 4 rfl) n_Z_G0.out (H.out.at_ 1 rfl)) (fnil))))))
   clear H cV cZ cU cP cQ cM cS cR cC
   intro W174 K_
   have H := (n9_ K_).1; clear K_
   refine hK.out _ _ ⟨H.out.cell 4 rfl, (HAT.out _ H.out.below).2⟩ (fun hHeld => ?_)
   clear hK K
   refine done_ (done_of HT_.out (by kernel_rfl)) ?_
   obtain ⟨-, cV, cZ, cU, cP, cQ, cM, cS, cR, cC⟩ := n9_ H
   go_wp2
   clear cV cZ cU cP cQ cM cS cR cC
   refine start_ (n := 4) (S := fun W => bW W gU (mL id m u b c z s me o a l (.slice B51 m51 j51) (.slice B52 m52 j52) (.slice B53 m53 j53)) /\ bW W gV (mL id m u b c z s me o a l (.slice B61 m61 j61) (.slice B62 m62 j62) (.slice B63 m63 j63))) (ds := []) (bq 4 0) (by kernel_rfl) rfl (by kernel_rfl) ⟨H.out.drew.cell 2 rfl, H.out.drew.cell 0 rfl⟩ (fun hHeld => ?_)
   refine with_tabW tab_revetmentlaw29_both_10 bits_revetmentlaw29_both_10 (fun HT_ HW_ => ?_)
   have zH := H.out.drew
   generalize W174.drew = W175 at zH hHeld ⊢
   replace H := Lib.hid zH; clear zH
   apply tw 0 60 (bq 4 1) HT_ HW_ hHeld
   apply tw 1 61 (bq 4 3) HT_ HW_ hHeld
   apply on 2 none (bq 4 7) HT_; intro K hK
   obtain ⟨-, cV, cZ, cU, cP, cQ, cM, cS, cR, cC⟩ := n9_ H
   apply shs H 5 53 7 gM (mL id m u b c z s me o a l (.slice B51 m51 j51) (.slice B52 m52 j52) (.slice B53 m53 j53))
   clear H cV cZ cU cP cQ cM cS cR cC
   intro W176 K_
   have H := (n9_ K_).1; clear K_
   refine hK.out _ _ ⟨H.out.cell 2 rfl, H.out.cell 0 rfl⟩ (fun hHeld => ?_)
   clear hK K
   apply on 3 none (bq 4 15) HT_; intro K hK
   obtain ⟨-, cV, cZ, cU, cP, cQ, cM, cS, cR, cC⟩ := n9_ H
   apply shs H 4 68 9 gQ (mL id m u b c z s me o a l (.slice B61 m61 j61) (.slice B62 m62 j62) (.slice B63 m63 j63))
   clear H cV cZ cU cP cQ cM cS cR cC
   intro W177 K_
   have H := (n9_ K_).1; clear K_
   refine hK.out _ _ ⟨H.out.cell 2 rfl, H.out.cell 0 rfl⟩ (fun hHeld => ?_)
   clear hK K
   refine done_ (done_of HT_.out (by kernel_rfl)) ?_
   obtain ⟨-, cV, cZ, cU, cP, cQ, cM, cS, cR, cC⟩ := n9_ H
   go_wp2
   have H2 := (H.out.refs (fs' := [MrF w.heap.size (.slice B61 m61 j61) (.slice B62 m62 j62) (.slice B63 m63 j63) (N), MrF w.heap.size (.slice B51 m51 j51) (.slice B52 m52 j52) (.slice B53 m53 j53) (N)]) (by intro f hf; rcases List.mem_cons.1 hf with rfl | hf; exact H.out.fact 0 rfl; rcases List.mem_cons.1 hf with rfl | hf; exact H.out.fact 2 rfl; cases hf)).tail.tail.tail.tail
   exact ⟨⟨j + 1, N, B51, m51, j51, B52, m52, j52, B53, m53, j53, B61, m61, j61, B62, m62, j62, B63, m63, j63, rfl, by omega, HIN, HDN, Lib.hid H2⟩, by simp only [intOf]; push_cast; omega⟩
  ·
   have c1 : ¬ (j : Int) < (n : Int) := by omega
   have HRX := Lib.hid (show D = runM id m u b c z s me o a l ⟨List.replicate z.toNat z59, List.replicate z.toNat ByteArray.empty, List.replicate z.toNat 0⟩ xs from HD0.out.trans (by rw [List.take_of_length_le (by rw [<- HNX.out]; omega)]))
   obtain ⟨-, cQ, cM, cS, cR, cC⟩ := n5_ H
   go_wp2
   clear cQ cM cS cR cC
   refine start_ (n := 8) (S := fun W => bW W gM (mL id m u b c z s me o a l (.slice B1 m1 j1) (.slice B2 m2 j2) (.slice B3 m3 j3)) /\ bW W gQ (mL id m u b c z s me o a l (.slice Bd1 md1 jd1) (.slice Bd2 md2 jd2) (.slice Bd3 md3 jd3))) (ds := []) (bq 8 0) (by kernel_rfl) rfl (by kernel_rfl) ⟨H.out.drew.cell 1 rfl, H.out.drew.cell 0 rfl⟩ (fun hHeld => ?_)
   refine with_tabW tab_revetmentlaw29_both_11 bits_revetmentlaw29_both_11 (fun HT_ HW_ => ?_)
   have zH := H.out.drew
   generalize wr.drew = W61 at zH hHeld ⊢
   replace H := Lib.hid zH; clear zH
   apply tw 0 62 (bq 8 1) HT_ HW_ hHeld
   apply tw 1 63 (bq 8 3) HT_ HW_ hHeld
   apply pu 2 64 (bq 8 7) HT_
   apply on 3 (some 65) (bq 8 15) HT_; intro K hK
   refine gs Try.func88 #[.int .i64 0] ?_
   refine (code29_any _ _).mono ?_
   rintro e W62 ⟨rfl, hb⟩
   refine ⟨_, rfl, ?_⟩
   replace H := pc H hb
   clear hb
   refine hK.out _ _ ⟨H.out.cell 1 rfl, H.out.cell 0 rfl⟩ (fun hHeld => ?_)
   clear hK K
   apply nm 0
   apply pu 4 66 (bq 8 31) HT_
   apply on 5 none (bq 8 63) HT_; intro K hK
   obtain ⟨-, cQ, cM, cS, cR, cC⟩ := n5_ H
   apply shs H 3 53 4 gR (mL id m u b c z s me o a l (.slice B1 m1 j1) (.slice B2 m2 j2) (.slice B3 m3 j3))
   clear H cQ cM cS cR cC
   intro W63 K_
   have H := (n5_ K_).1; clear K_
   refine hK.out _ _ ⟨H.out.cell 1 rfl, H.out.cell 0 rfl⟩ (fun hHeld => ?_)
   clear hK K
   apply on 6 none (bq 8 127) HT_; intro K hK
   obtain ⟨-, cQ, cM, cS, cR, cC⟩ := n5_ H
   apply shs H 2 68 5 gS (mL id m u b c z s me o a l (.slice Bd1 md1 jd1) (.slice Bd2 md2 jd2) (.slice Bd3 md3 jd3))
   clear H cQ cM cS cR cC
   intro W64 K_
   have H := (n5_ K_).1; clear K_
   refine hK.out _ _ ⟨H.out.cell 1 rfl, H.out.cell 0 rfl⟩ (fun hHeld => ?_)
   clear hK K
   apply pu 7 6 (bq 8 255) HT_
   refine done_ (done_of HT_.out (by kernel_rfl)) ?_
   obtain ⟨-, cQ, cM, cS, cR, cC⟩ := n5_ H
   go_wp2
   refine bodyPost_ret (results_cct rfl _ _ gR gS 53 68 (mL id m u b c z s me o a l (.slice B1 m1 j1) (.slice B2 m2 j2) (.slice B3 m3 j3)).toArray (mL id m u b c z s me o a l (.slice Bd1 md1 jd1) (.slice Bd2 md2 jd2) (.slice Bd3 md3 jd3)).toArray (0, 0) (0, 0) _ _ rfl (H.out.at_ 3 rfl) Try.underlying53 rfl (by kernel_rfl) rfl (H.out.at_ 2 rfl) Try.underlying68 rfl (by kernel_rfl)) rfl ?_
   rw [<- HRX.out]
   exact ⟨⟨B1, m1, j1, B2, m2, j2, B3, m3, j3, Bd1, md1, jd1, Bd2, md2, jd2, Bd3, md3, jd3, rfl, H.out.fact 1 rfl, H.out.fact 0 rfl, HI.out⟩, H.out.below⟩
end Go.Proofs.Ytgckcaoncjhgbaa
namespace Go.Proofs.Ytgckcaoncjhgbaa
open Go.RowKit Go.Proofs.Ytgckcaoncjhgbaa.PL Go.Proofs.YtgckcaoncjhgbaaW.PrintWords Go.Proofs.YtgckcaoncjhgbaaW.PrintLast
set_option linter.unusedVariables false
set_option linter.unusedSimpArgs false
attribute [local go_sem] List.getElem?_toArray List.getElem?_cons_succ List.getElem?_cons_zero mL tL cL xL rL oL
theorem run_inv (id m u b c z s me o a l : Int) (hk : checkC id m u b c z s me o a l = 0) (xs : List S65) : MInv2 id m u b c z s me o a l (runM id m u b c z s me o a l ⟨List.replicate z.toNat z59, List.replicate z.toNat ByteArray.empty, List.replicate z.toNat 0⟩ xs) := by
 have key : ∀ (xs : List S65) (D : Mdl), MInv2 id m u b c z s me o a l D -> MInv2 id m u b c z s me o a l (runM id m u b c z s me o a l D xs) := by
  intro xs
  induction xs with
  | nil => exact fun D h => h
  | cons x l ih => exact fun D h => ih _ (doM_ok h x).1
 exact key xs _ (minv_new id m u b c z s me o a l hk)
def BothN (id m u b c z s me o a l : Int) (Aa : Option Addr) (ca nx : Nat) (w : World) : Prop := ∀ W, Below w.heap.size w W -> Calls Try.prog 33 #[.agg #[.int .i64 id, .int .i64 m, .int .i64 u, .int .i64 b, .int .i64 c, .int .i64 z, .int .i64 s, .int .i64 me, .int .i64 o, .int .i64 a, .int .i64 l], .slice Aa nx ca] W fun e w' => e = .returned (.tuple #[modV 0 0 0 0 0 0 0 0 0 0 0 nil_ nil_ nil_, modV 0 0 0 0 0 0 0 0 0 0 0 nil_ nil_ nil_, .bool false]) /\ Below W.heap.size W w'
def BothP (id m u b c z s me o a l : Int) (Aa : Option Addr) (ca nx : Nat) (w : World) (D : Mdl) : Prop := ∀ W, Below w.heap.size w W -> Calls Try.prog 33 #[.agg #[.int .i64 id, .int .i64 m, .int .i64 u, .int .i64 b, .int .i64 c, .int .i64 z, .int .i64 s, .int .i64 me, .int .i64 o, .int .i64 a, .int .i64 l], .slice Aa nx ca] W fun e w' => (∃ (B1 : Option Addr) (m1 : Nat) (j1 : Nat) (B2 : Option Addr) (m2 : Nat) (j2 : Nat) (B3 : Option Addr) (m3 : Nat) (j3 : Nat) (Bd1 : Option Addr) (md1 : Nat) (jd1 : Nat) (Bd2 : Option Addr) (md2 : Nat) (jd2 : Nat) (Bd3 : Option Addr) (md3 : Nat) (jd3 : Nat), e = .returned (.tuple #[modV id m u b c z s me o a l (.slice B1 m1 j1) (.slice B2 m2 j2) (.slice B3 m3 j3), modV id m u b c z s me o a l (.slice Bd1 md1 jd1) (.slice Bd2 md2 jd2) (.slice Bd3 md3 jd3), .bool true]) /\ MR W.heap.size w' (.slice B1 m1 j1) (.slice B2 m2 j2) (.slice B3 m3 j3) D /\ MR W.heap.size w' (.slice Bd1 md1 jd1) (.slice Bd2 md2 jd2) (.slice Bd3 md3 jd3) D) /\ Below W.heap.size W w'
theorem both_cases (id m u b c z s me o a l : Int) (Aa : Option Addr) (ca : Nat) (xs : List S65) (w : World) (hr : Kd.C k65 w Aa xs.length xs) (hc : xs.length <= ca) : BothN id m u b c z s me o a l Aa ca xs.length w \/ (checkC id m u b c z s me o a l = 0 /\ ∃ D, MInv2 id m u b c z s me o a l D /\ BothP id m u b c z s me o a l Aa ca xs.length w D) := by
 obtain ⟨B, h40, hm⟩ := much_any id m u b c z s me o a l Aa ca xs w hr hc
 have hm2 : ∀ W, Below w.heap.size w W -> ∀ (W' : World), Below W.heap.size W W' -> Calls Try.prog 24 #[.agg #[.int .i64 id, .int .i64 m, .int .i64 u, .int .i64 b, .int .i64 c, .int .i64 z, .int .i64 s, .int .i64 me, .int .i64 o, .int .i64 a, .int .i64 l], .slice Aa xs.length ca] W' fun e w' => e = .returned (.bool B) /\ Below W'.heap.size W' w' := fun W hW W' hW' => hm W' (below_step hW hW')
 cases B
 ·
  by_cases hk : checkC id m u b c z s me o a l = 0
  ·
   refine .inr ⟨hk, ?_⟩
   by_cases hi : MInv2 id m u b c z s me o a l (runM id m u b c z s me o a l ⟨List.replicate z.toNat z59, List.replicate z.toNat ByteArray.empty, List.replicate z.toNat 0⟩ xs)
   ·
    refine ⟨_, hi, fun W hW => (both_ok id m u b c z s me o a l Aa ca xs W (Kd.C_below hr hW) hc (hm2 W hW) hk (h40 rfl)).mono ?_⟩
    rintro e w' ⟨⟨B1, m1, j1, B2, m2, j2, B3, m3, j3, Bd1, md1, jd1, Bd2, md2, jd2, Bd3, md3, jd3, he, h1, h2, _⟩, hb⟩
    exact ⟨⟨B1, m1, j1, B2, m2, j2, B3, m3, j3, Bd1, md1, jd1, Bd2, md2, jd2, Bd3, md3, jd3, he, h1, h2⟩, hb⟩
   · exact absurd (run_inv id m u b c z s me o a l hk xs) hi
  · exact .inl (fun W hW => both_no id m u b c z s me o a l Aa ca xs W (Kd.C_below hr hW) hc (hm2 W hW) hk)
 · exact .inl (fun W hW => both_much id m u b c z s me o a l Aa ca xs W (Kd.C_below hr hW) hc (hm2 W hW))
theorem cmd_one {W : World} {g : Nat} {kd i p n : Int} {Ad : Option Addr} {kdd : Nat} {d : List Int} {f : Bool} (hd : Kd.C (Kd.int .u8) W Ad d.length d) (hdk : d.length <= kdd) (hg : W.heap[g]? = some (.cells (xL kd i p n (.slice Ad d.length kdd) f).toArray 65 (0, 0))) : Kd.C k65 W (some ⟨g, 0, none⟩) [(⟨kd, i, p, n, d, f⟩ : S65)].length [(⟨kd, i, p, n, d, f⟩ : S65)] := by
 refine ⟨rfl, (by show (1 : Nat) <= 9223372036854775807; decide), fun _ => ⟨_, rfl, fun j q hj => ?_⟩⟩
 cases j with
 | zero =>
  have e : (⟨kd, i, p, n, d, f⟩ : S65) = q := by simpa using hj
  subst e
  refine ⟨_, rfl, k65_mk W (⟨kd, i, p, n, d, f⟩ : S65) hdk hd, fun i u hu => ?_⟩
  rw [add_plain, blk_cell hg]
  simp only [Nat.zero_mul, Nat.zero_add]
  simpa using hu
 | succ j => simp at hj
theorem one_much (id m u b c z s me o a l : Int) {w W : World} {bs : List Blk} {fs : List Fct} (H : Hid (Pk w W bs fs)) {kd i p n : Int} {Ad : Option Addr} {kdd : Nat} {d : List Int} {f BB : Bool} (hd : Kd.C (Kd.int .u8) W Ad d.length d) (hdk : d.length <= kdd) (hm : muchB id m u b c z s me o a l [(⟨kd, i, p, n, d, f⟩ : S65)] = BB) : Calls Try.prog 24 #[.agg #[.int .i64 id, .int .i64 m, .int .i64 u, .int .i64 b, .int .i64 c, .int .i64 z, .int .i64 s, .int .i64 me, .int .i64 o, .int .i64 a, .int .i64 l], .slice (some ⟨W.heap.size, 0, none⟩) 1 1] (W.alloc (.cells (xL kd i p n (.slice Ad d.length kdd) f).toArray 65 (0, 0))) fun e w' => e = .returned (.bool BB) /\ Hid (Pk w w' bs fs) := by
 have hb : Below W.heap.size W (W.alloc (.cells (xL kd i p n (.slice Ad d.length kdd) f).toArray 65 (0, 0))) := below_alloc (Below.refl _ _) _
 have h := much_run id m u b c z s me o a l _ 1 [(⟨kd, i, p, n, d, f⟩ : S65)] _ (cmd_one (Kd.C_below hd hb) hdk (by show (W.heap.push _)[W.heap.size]? = _; simp)) (Nat.le_refl 1)
 rw [hm] at h
 exact h.mono (fun e w' q => ⟨q.1, pc H (below_step hb q.2)⟩)
end Go.Proofs.Ytgckcaoncjhgbaa
