/- revetmentref18.Adopt. -/
import Derived.WalkKit
import Derived.WalkSpells
import Derived.WalkLawsBesides
import Derived.Lib.Hide
import Derived.Test.YtgckcaoncjhgbaaFGw
import Derived.Test.YtgckcaoncjhgbaaMdAdopt
import Derived.Test.YtgckcaoncjhgbaaFMc
import Derived.Test.YtgckcaoncjhgbaaFRm
namespace Go.Proofs.Ytgckcaoncjhgbaa
open Go.RowKit Go.Proofs.Ytgckcaoncjhgbaa.PL Go.Proofs.YtgckcaoncjhgbaaW.PrintWords Go.Proofs.YtgckcaoncjhgbaaW.PrintLast
set_option linter.unusedVariables false
set_option linter.unusedSimpArgs false
attribute [local go_sem] List.getElem?_toArray List.getElem?_cons_succ List.getElem?_cons_zero mL tL cL xL rL oL
def T_revetmentref18_Adopt_6 : Bool × List (List Nat × List Nat) := (true, [([], []), ([], []), ([], []), ([2], [2]), ([0, 1, 3], [0, 1, 3]), ([], []), ([], []), ([6], [6]), ([4, 5, 7, 4], [4, 5, 7]), ([8, 8, 0, 1, 2, 3, 4, 5, 6, 7, 8], [8])])
theorem tab_revetmentref18_Adopt_6 : rtab .any (opsOf Try.f31 6) = T_revetmentref18_Adopt_6 := by kernel_rfl
theorem bits_revetmentref18_Adopt_6 : waitsOk T_revetmentref18_Adopt_6.2 [0, 0, 0, 4, 15, 0, 0, 64, 255, 511] = true := by kernel_rfl
set_option maxHeartbeats 4000000 in
set_option maxRecDepth 100000 in
theorem radopt_a (id m u b c z s me o a l : Int) (x y q : Value) (D : Mdl) (i : Int) (zn : S59) (Ad : Option Addr) (kdd : Nat) (d : List Int) (w : World) (h : MC w x y q D) (hi : MInv id m u b c z s me o a l D) (hd : Kd.C (Kd.int .u8) w Ad d.length d) (hdk : d.length ≤ kdd) (hin : ¬ (0 ≤ i ∧ i < (D.T.length : Int))) :
    Calls Try.prog 31 #[modV id m u b c z s me o a l x y q, .int .i64 i, zoV zn, .slice Ad d.length kdd] w fun e w' => (∃ x' y' q' : Value, e = .returned (.tuple #[modV id m u b c z s me o a l x' y' q', .int .i64 2]) ∧ MD w.heap.size w' x y q D x' y' q' D) ∧ Below w.heap.size w w' := by
  have hwpb := fun q0 q1 q2 => adopt_wp (i := i) (x := zn) hi q0 q1 q2
  obtain ⟨st, wp, gen⟩ := zn
  obtain ⟨A1, A2, A3, n1, n2, n3, k1, k2, k3, rfl, rfl, rfl, hn1, hn2, hn3, hC1, hC2, hC3, hk1, hk2, hk3, hrt, hL1, hLp, hlT, hlS, hcb⟩ := mc_open h hi
  obtain ⟨nd, hnd⟩ : ∃ n, n = d.length := ⟨_, rfl⟩
  show Calls _ _ #[_, _, .agg #[.int .i64 st, .int .i64 wp, .int .i64 gen], _] _ _
  rw [← hnd] at hd hdk ⊢
  have HMC := Lib.hid h; have HD := Lib.hid hd; have HC1 := Lib.hid hC1; have HN1 := Lib.hid hn1
  rw [← hn2] at hin
  clear h hi hd hcb hrt hlT hlS hn1 hn2 hn3 hnd hk1 hk2 hk3 hC1 hC2 hC3 hwpb
  have h3_ : i < 0 ∨ (¬ i < 0 ∧ ¬ i < (n2 : Int)) := by omega
  clear hin
  rcases h3_ with j0 | ⟨j0, j1⟩ <;> (
    (try have j2 : (n2 : Int) ≤ i := by omega)
    have H := Lib.hid (Pk.start w)
    go_enter Try.func31, Try.ntmps31
    go_wp2_with first
      | (apply bh H 4 (mL id m u b c z s me o a l (.slice A1 n1 k1) (.slice A2 n2 k2) (.slice A3 n3 k3)) 68; clear H; intro gM W1 H; obtain ⟨-, cM⟩ := n1_ H)
      | (apply bh H 6 (oL st wp gen) 59; clear H cM; intro gZ W2 H; obtain ⟨-, cZ, cM⟩ := n2_ H)
      | (apply bh H 8 (mL 0 0 0 0 0 0 0 0 0 0 0 nil_ nil_ nil_) 68; clear H cZ cM; intro gR W3 H; obtain ⟨-, cR, cZ, cM⟩ := n3_ H)
      | (apply sh H 0 68 8 gR (mL id m u b c z s me o a l (.slice A1 n1 k1) (.slice A2 n2 k2) (.slice A3 n3 k3)); clear H cR cZ cM; intro W4 K_; obtain ⟨H, cR, cZ, cM⟩ := n3_ K_; clear K_)
    refine bodyPost_ret (results_ct rfl _ _ gR 68 (mL id m u b c z s me o a l (.slice A1 n1 k1) (.slice A2 n2 k2) (.slice A3 n3 k3)).toArray (0, 0) _ rfl (H.out.at_ 0 rfl) Try.underlying68 rfl (by kernel_rfl)) rfl ?_
    exact ⟨⟨_, _, _, rfl, MD_same⟩, H.out.below⟩)
set_option maxHeartbeats 4000000 in
set_option maxRecDepth 100000 in
theorem radopt_b (id m u b c z s me o a l : Int) (x y q : Value) (D : Mdl) (i : Int) (zn : S59) (Ad : Option Addr) (kdd : Nat) (d : List Int) (w : World) (h : MC w x y q D) (hi : MInv id m u b c z s me o a l D) (hd : Kd.C (Kd.int .u8) w Ad d.length d) (hdk : d.length ≤ kdd) (hin : 0 ≤ i ∧ i < (D.T.length : Int)) (hr : ¬ rightZ id m u b c z s me o a l (D.L.set i.toNat zn) = true) :
    Calls Try.prog 31 #[modV id m u b c z s me o a l x y q, .int .i64 i, zoV zn, .slice Ad d.length kdd] w fun e w' => (∃ x' y' q' : Value, e = .returned (.tuple #[modV id m u b c z s me o a l x' y' q', .int .i64 1]) ∧ MD w.heap.size w' x y q D x' y' q' D) ∧ Below w.heap.size w w' := by
  have hwpb := fun q0 q1 q2 => adopt_wp (i := i) (x := zn) hi q0 q1 q2
  obtain ⟨st, wp, gen⟩ := zn
  obtain ⟨A1, A2, A3, n1, n2, n3, k1, k2, k3, rfl, rfl, rfl, hn1, hn2, hn3, hC1, hC2, hC3, hk1, hk2, hk3, hrt, hL1, hLp, hlT, hlS, hcb⟩ := mc_open h hi
  obtain ⟨nd, hnd⟩ : ∃ n, n = d.length := ⟨_, rfl⟩
  show Calls _ _ #[_, _, .agg #[.int .i64 st, .int .i64 wp, .int .i64 gen], _] _ _
  rw [← hnd] at hd hdk ⊢
  have HMC := Lib.hid h; have HD := Lib.hid hd; have HC1 := Lib.hid hC1; have HN1 := Lib.hid hn1
  rw [← hn2] at hin
  obtain ⟨i0, i2⟩ := hin
  have i1 : i < (n1 : Int) := by omega
  have hwt := fun W h => rwith_any id m u b c z s me o a l A1 k1 D.L i ⟨st, wp, gen⟩ W h hk1 (by omega) i0 (by omega)
  have hr2 := fun A k W h hk => rright_any id m u b c z s me o a l A k (D.L.set i.toNat ⟨st, wp, gen⟩) W h hk (by rw [List.length_set]; omega)
  rw [List.length_set] at hr2
  rw [Bool.eq_false_iff.mpr hr, ← hn1] at hr2
  rw [← hn1] at hwt
  have HWT := Lib.hid hwt; have HR2 := Lib.hid hr2; clear hwt hr2 hr
  have j0 : ¬ i < 0 := by omega
  have j1 : i < (n2 : Int) := by omega
  have j2 : ¬ (n2 : Int) ≤ i := by omega
  clear h hi hd hcb hrt hlT hlS hn1 hn2 hn3 hnd hk1 hk2 hk3 hC1 hC2 hC3 hwpb
  have H := Lib.hid (Pk.start w)
  go_enter Try.func31, Try.ntmps31
  go_wp2_with first
    | (apply bh H 4 (mL id m u b c z s me o a l (.slice A1 n1 k1) (.slice A2 n2 k2) (.slice A3 n3 k3)) 68; clear H; intro gM W1 H; obtain ⟨-, cM⟩ := n1_ H)
    | (apply bh H 6 (oL st wp gen) 59; clear H cM; intro gZ W2 H; obtain ⟨-, cZ, cM⟩ := n2_ H)
    | (apply bh H 8 (mL 0 0 0 0 0 0 0 0 0 0 0 nil_ nil_ nil_) 68; clear H cZ cM; intro gR W3 H; obtain ⟨-, cR, cZ, cM⟩ := n3_ H)
    | (go_at_call 86; refine (HWT.out _ (Kd.C_below HC1.out H.out.below)).mono ?_; rintro e W4 ⟨v, rfl, hR, hb⟩; clear cR cZ cM; obtain ⟨AL, kL, rfl⟩ := Kd.R_slice hR; simp only [List.length_set, ← HN1.out] at hR ⊢; replace H := pr H hb hR; clear hR; clear hb; obtain ⟨-, cR, cZ, cM⟩ := n3_ H)
    | (apply bh H 10 (tL 0 0 0 0 0 0 0 0 0 0 0 nil_) 35; clear H cR cZ cM; intro gT W5 H; obtain ⟨-, cT, cR, cZ, cM⟩ := n4_ H)
    | (apply sh H 0 35 10 gT (tL id m u b c z s me o a l (.slice AL n1 kL)); clear H cT cR cZ cM; intro W6 K_; obtain ⟨H, cT, cR, cZ, cM⟩ := n4_ K_; clear K_)
    | (go_at_call 87; refine (HR2.out _ _ _ (by have h := (Kd.R_reads' (H.out.fact 0 rfl)).2.2; rw [List.length_set, ← HN1.out] at h; exact h) (Kd.R_reads' (H.out.fact 0 rfl)).2.1).mono ?_; rintro e W7 ⟨rfl, hb⟩; clear cT cR cZ cM; replace H := pc H hb; clear hb; obtain ⟨-, cT, cR, cZ, cM⟩ := n4_ H)
    | (apply sh H 1 68 8 gR (mL id m u b c z s me o a l (.slice A1 n1 k1) (.slice A2 n2 k2) (.slice A3 n3 k3)); clear H cT cR cZ cM; intro W8 K_; obtain ⟨H, cT, cR, cZ, cM⟩ := n4_ K_; clear K_)
  refine bodyPost_ret (results_ct rfl _ _ gR 68 (mL id m u b c z s me o a l (.slice A1 n1 k1) (.slice A2 n2 k2) (.slice A3 n3 k3)).toArray (0, 0) _ rfl (H.out.at_ 1 rfl) Try.underlying68 rfl (by kernel_rfl)) rfl ?_
  exact ⟨⟨_, _, _, rfl, MD_same⟩, H.out.below⟩
set_option maxHeartbeats 4000000 in
set_option maxRecDepth 100000 in
theorem radopt_c (id m u b c z s me o a l : Int) (x y q : Value) (D : Mdl) (i : Int) (zn : S59) (Ad : Option Addr) (kdd : Nat) (d : List Int) (w : World) (h : MC w x y q D) (hi : MInv id m u b c z s me o a l D) (hd : Kd.C (Kd.int .u8) w Ad d.length d) (hdk : d.length ≤ kdd) (hin : 0 ≤ i ∧ i < (D.T.length : Int)) (hr : rightZ id m u b c z s me o a l (D.L.set i.toNat zn) = true) (hz : ¬ (d.length : Int) = zn.f1 * b) :
    Calls Try.prog 31 #[modV id m u b c z s me o a l x y q, .int .i64 i, zoV zn, .slice Ad d.length kdd] w fun e w' => (∃ x' y' q' : Value, e = .returned (.tuple #[modV id m u b c z s me o a l x' y' q', .int .i64 1]) ∧ MD w.heap.size w' x y q D x' y' q' D) ∧ Below w.heap.size w w' := by
  have hwpb := fun q0 q1 q2 => adopt_wp (i := i) (x := zn) hi q0 q1 q2
  obtain ⟨st, wp, gen⟩ := zn
  obtain ⟨A1, A2, A3, n1, n2, n3, k1, k2, k3, rfl, rfl, rfl, hn1, hn2, hn3, hC1, hC2, hC3, hk1, hk2, hk3, hrt, hL1, hLp, hlT, hlS, hcb⟩ := mc_open h hi
  obtain ⟨nd, hnd⟩ : ∃ n, n = d.length := ⟨_, rfl⟩
  show Calls _ _ #[_, _, .agg #[.int .i64 st, .int .i64 wp, .int .i64 gen], _] _ _
  rw [← hnd] at hd hdk ⊢
  have HMC := Lib.hid h; have HD := Lib.hid hd; have HC1 := Lib.hid hC1; have HN1 := Lib.hid hn1
  rw [← hn2] at hin
  obtain ⟨i0, i2⟩ := hin
  have i1 : i < (n1 : Int) := by omega
  have hwq := hwpb i0 (by omega) hr
  obtain ⟨Y, hY⟩ : ∃ Y, Y = wp * b := ⟨_, rfl⟩
  have hz : ¬ (nd : Int) = Y := by rw [hY, hnd]; exact hz
  have y1 : wrap64 (wp * b) = Y := by rw [hY]; dsimp only at hwq; unfold wrap64; omega
  have y2 : IntKind.i64.wrap (wp * b) = Y := by rw [i64_w]; exact y1
  clear hwq hY
  have hwt := fun W h => rwith_any id m u b c z s me o a l A1 k1 D.L i ⟨st, wp, gen⟩ W h hk1 (by omega) i0 (by omega)
  have hr2 := fun A k W h hk => rright_any id m u b c z s me o a l A k (D.L.set i.toNat ⟨st, wp, gen⟩) W h hk (by rw [List.length_set]; omega)
  rw [List.length_set] at hr2
  rw [hr, ← hn1] at hr2
  rw [← hn1] at hwt
  have HWT := Lib.hid hwt; have HR2 := Lib.hid hr2; clear hwt hr2 hr
  have j0 : ¬ i < 0 := by omega
  have j1 : i < (n2 : Int) := by omega
  have j2 : ¬ (n2 : Int) ≤ i := by omega
  have kb : ((nd : Int) == Y) = false := beq_eq_false_iff_ne.mpr hz; have kb2 : ((nd : Int) != Y) = true := bne_iff_ne.mpr hz
  clear h hi hd hcb hrt hlT hlS hn1 hn2 hn3 hnd hk1 hk2 hk3 hC1 hC2 hC3 hwpb hz
  have H := Lib.hid (Pk.start w)
  go_enter Try.func31, Try.ntmps31
  go_wp2_with first
    | (apply bh H 4 (mL id m u b c z s me o a l (.slice A1 n1 k1) (.slice A2 n2 k2) (.slice A3 n3 k3)) 68; clear H; intro gM W1 H; obtain ⟨-, cM⟩ := n1_ H)
    | (apply bh H 6 (oL st wp gen) 59; clear H cM; intro gZ W2 H; obtain ⟨-, cZ, cM⟩ := n2_ H)
    | (apply bh H 8 (mL 0 0 0 0 0 0 0 0 0 0 0 nil_ nil_ nil_) 68; clear H cZ cM; intro gR W3 H; obtain ⟨-, cR, cZ, cM⟩ := n3_ H)
    | (go_at_call 86; refine (HWT.out _ (Kd.C_below HC1.out H.out.below)).mono ?_; rintro e W4 ⟨v, rfl, hR, hb⟩; clear cR cZ cM; obtain ⟨AL, kL, rfl⟩ := Kd.R_slice hR; simp only [List.length_set, ← HN1.out] at hR ⊢; replace H := pr H hb hR; clear hR; clear hb; obtain ⟨-, cR, cZ, cM⟩ := n3_ H)
    | (apply bh H 10 (tL 0 0 0 0 0 0 0 0 0 0 0 nil_) 35; clear H cR cZ cM; intro gT W5 H; obtain ⟨-, cT, cR, cZ, cM⟩ := n4_ H)
    | (apply sh H 0 35 10 gT (tL id m u b c z s me o a l (.slice AL n1 kL)); clear H cT cR cZ cM; intro W6 K_; obtain ⟨H, cT, cR, cZ, cM⟩ := n4_ K_; clear K_)
    | (go_at_call 87; refine (HR2.out _ _ _ (by have h := (Kd.R_reads' (H.out.fact 0 rfl)).2.2; rw [List.length_set, ← HN1.out] at h; exact h) (Kd.R_reads' (H.out.fact 0 rfl)).2.1).mono ?_; rintro e W7 ⟨rfl, hb⟩; clear cT cR cZ cM; replace H := pc H hb; clear hb; obtain ⟨-, cT, cR, cZ, cM⟩ := n4_ H)
    | (apply sh H 1 68 8 gR (mL id m u b c z s me o a l (.slice A1 n1 k1) (.slice A2 n2 k2) (.slice A3 n3 k3)); clear H cT cR cZ cM; intro W8 K_; obtain ⟨H, cT, cR, cZ, cM⟩ := n4_ K_; clear K_)
  refine bodyPost_ret (results_ct rfl _ _ gR 68 (mL id m u b c z s me o a l (.slice A1 n1 k1) (.slice A2 n2 k2) (.slice A3 n3 k3)).toArray (0, 0) _ rfl (H.out.at_ 1 rfl) Try.underlying68 rfl (by kernel_rfl)) rfl ?_
  exact ⟨⟨_, _, _, rfl, MD_same⟩, H.out.below⟩
set_option maxHeartbeats 4000000 in
set_option maxRecDepth 100000 in
theorem radopt_d (id m u b c z s me o a l : Int) (x y q : Value) (D : Mdl) (i : Int) (zn : S59) (Ad : Option Addr) (kdd : Nat) (d : List Int) (w : World) (h : MC w x y q D) (hi : MInv id m u b c z s me o a l D) (hd : Kd.C (Kd.int .u8) w Ad d.length d) (hdk : d.length ≤ kdd) (hin : 0 ≤ i ∧ i < (D.T.length : Int)) (hr : rightZ id m u b c z s me o a l (D.L.set i.toNat zn) = true) (hz : (d.length : Int) = zn.f1 * b) :
    Calls Try.prog 31 #[modV id m u b c z s me o a l x y q, .int .i64 i, zoV zn, .slice Ad d.length kdd] w fun e w' => (∃ x' y' q' : Value, e = .returned (.tuple #[modV id m u b c z s me o a l x' y' q', .int .i64 0]) ∧ MR w.heap.size w' x' y' q' ⟨D.L.set i.toNat zn, D.T.set i.toNat (strOfNums d), D.S.set i.toNat zn.f1⟩) ∧ Below w.heap.size w w' := by
  have hwpb := fun q0 q1 q2 => adopt_wp (i := i) (x := zn) hi q0 q1 q2
  obtain ⟨st, wp, gen⟩ := zn
  obtain ⟨A1, A2, A3, n1, n2, n3, k1, k2, k3, rfl, rfl, rfl, hn1, hn2, hn3, hC1, hC2, hC3, hk1, hk2, hk3, hrt, hL1, hLp, hlT, hlS, hcb⟩ := mc_open h hi
  obtain ⟨nd, hnd⟩ : ∃ n, n = d.length := ⟨_, rfl⟩
  show Calls _ _ #[_, _, .agg #[.int .i64 st, .int .i64 wp, .int .i64 gen], _] _ _
  rw [← hnd] at hd hdk ⊢
  have HMC := Lib.hid h; have HD := Lib.hid hd; have HC1 := Lib.hid hC1; have HN1 := Lib.hid hn1
  rw [← hn2] at hin
  obtain ⟨i0, i2⟩ := hin
  have i1 : i < (n1 : Int) := by omega
  have hwq := hwpb i0 (by omega) hr
  obtain ⟨Y, hY⟩ : ∃ Y, Y = wp * b := ⟨_, rfl⟩
  have hz : (nd : Int) = Y := by rw [hY, hnd]; exact hz
  have y1 : wrap64 (wp * b) = Y := by rw [hY]; dsimp only at hwq; unfold wrap64; omega
  have y2 : IntKind.i64.wrap (wp * b) = Y := by rw [i64_w]; exact y1
  clear hwq hY
  have hwt := fun W h => rwith_any id m u b c z s me o a l A1 k1 D.L i ⟨st, wp, gen⟩ W h hk1 (by omega) i0 (by omega)
  have hr2 := fun A k W h hk => rright_any id m u b c z s me o a l A k (D.L.set i.toNat ⟨st, wp, gen⟩) W h hk (by rw [List.length_set]; omega)
  rw [List.length_set] at hr2
  rw [hr, ← hn1] at hr2
  rw [← hn1] at hwt
  have HWT := Lib.hid hwt; have HR2 := Lib.hid hr2; clear hwt hr2 hr
  have j0 : ¬ i < 0 := by omega
  have j1 : i < (n2 : Int) := by omega
  have j2 : ¬ (n2 : Int) ≤ i := by omega
  have kb : ((nd : Int) == Y) = true := beq_iff_eq.mpr hz; have kb2 : ((nd : Int) != Y) = false := bne_eq_false_iff_eq.mpr hz
  obtain ⟨ds, hds⟩ : ∃ t, t = strOfNums d := ⟨_, rfl⟩
  rw [← hds]
  have HTX := Lib.hid (fun W h => rtext_any id m u b c z s me o a l (.slice A1 n1 k1) (.slice A2 n2 k2) (.slice A3 n3 k3) D i ds W h i0 (by omega) (by omega))
  have HSF := Lib.hid (fun y W h => rsafe_any id m u b c z s me o a l (.slice A1 n1 k1) y (.slice A3 n3 k3) ⟨D.L, D.T.set i.toNat ds, D.S⟩ i wp W h i0 (by show i < (D.S.length : Int); omega) (by show D.S.length < 1000000000; omega)); have HDS := Lib.hid hds; clear hds
  clear h hi hd hcb hrt hlT hlS hn1 hn2 hn3 hnd hk1 hk2 hk3 hC1 hC2 hC3 hwpb hz
  have H := Lib.hid (Pk.start w)
  go_enter Try.func31, Try.ntmps31
  go_wp2_with first
    | (apply bh H 4 (mL id m u b c z s me o a l (.slice A1 n1 k1) (.slice A2 n2 k2) (.slice A3 n3 k3)) 68; clear H; intro gM W1 H; obtain ⟨-, cM⟩ := n1_ H)
    | (apply bh H 6 (oL st wp gen) 59; clear H cM; intro gZ W2 H; obtain ⟨-, cZ, cM⟩ := n2_ H)
    | (apply bh H 8 (mL 0 0 0 0 0 0 0 0 0 0 0 nil_ nil_ nil_) 68; clear H cZ cM; intro gR W3 H; obtain ⟨-, cR, cZ, cM⟩ := n3_ H)
    | (go_at_call 86; refine (HWT.out _ (Kd.C_below HC1.out H.out.below)).mono ?_; rintro e W4 ⟨v, rfl, hR, hb⟩; clear cR cZ cM; obtain ⟨AL, kL, rfl⟩ := Kd.R_slice hR; simp only [List.length_set, ← HN1.out] at hR ⊢; replace H := pr H hb hR; clear hR; clear hb; obtain ⟨-, cR, cZ, cM⟩ := n3_ H)
    | (apply bh H 10 (tL 0 0 0 0 0 0 0 0 0 0 0 nil_) 35; clear H cR cZ cM; intro gT W5 H; obtain ⟨-, cT, cR, cZ, cM⟩ := n4_ H)
    | (apply sh H 0 35 10 gT (tL id m u b c z s me o a l (.slice AL n1 kL)); clear H cT cR cZ cM; intro W6 K_; obtain ⟨H, cT, cR, cZ, cM⟩ := n4_ K_; clear K_)
    | (go_at_call 87; refine (HR2.out _ _ _ (by have h := (Kd.R_reads' (H.out.fact 0 rfl)).2.2; rw [List.length_set, ← HN1.out] at h; exact h) (Kd.R_reads' (H.out.fact 0 rfl)).2.1).mono ?_; rintro e W7 ⟨rfl, hb⟩; clear cT cR cZ cM; replace H := pc H hb; clear hb; obtain ⟨-, cT, cR, cZ, cM⟩ := n4_ H)
  clear cT cR cZ cM
  refine start_ (n := 10) (S := fun W => (∀ j_, W.cell? ⟨gM, j_, none⟩ = ((mL id m u b c z s me o a l (.slice A1 n1 k1) (.slice A2 n2 k2) (.slice A3 n3 k3)).toArray : Array Value)[j_]?) ∧ (∀ j_, W.cell? ⟨gZ, j_, none⟩ = ((oL st wp gen).toArray : Array Value)[j_]?) ∧ (convert 57 9 (.slice Ad nd kdd)).run Try.prog W = .ok (.string ds) W) (ds := [9]) (bq 10 0) (by kernel_rfl) rfl (by kernel_rfl) ⟨H.out.drew.cell 3 rfl, H.out.drew.cell 2 rfl, (by rw [HDS.out]; exact Kd.C_string Try.underlying57 Try.underlying5 Try.underlying9 (Kd.C_below HD.out (H.out.drew).below))⟩ (fun hHeld => ?_)
  refine with_tabW tab_revetmentref18_Adopt_6 bits_revetmentref18_Adopt_6 (fun HT_ HW_ => ?_)
  have zH := H.out.drew
  generalize W7.drew = W8 at zH hHeld ⊢
  replace H := Lib.hid zH; clear zH
  apply tw 0 42 (bq 10 1) HT_ HW_ hHeld
  apply pu 1 43 (bq 10 3) HT_
  apply pu 2 44 (bq 10 7) HT_
  apply tw 3 45 (bq 10 15) HT_ HW_ hHeld
  apply pu 5 47 (bq 10 47) HT_
  apply pu 6 48 (bq 10 111) HT_
  apply tw 7 49 (bq 10 239) HT_ HW_ hHeld
  apply on 4 (some 46) (bq 10 255) HT_; intro K hK
  refine gs Try.func78 #[modV id m u b c z s me o a l (.slice A1 n1 k1) (.slice A2 n2 k2) (.slice A3 n3 k3), .int .i64 i, .string ds] ?_
  refine (HTX.out _ (MC_below HMC.out H.out.below)).mono ?_
  rintro e W9 ⟨y5, rfl, hY, hb⟩
  refine ⟨_, rfl, ?_⟩
  obtain ⟨A5, k5, rfl⟩ := Kd.R_slice hY
  simp only [List.length_set] at hY ⊢
  replace H := pr H hb hY
  clear hY
  clear hb
  refine hK.out _ _ ⟨H.out.cell 3 rfl, H.out.cell 2 rfl, (by rw [HDS.out]; exact Kd.C_string Try.underlying57 Try.underlying5 Try.underlying9 (Kd.C_below HD.out H.out.below))⟩ (fun hHeld => ?_)
  clear hK K
  apply nm 0
  apply on 8 (some 50) (bq 10 511) HT_; intro K hK
  refine gs Try.func80 #[modV id m u b c z s me o a l (.slice A1 n1 k1) (.slice A5 D.T.length k5) (.slice A3 n3 k3), .int .i64 i, .int .i64 wp] ?_
  refine (HSF.out _ _ ⟨SlC_below HMC.out.1 H.out.below, SlC_R (H.out.fact 0 rfl), SlC_below HMC.out.2.2 H.out.below⟩).mono ?_
  rintro e W10 ⟨q6, rfl, hQ, hb⟩
  refine ⟨_, rfl, ?_⟩
  obtain ⟨A6, k6, rfl⟩ := Kd.R_slice hQ
  simp only [List.length_set] at hQ ⊢
  replace H := pr H hb hQ
  clear hQ
  clear hb
  refine hK.out _ _ ⟨H.out.cell 3 rfl, H.out.cell 2 rfl, (by rw [HDS.out]; exact Kd.C_string Try.underlying57 Try.underlying5 Try.underlying9 (Kd.C_below HD.out H.out.below))⟩ (fun hHeld => ?_)
  clear hK K
  apply nm 0
  apply onl 9 none (bq 10 1023) HT_; intro K hK
  obtain ⟨-, cT, cR, cZ, cM⟩ := n4_ H
  apply shs H 3 68 4 gM (mL id m u b c z s me o a l (.slice A1 n1 k1) (.slice A5 D.T.length k5) (.slice A6 D.S.length k6))
  clear H cT cR cZ cM
  intro W11 K_
  have H := (n4_ K_).1; clear K_
  refine hK.out _ _ ?_
  clear hK K
  refine done_ (done_of HT_.out (by kernel_rfl)) ?_
  obtain ⟨-, cT, cR, cZ, cM⟩ := n4_ H
  go_wp2_with first
    | (apply sp H 3 35 52 gM 0 (tL id m u b c z s me o a l (.slice AL n1 kL)) (mL id m u b c z s me o a l (.slice AL n1 kL) (.slice A5 D.T.length k5) (.slice A6 D.S.length k6)); clear H cT cR cZ cM; intro W12 K_; obtain ⟨H, cT, cR, cZ, cM⟩ := n4_ K_; clear K_)
    | (apply sh H 1 68 8 gR (mL id m u b c z s me o a l (.slice AL n1 kL) (.slice A5 D.T.length k5) (.slice A6 D.S.length k6)); clear H cT cR cZ cM; intro W13 K_; obtain ⟨H, cT, cR, cZ, cM⟩ := n4_ K_; clear K_)
  refine bodyPost_ret (results_ct rfl _ _ gR 68 (mL id m u b c z s me o a l (.slice AL n1 kL) (.slice A5 D.T.length k5) (.slice A6 D.S.length k6)).toArray (0, 0) _ rfl (H.out.at_ 1 rfl) Try.underlying68 rfl (by kernel_rfl)) rfl ?_
  exact ⟨⟨_, _, _, rfl, ⟨(H.out.fact 2 rfl), (H.out.fact 1 rfl), (H.out.fact 0 rfl)⟩⟩, H.out.below⟩
theorem radopt_err (id m u b c z s me o a l : Int) (x y q : Value) (D : Mdl) (i : Int) (zn : S59) (Ad : Option Addr) (kdd : Nat) (d : List Int) (w : World) (h : MC w x y q D) (hi : MInv id m u b c z s me o a l D) (hd : Kd.C (Kd.int .u8) w Ad d.length d) (hdk : d.length ≤ kdd) (he : ¬ (adoptM id m u b c z s me o a l D i zn d).2 = 0) :
    Calls Try.prog 31 #[modV id m u b c z s me o a l x y q, .int .i64 i, zoV zn, .slice Ad d.length kdd] w fun e w' => (∃ x' y' q' : Value, e = .returned (.tuple #[modV id m u b c z s me o a l x' y' q', .int .i64 (adoptM id m u b c z s me o a l D i zn d).2]) ∧ MD w.heap.size w' x y q D x' y' q' D) ∧ Below w.heap.size w w' := by
  by_cases hin : ¬ (0 ≤ i ∧ i < (D.T.length : Int))
  · have hv : adoptM id m u b c z s me o a l D i zn d = (D, 2) := (by unfold adoptM; rw [if_pos hin]); rw [hv]; exact radopt_a id m u b c z s me o a l x y q D i zn Ad kdd d w h hi hd hdk hin
  by_cases hr : ¬ rightZ id m u b c z s me o a l (D.L.set i.toNat zn) = true
  · have hv : adoptM id m u b c z s me o a l D i zn d = (D, 1) := (by unfold adoptM; rw [if_neg hin, if_pos hr]); rw [hv]; exact radopt_b id m u b c z s me o a l x y q D i zn Ad kdd d w h hi hd hdk (Decidable.not_not.mp hin) hr
  by_cases hz : ¬ (d.length : Int) = zn.f1 * b
  · have hv : adoptM id m u b c z s me o a l D i zn d = (D, 1) := (by unfold adoptM; rw [if_neg hin, if_neg hr, if_pos hz]); rw [hv]; exact radopt_c id m u b c z s me o a l x y q D i zn Ad kdd d w h hi hd hdk (Decidable.not_not.mp hin) (Decidable.not_not.mp hr) hz
  have hv : adoptM id m u b c z s me o a l D i zn d = (⟨D.L.set i.toNat zn, D.T.set i.toNat (strOfNums d), D.S.set i.toNat zn.f1⟩, 0) := (by unfold adoptM; rw [if_neg hin, if_neg hr, if_neg hz])
  rw [hv] at he; exact absurd rfl he
theorem radopt_ok (id m u b c z s me o a l : Int) (x y q : Value) (D : Mdl) (i : Int) (zn : S59) (Ad : Option Addr) (kdd : Nat) (d : List Int) (w : World) (h : MC w x y q D) (hi : MInv id m u b c z s me o a l D) (hd : Kd.C (Kd.int .u8) w Ad d.length d) (hdk : d.length ≤ kdd) (he : (adoptM id m u b c z s me o a l D i zn d).2 = 0) :
    Calls Try.prog 31 #[modV id m u b c z s me o a l x y q, .int .i64 i, zoV zn, .slice Ad d.length kdd] w fun e w' => (∃ x' y' q' : Value, e = .returned (.tuple #[modV id m u b c z s me o a l x' y' q', .int .i64 0]) ∧ MR w.heap.size w' x' y' q' (adoptM id m u b c z s me o a l D i zn d).1) ∧ Below w.heap.size w w' := by
  by_cases hin : ¬ (0 ≤ i ∧ i < (D.T.length : Int))
  · have hv : adoptM id m u b c z s me o a l D i zn d = (D, 2) := (by unfold adoptM; rw [if_pos hin]); rw [hv] at he; exact absurd he (by show ¬ (2 : Int) = 0; decide)
  by_cases hr : ¬ rightZ id m u b c z s me o a l (D.L.set i.toNat zn) = true
  · have hv : adoptM id m u b c z s me o a l D i zn d = (D, 1) := (by unfold adoptM; rw [if_neg hin, if_pos hr]); rw [hv] at he; exact absurd he (by show ¬ (1 : Int) = 0; decide)
  by_cases hz : ¬ (d.length : Int) = zn.f1 * b
  · have hv : adoptM id m u b c z s me o a l D i zn d = (D, 1) := (by unfold adoptM; rw [if_neg hin, if_neg hr, if_pos hz]); rw [hv] at he; exact absurd he (by show ¬ (1 : Int) = 0; decide)
  have hv : adoptM id m u b c z s me o a l D i zn d = (⟨D.L.set i.toNat zn, D.T.set i.toNat (strOfNums d), D.S.set i.toNat zn.f1⟩, 0) := (by unfold adoptM; rw [if_neg hin, if_neg hr, if_neg hz])
  rw [hv]; exact radopt_d id m u b c z s me o a l x y q D i zn Ad kdd d w h hi hd hdk (Decidable.not_not.mp hin) (Decidable.not_not.mp hr) (Decidable.not_not.mp hz)
end Go.Proofs.Ytgckcaoncjhgbaa
