/- model.Adopt. -/
import Derived.WalkKit
import Derived.WalkSpells
import Derived.WalkLawsBesides
import Derived.Lib.Hide
import Derived.Test.YtgckcaoncjhgbaaFGw
import Derived.Test.YtgckcaoncjhgbaaFMa
import Derived.Test.YtgckcaoncjhgbaaFMb
namespace Go.Proofs.Ytgckcaoncjhgbaa
open Go.RowKit Go.Proofs.Ytgckcaoncjhgbaa.PL Go.Proofs.YtgckcaoncjhgbaaW.PrintWords Go.Proofs.YtgckcaoncjhgbaaW.PrintLast
set_option linter.unusedVariables false
set_option linter.unusedSimpArgs false
attribute [local go_sem] List.getElem?_toArray List.getElem?_cons_succ List.getElem?_cons_zero mL tL cL xL rL oL
/-- A zone is another one: what becomes of a model. -/
def adoptM (id m u b c z s me o a l : Int) (D : Mdl) (i : Int) (x : S59) (d : List Int) : Mdl × Int :=
  if ¬ (0 ≤ i ∧ i < (D.T.length : Int)) then (D, 2)
  else if ¬ rightZ id m u b c z s me o a l (D.L.set i.toNat x) = true then (D, 1)
  else if ¬ (d.length : Int) = x.f1 * b then (D, 1)
  else (⟨D.L.set i.toNat x, D.T.set i.toNat (strOfNums d), D.S.set i.toNat x.f1⟩, 0)
theorem adopt_inv {id m u b c z s me o a l : Int} {D : Mdl} {i : Int} {x : S59} {d : List Int} (hi : MInv id m u b c z s me o a l D) (e : (adoptM id m u b c z s me o a l D i x d).2 = 0) : MInv id m u b c z s me o a l (adoptM id m u b c z s me o a l D i x d).1 := by
  unfold adoptM at e ⊢
  by_cases h0 : ¬ (0 ≤ i ∧ i < (D.T.length : Int))
  · rw [if_pos h0] at e; exact absurd e (by show ¬ (2 : Int) = 0; decide)
  rw [if_neg h0] at e ⊢
  by_cases h1 : ¬ rightZ id m u b c z s me o a l (D.L.set i.toNat x) = true
  · rw [if_pos h1] at e; exact absurd e (by show ¬ (1 : Int) = 0; decide)
  rw [if_neg h1] at e ⊢
  by_cases h2 : ¬ (d.length : Int) = x.f1 * b
  · rw [if_pos h2] at e; exact absurd e (by show ¬ (1 : Int) = 0; decide)
  rw [if_neg h2]
  have h0 := Decidable.not_not.mp h0; have h1 := Decidable.not_not.mp h1; have h2 := Decidable.not_not.mp h2
  have i1 : i < (D.L.length : Int) := by have := hi.2.1; omega
  have hz := zone_rt h1 h0.1 (by rw [List.length_set]; exact i1)
  have e2 : rd_T59 (D.L.set i.toNat x) i = x := by
    have := rdZ_set D.L i x h0.1 i1 i.toNat
    rw [Int.toNat_of_nonneg h0.1, if_pos rfl] at this; exact this
  rw [e2] at hz
  have hw := ((Geo.rz_iff _ _).1 hz).2.2.1
  exact minv_set hi h0.1 i1 h1 (by rw [strOf_size2, h2]) ⟨hw, Int.le_refl _⟩
theorem adopt_wp {id m u b c z s me o a l : Int} {D : Mdl} {i : Int} {x : S59} (hi : MInv id m u b c z s me o a l D) (i0 : 0 ≤ i) (i1 : i < (D.L.length : Int)) (h1 : rightZ id m u b c z s me o a l (D.L.set i.toNat x) = true) : 0 ≤ x.f1 ∧ x.f1 ≤ 3932160 ∧ 0 ≤ x.f1 * b ∧ x.f1 * b ≤ 3932160 * 4096 := by
  have hz := zone_rt h1 i0 (by rw [List.length_set]; exact i1)
  have e2 : rd_T59 (D.L.set i.toNat x) i = x := by
    have := rdZ_set D.L i x i0 i1 i.toNat
    rw [Int.toNat_of_nonneg i0, if_pos rfl] at this; exact this
  rw [e2] at hz
  have hw := (Geo.rz_iff _ _).1 hz
  have hc := sizeC_le (rightZ_len hi.1).1
  have hcb := okC_bd (checkC_ok (rightZ_len hi.1).1).1
  have h2 : x.f1 * b ≤ 3932160 * b := Int.mul_le_mul_of_nonneg_right (by omega) (by omega)
  have h3 : 0 ≤ x.f1 * b := Int.mul_nonneg (by omega) (by omega)
  omega
/-- A store of a zone into an own row of zones. -/
theorem Pk.putZ {w W W' : World} {bs : List Blk} {fs : List Fct} {g n cap : Nat} {xs : List S59} {i : Int} (h : Pk w W bs fs) (k : Nat) (x : S59) (hk : fs[k]? = some (RowF k59 59 w.heap.size (.slice (some ⟨g, 0, none⟩) n cap) xs)) (i0 : 0 ≤ i) (i1 : i < n) (hw : W' = W.setCells g (i.toNat * 3) [.int .i64 x.f0, .int .i64 x.f1, .int .i64 x.f2]) (hB : ∀ b ∈ bs, b.t = 59 → b.g ≠ g) (hT : (fs.eraseIdx k).all (fun f => !f.T.contains 59) = true) :
    Pk w W' bs (fs.set k (RowF k59 59 w.heap.size (.slice (some ⟨g, 0, none⟩) n cap) (xs.set i.toNat x))) := by
  have hr : Kd.R k59 59 W w.heap.size (fun _ => True) (.slice (some ⟨g, 0, none⟩) n cap) xs := h.fact k hk
  obtain ⟨cells, hc⟩ := R_blk hr
  refine ⟨st_BR hw h.below hr, fun b hm => ⟨?_, (h.blk b hm).2⟩, h.ne, fun f hf => ?_⟩
  · have hne : b.g ≠ g := by
      by_cases ht : b.t = 59
      · exact hB b hm ht
      · exact blk_ne (h.blk b hm).1 hc ht
    exact st_far hw (h.blk b hm).1 hne
  · rw [List.mem_iff_getElem?] at hf
    obtain ⟨q, hq⟩ := hf
    by_cases hqk : q = k
    · subst hqk
      have hlt : q < fs.length := (List.getElem?_eq_some_iff.1 hk).1
      rw [List.getElem?_set_self hlt] at hq
      obtain rfl := (Option.some.inj hq).symm
      rw [hw]
      exact (R_zone hr i i0 i1).2.2 x
    · rw [List.getElem?_set_ne (Ne.symm hqk)] at hq
      have hm : f ∈ fs.eraseIdx k := by
        rw [List.mem_eraseIdx_iff_getElem?]
        exact ⟨q, hqk, hq⟩
      exact f.set hw hc (by simpa using List.all_eq_true.1 hT f hm) (h.fct f (List.mem_of_getElem? hq))
set_option maxHeartbeats 4000000 in
set_option maxRecDepth 100000 in
theorem madopt_a (id m u b c z s me o a l : Int) (x y q : Value) (D : Mdl) (i : Int) (zn : S59) (Ad : Option Addr) (kdd : Nat) (d : List Int) (w : World) (h : MC w x y q D) (hi : MInv id m u b c z s me o a l D) (hd : Kd.C (Kd.int .u8) w Ad d.length d) (hdk : d.length ≤ kdd) (hin : ¬ (0 ≤ i ∧ i < (D.T.length : Int))) :
    Calls Try.prog 30 #[modV id m u b c z s me o a l x y q, .int .i64 i, zoV zn, .slice Ad d.length kdd] w fun e w' => e = .returned (.tuple #[modV 0 0 0 0 0 0 0 0 0 0 0 (.slice none 0 0) (.slice none 0 0) (.slice none 0 0), .int .i64 2]) ∧ Below w.heap.size w w' := by
  have hwpb := fun q0 q1 q2 => adopt_wp (i := i) (x := zn) hi q0 q1 q2
  obtain ⟨st, wp, gen⟩ := zn
  obtain ⟨A1, A2, A3, n1, n2, n3, k1, k2, k3, rfl, rfl, rfl, hn1, hn2, hn3, hC1, hC2, hC3, hk1, hk2, hk3, hrt, hL1, hLp, hlT, hlS, hcb⟩ := mc_open h hi
  obtain ⟨nd, hnd⟩ : ∃ n, n = d.length := ⟨_, rfl⟩
  show Calls _ _ #[_, _, .agg #[.int .i64 st, .int .i64 wp, .int .i64 gen], _] _ _
  have hRT := fun W h => rightZ_any id m u b c z s me o a l A1 k1 D.L W h hk1
  rw [hrt, ← hn1] at hRT
  have hb0 : decide (0 ≤ i ∧ i < (n2 : Int)) = false := decide_eq_false (by rw [hn2]; exact hin)
  have HTH := Lib.hid (fun W => there_is id m u b c z s me o a l (.slice A1 n1 k1) (.slice A3 n3 k3) A2 n2 k2 i W false hb0); clear hb0
  rw [← hnd] at hd hdk ⊢
  have HMC := Lib.hid h; have HD := Lib.hid hd; have HC1 := Lib.hid hC1; have HRT := Lib.hid hRT; have HN1 := Lib.hid hn1; clear hRT
  clear h hi hd hcb hrt hlT hlS hn1 hn2 hn3 hnd hk1 hk2 hk3 hC1 hC2 hC3 hwpb hin
  have H := Lib.hid (Pk.start w)
  go_enter Try.func30, Try.ntmps30
  have tok1 : True := trivial
  go_wp2_with first
    | (apply bh H 4 (mL id m u b c z s me o a l (.slice A1 n1 k1) (.slice A2 n2 k2) (.slice A3 n3 k3)) 53; clear H; intro gM W1 H; obtain ⟨-, cM⟩ := n1_ H)
    | (apply bh H 6 (oL st wp gen) 59; clear H cM; intro gZ W2 H; obtain ⟨-, cZ, cM⟩ := n2_ H)
    | (apply bh H 8 (mL 0 0 0 0 0 0 0 0 0 0 0 nil_ nil_ nil_) 53; clear H cZ cM; intro gR W3 H; obtain ⟨-, cR, cZ, cM⟩ := n3_ H)
    | (go_at_call 21; have _t := tok1; refine (HRT.out _ (Kd.C_below HC1.out H.out.below)).mono ?_; rintro e W4 ⟨rfl, hb⟩; clear cR cZ cM; replace H := pc H hb; clear hb; clear tok1; obtain ⟨-, cR, cZ, cM⟩ := n3_ H)
    | (go_at_call 83; refine (HTH.out _).mono ?_; rintro e W5 ⟨rfl, hb⟩; clear cR cZ cM; replace H := pc H hb; clear hb; obtain ⟨-, cR, cZ, cM⟩ := n3_ H)
    | (apply sn H 0 53 8 gR (mL 0 0 0 0 0 0 0 0 0 0 0 nil_ nil_ nil_))
  refine bodyPost_ret (results_ct rfl _ _ gR 53 (mL 0 0 0 0 0 0 0 0 0 0 0 nil_ nil_ nil_).toArray (0, 0) _ rfl (H.out.at_ 0 rfl) Try.underlying53 rfl (by kernel_rfl)) rfl ?_
  exact ⟨rfl, H.out.below⟩
set_option maxHeartbeats 4000000 in
set_option maxRecDepth 100000 in
theorem madopt_b (id m u b c z s me o a l : Int) (x y q : Value) (D : Mdl) (i : Int) (zn : S59) (Ad : Option Addr) (kdd : Nat) (d : List Int) (w : World) (h : MC w x y q D) (hi : MInv id m u b c z s me o a l D) (hd : Kd.C (Kd.int .u8) w Ad d.length d) (hdk : d.length ≤ kdd) (hin : 0 ≤ i ∧ i < (D.T.length : Int)) (hr : ¬ rightZ id m u b c z s me o a l (D.L.set i.toNat zn) = true) :
    Calls Try.prog 30 #[modV id m u b c z s me o a l x y q, .int .i64 i, zoV zn, .slice Ad d.length kdd] w fun e w' => e = .returned (.tuple #[modV 0 0 0 0 0 0 0 0 0 0 0 (.slice none 0 0) (.slice none 0 0) (.slice none 0 0), .int .i64 1]) ∧ Below w.heap.size w w' := by
  have hwpb := fun q0 q1 q2 => adopt_wp (i := i) (x := zn) hi q0 q1 q2
  obtain ⟨st, wp, gen⟩ := zn
  obtain ⟨A1, A2, A3, n1, n2, n3, k1, k2, k3, rfl, rfl, rfl, hn1, hn2, hn3, hC1, hC2, hC3, hk1, hk2, hk3, hrt, hL1, hLp, hlT, hlS, hcb⟩ := mc_open h hi
  obtain ⟨nd, hnd⟩ : ∃ n, n = d.length := ⟨_, rfl⟩
  show Calls _ _ #[_, _, .agg #[.int .i64 st, .int .i64 wp, .int .i64 gen], _] _ _
  have hRT := fun W h => rightZ_any id m u b c z s me o a l A1 k1 D.L W h hk1
  rw [hrt, ← hn1] at hRT
  have hb0 : decide (0 ≤ i ∧ i < (n2 : Int)) = true := decide_eq_true (by rw [hn2]; exact hin)
  have HTH := Lib.hid (fun W => there_is id m u b c z s me o a l (.slice A1 n1 k1) (.slice A3 n3 k3) A2 n2 k2 i W true hb0); clear hb0
  rw [← hnd] at hd hdk ⊢
  have HMC := Lib.hid h; have HD := Lib.hid hd; have HC1 := Lib.hid hC1; have HRT := Lib.hid hRT; have HN1 := Lib.hid hn1; clear hRT
  obtain ⟨i0, i2⟩ := hin
  have i1 : i < (n1 : Int) := by omega
  have hcl := fun W h => cloneZ_any A1 k1 D.L W h hk1 (by omega)
  have hfm := fun (base : Nat) (W : World) (v : Value) (h : Kd.R k59 59 W base (fun _ => True) v D.L) => Kd.R_form h (by omega)
  have hr2 := fun A k W h hk => rightZ_any id m u b c z s me o a l A k (D.L.set i.toNat ⟨st, wp, gen⟩) W h hk
  rw [List.length_set] at hr2
  rw [Bool.eq_false_iff.mpr hr, ← hn1] at hr2
  rw [← hn1] at hcl hfm
  have HCL := Lib.hid hcl; have HFM := Lib.hid hfm; have HR2 := Lib.hid hr2; clear hcl hfm hr2 hr
  clear h hi hd hcb hrt hlT hlS hn1 hn2 hn3 hnd hk1 hk2 hk3 hC1 hC2 hC3 hwpb
  have H := Lib.hid (Pk.start w)
  go_enter Try.func30, Try.ntmps30
  have tok1 : True := trivial
  go_wp2_with first
    | (apply bh H 4 (mL id m u b c z s me o a l (.slice A1 n1 k1) (.slice A2 n2 k2) (.slice A3 n3 k3)) 53; clear H; intro gM W1 H; obtain ⟨-, cM⟩ := n1_ H)
    | (apply bh H 6 (oL st wp gen) 59; clear H cM; intro gZ W2 H; obtain ⟨-, cZ, cM⟩ := n2_ H)
    | (apply bh H 8 (mL 0 0 0 0 0 0 0 0 0 0 0 nil_ nil_ nil_) 53; clear H cZ cM; intro gR W3 H; obtain ⟨-, cR, cZ, cM⟩ := n3_ H)
    | (go_at_call 21; have _t := tok1; refine (HRT.out _ (Kd.C_below HC1.out H.out.below)).mono ?_; rintro e W4 ⟨rfl, hb⟩; clear cR cZ cM; replace H := pc H hb; clear hb; clear tok1; obtain ⟨-, cR, cZ, cM⟩ := n3_ H)
    | (go_at_call 83; refine (HTH.out _).mono ?_; rintro e W5 ⟨rfl, hb⟩; clear cR cZ cM; replace H := pc H hb; clear hb; obtain ⟨-, cR, cZ, cM⟩ := n3_ H)
    | (go_at_call 84; refine (HCL.out _ (Kd.C_below HC1.out H.out.below)).mono ?_; rintro e W6 ⟨v, rfl, hR, hb⟩; have hlt := blk_lt (H.out.at_ 1 rfl); clear cR cZ cM; obtain ⟨gL, cL, rfl, hge, -⟩ := HFM.out _ _ _ hR; have HNE := Lib.hid (show gZ ≠ gL by omega); clear hlt hge; replace H := pr H hb hR; clear hR; clear hb; obtain ⟨-, cR, cZ, cM⟩ := n3_ H)
    | (apply sp H 2 25 27 gM 11 [.slice (some ⟨gL, 0, none⟩) n1 cL] (mL id m u b c z s me o a l (.slice (some ⟨gL, 0, none⟩) n1 cL) (.slice A2 n2 k2) (.slice A3 n3 k3)); clear H cR cZ cM; intro W7 K_; obtain ⟨H, cR, cZ, cM⟩ := n3_ K_; clear K_)
    | (have hR_ : Kd.R k59 59 W7 w.heap.size (fun _ => True) (.slice (some ⟨gL, 0, none⟩) n1 cL) D.L := H.out.fact 0 rfl; obtain ⟨⟨e0_, e1_, e2_⟩, ⟨ef0, ef1, ef2⟩, -⟩ := R_zone hR_ i i0 i1; clear hR_; apply sv 59 33 gL (i.toNat * 3) [.int .i64 st, .int .i64 wp, .int .i64 gen]; intro W8 hw; clear e0_ e1_ e2_ ef0 ef1 ef2; clear cR cZ cM; replace H := Lib.hid (Pk.putZ H.out 0 ⟨st, wp, gen⟩ rfl i0 i1 hw (by intro q hq ht; simp only [List.mem_cons, List.not_mem_nil, or_false] at hq; rcases hq with rfl | rfl | rfl; exact absurd (show (53 : Nat) = 59 from ht) (by decide); exact HNE.out; exact absurd (show (53 : Nat) = 59 from ht) (by decide)) rfl); clear hw; obtain ⟨-, cR, cZ, cM⟩ := n3_ H)
    | (go_at_call 21; refine (HR2.out _ _ _ (by have h := (Kd.R_reads' (H.out.fact 0 rfl)).2.2; rw [List.length_set, ← HN1.out] at h; exact h) (Kd.R_reads' (H.out.fact 0 rfl)).2.1).mono ?_; rintro e W9 ⟨rfl, hb⟩; clear cR cZ cM; replace H := pc H hb; clear hb; obtain ⟨-, cR, cZ, cM⟩ := n3_ H)
    | (apply sn H 0 53 8 gR (mL 0 0 0 0 0 0 0 0 0 0 0 nil_ nil_ nil_))
  refine bodyPost_ret (results_ct rfl _ _ gR 53 (mL 0 0 0 0 0 0 0 0 0 0 0 nil_ nil_ nil_).toArray (0, 0) _ rfl (H.out.at_ 0 rfl) Try.underlying53 rfl (by kernel_rfl)) rfl ?_
  exact ⟨rfl, H.out.below⟩
set_option maxHeartbeats 4000000 in
set_option maxRecDepth 100000 in
theorem madopt_c (id m u b c z s me o a l : Int) (x y q : Value) (D : Mdl) (i : Int) (zn : S59) (Ad : Option Addr) (kdd : Nat) (d : List Int) (w : World) (h : MC w x y q D) (hi : MInv id m u b c z s me o a l D) (hd : Kd.C (Kd.int .u8) w Ad d.length d) (hdk : d.length ≤ kdd) (hin : 0 ≤ i ∧ i < (D.T.length : Int)) (hr : rightZ id m u b c z s me o a l (D.L.set i.toNat zn) = true) (hz : ¬ (d.length : Int) = zn.f1 * b) :
    Calls Try.prog 30 #[modV id m u b c z s me o a l x y q, .int .i64 i, zoV zn, .slice Ad d.length kdd] w fun e w' => e = .returned (.tuple #[modV 0 0 0 0 0 0 0 0 0 0 0 (.slice none 0 0) (.slice none 0 0) (.slice none 0 0), .int .i64 1]) ∧ Below w.heap.size w w' := by
  have hwpb := fun q0 q1 q2 => adopt_wp (i := i) (x := zn) hi q0 q1 q2
  obtain ⟨st, wp, gen⟩ := zn
  obtain ⟨A1, A2, A3, n1, n2, n3, k1, k2, k3, rfl, rfl, rfl, hn1, hn2, hn3, hC1, hC2, hC3, hk1, hk2, hk3, hrt, hL1, hLp, hlT, hlS, hcb⟩ := mc_open h hi
  obtain ⟨nd, hnd⟩ : ∃ n, n = d.length := ⟨_, rfl⟩
  show Calls _ _ #[_, _, .agg #[.int .i64 st, .int .i64 wp, .int .i64 gen], _] _ _
  have hRT := fun W h => rightZ_any id m u b c z s me o a l A1 k1 D.L W h hk1
  rw [hrt, ← hn1] at hRT
  have hb0 : decide (0 ≤ i ∧ i < (n2 : Int)) = true := decide_eq_true (by rw [hn2]; exact hin)
  have HTH := Lib.hid (fun W => there_is id m u b c z s me o a l (.slice A1 n1 k1) (.slice A3 n3 k3) A2 n2 k2 i W true hb0); clear hb0
  rw [← hnd] at hd hdk ⊢
  have HMC := Lib.hid h; have HD := Lib.hid hd; have HC1 := Lib.hid hC1; have HRT := Lib.hid hRT; have HN1 := Lib.hid hn1; clear hRT
  obtain ⟨i0, i2⟩ := hin
  have i1 : i < (n1 : Int) := by omega
  have hwq := hwpb i0 (by omega) hr
  obtain ⟨Y, hY⟩ : ∃ Y, Y = wp * b := ⟨_, rfl⟩
  have hz : ¬ (nd : Int) = Y := by rw [hY, hnd]; exact hz
  have y1 : wrap64 (wp * b) = Y := by rw [hY]; dsimp only at hwq; unfold wrap64; omega
  have y2 : IntKind.i64.wrap (wp * b) = Y := by rw [i64_w]; exact y1
  clear hwq hY
  have hcl := fun W h => cloneZ_any A1 k1 D.L W h hk1 (by omega)
  have hfm := fun (base : Nat) (W : World) (v : Value) (h : Kd.R k59 59 W base (fun _ => True) v D.L) => Kd.R_form h (by omega)
  have hr2 := fun A k W h hk => rightZ_any id m u b c z s me o a l A k (D.L.set i.toNat ⟨st, wp, gen⟩) W h hk
  rw [List.length_set] at hr2
  rw [hr, ← hn1] at hr2
  rw [← hn1] at hcl hfm
  have HCL := Lib.hid hcl; have HFM := Lib.hid hfm; have HR2 := Lib.hid hr2; clear hcl hfm hr2 hr
  have kb : ((nd : Int) == Y) = false := beq_eq_false_iff_ne.mpr hz; have kb2 : ((nd : Int) != Y) = true := bne_iff_ne.mpr hz
  clear h hi hd hcb hrt hlT hlS hn1 hn2 hn3 hnd hk1 hk2 hk3 hC1 hC2 hC3 hwpb hz
  have H := Lib.hid (Pk.start w)
  go_enter Try.func30, Try.ntmps30
  have tok1 : True := trivial
  go_wp2_with first
    | (apply bh H 4 (mL id m u b c z s me o a l (.slice A1 n1 k1) (.slice A2 n2 k2) (.slice A3 n3 k3)) 53; clear H; intro gM W1 H; obtain ⟨-, cM⟩ := n1_ H)
    | (apply bh H 6 (oL st wp gen) 59; clear H cM; intro gZ W2 H; obtain ⟨-, cZ, cM⟩ := n2_ H)
    | (apply bh H 8 (mL 0 0 0 0 0 0 0 0 0 0 0 nil_ nil_ nil_) 53; clear H cZ cM; intro gR W3 H; obtain ⟨-, cR, cZ, cM⟩ := n3_ H)
    | (go_at_call 21; have _t := tok1; refine (HRT.out _ (Kd.C_below HC1.out H.out.below)).mono ?_; rintro e W4 ⟨rfl, hb⟩; clear cR cZ cM; replace H := pc H hb; clear hb; clear tok1; obtain ⟨-, cR, cZ, cM⟩ := n3_ H)
    | (go_at_call 83; refine (HTH.out _).mono ?_; rintro e W5 ⟨rfl, hb⟩; clear cR cZ cM; replace H := pc H hb; clear hb; obtain ⟨-, cR, cZ, cM⟩ := n3_ H)
    | (go_at_call 84; refine (HCL.out _ (Kd.C_below HC1.out H.out.below)).mono ?_; rintro e W6 ⟨v, rfl, hR, hb⟩; have hlt := blk_lt (H.out.at_ 1 rfl); clear cR cZ cM; obtain ⟨gL, cL, rfl, hge, -⟩ := HFM.out _ _ _ hR; have HNE := Lib.hid (show gZ ≠ gL by omega); clear hlt hge; replace H := pr H hb hR; clear hR; clear hb; obtain ⟨-, cR, cZ, cM⟩ := n3_ H)
    | (apply sp H 2 25 27 gM 11 [.slice (some ⟨gL, 0, none⟩) n1 cL] (mL id m u b c z s me o a l (.slice (some ⟨gL, 0, none⟩) n1 cL) (.slice A2 n2 k2) (.slice A3 n3 k3)); clear H cR cZ cM; intro W7 K_; obtain ⟨H, cR, cZ, cM⟩ := n3_ K_; clear K_)
    | (have hR_ : Kd.R k59 59 W7 w.heap.size (fun _ => True) (.slice (some ⟨gL, 0, none⟩) n1 cL) D.L := H.out.fact 0 rfl; obtain ⟨⟨e0_, e1_, e2_⟩, ⟨ef0, ef1, ef2⟩, -⟩ := R_zone hR_ i i0 i1; clear hR_; apply sv 59 33 gL (i.toNat * 3) [.int .i64 st, .int .i64 wp, .int .i64 gen]; intro W8 hw; clear e0_ e1_ e2_ ef0 ef1 ef2; clear cR cZ cM; replace H := Lib.hid (Pk.putZ H.out 0 ⟨st, wp, gen⟩ rfl i0 i1 hw (by intro q hq ht; simp only [List.mem_cons, List.not_mem_nil, or_false] at hq; rcases hq with rfl | rfl | rfl; exact absurd (show (53 : Nat) = 59 from ht) (by decide); exact HNE.out; exact absurd (show (53 : Nat) = 59 from ht) (by decide)) rfl); clear hw; obtain ⟨-, cR, cZ, cM⟩ := n3_ H)
    | (go_at_call 21; refine (HR2.out _ _ _ (by have h := (Kd.R_reads' (H.out.fact 0 rfl)).2.2; rw [List.length_set, ← HN1.out] at h; exact h) (Kd.R_reads' (H.out.fact 0 rfl)).2.1).mono ?_; rintro e W9 ⟨rfl, hb⟩; clear cR cZ cM; replace H := pc H hb; clear hb; obtain ⟨-, cR, cZ, cM⟩ := n3_ H)
    | (apply sn H 0 53 8 gR (mL 0 0 0 0 0 0 0 0 0 0 0 nil_ nil_ nil_))
  refine bodyPost_ret (results_ct rfl _ _ gR 53 (mL 0 0 0 0 0 0 0 0 0 0 0 nil_ nil_ nil_).toArray (0, 0) _ rfl (H.out.at_ 0 rfl) Try.underlying53 rfl (by kernel_rfl)) rfl ?_
  exact ⟨rfl, H.out.below⟩
set_option maxHeartbeats 4000000 in
set_option maxRecDepth 100000 in
theorem madopt_d (id m u b c z s me o a l : Int) (x y q : Value) (D : Mdl) (i : Int) (zn : S59) (Ad : Option Addr) (kdd : Nat) (d : List Int) (w : World) (h : MC w x y q D) (hi : MInv id m u b c z s me o a l D) (hd : Kd.C (Kd.int .u8) w Ad d.length d) (hdk : d.length ≤ kdd) (hin : 0 ≤ i ∧ i < (D.T.length : Int)) (hr : rightZ id m u b c z s me o a l (D.L.set i.toNat zn) = true) (hz : (d.length : Int) = zn.f1 * b) :
    Calls Try.prog 30 #[modV id m u b c z s me o a l x y q, .int .i64 i, zoV zn, .slice Ad d.length kdd] w fun e w' => (∃ x' y' q' : Value, e = .returned (.tuple #[modV id m u b c z s me o a l x' y' q', .int .i64 0]) ∧ MR w.heap.size w' x' y' q' ⟨D.L.set i.toNat zn, D.T.set i.toNat (strOfNums d), D.S.set i.toNat zn.f1⟩) ∧ Below w.heap.size w w' := by
  have hwpb := fun q0 q1 q2 => adopt_wp (i := i) (x := zn) hi q0 q1 q2
  obtain ⟨st, wp, gen⟩ := zn
  obtain ⟨A1, A2, A3, n1, n2, n3, k1, k2, k3, rfl, rfl, rfl, hn1, hn2, hn3, hC1, hC2, hC3, hk1, hk2, hk3, hrt, hL1, hLp, hlT, hlS, hcb⟩ := mc_open h hi
  obtain ⟨nd, hnd⟩ : ∃ n, n = d.length := ⟨_, rfl⟩
  show Calls _ _ #[_, _, .agg #[.int .i64 st, .int .i64 wp, .int .i64 gen], _] _ _
  have hRT := fun W h => rightZ_any id m u b c z s me o a l A1 k1 D.L W h hk1
  rw [hrt, ← hn1] at hRT
  have hb0 : decide (0 ≤ i ∧ i < (n2 : Int)) = true := decide_eq_true (by rw [hn2]; exact hin)
  have HTH := Lib.hid (fun W => there_is id m u b c z s me o a l (.slice A1 n1 k1) (.slice A3 n3 k3) A2 n2 k2 i W true hb0); clear hb0
  rw [← hnd] at hd hdk ⊢
  have HMC := Lib.hid h; have HD := Lib.hid hd; have HC1 := Lib.hid hC1; have HRT := Lib.hid hRT; have HN1 := Lib.hid hn1; clear hRT
  obtain ⟨i0, i2⟩ := hin
  have i1 : i < (n1 : Int) := by omega
  have hwq := hwpb i0 (by omega) hr
  obtain ⟨Y, hY⟩ : ∃ Y, Y = wp * b := ⟨_, rfl⟩
  have hz : (nd : Int) = Y := by rw [hY, hnd]; exact hz
  have y1 : wrap64 (wp * b) = Y := by rw [hY]; dsimp only at hwq; unfold wrap64; omega
  have y2 : IntKind.i64.wrap (wp * b) = Y := by rw [i64_w]; exact y1
  clear hwq hY
  have hcl := fun W h => cloneZ_any A1 k1 D.L W h hk1 (by omega)
  have hfm := fun (base : Nat) (W : World) (v : Value) (h : Kd.R k59 59 W base (fun _ => True) v D.L) => Kd.R_form h (by omega)
  have hr2 := fun A k W h hk => rightZ_any id m u b c z s me o a l A k (D.L.set i.toNat ⟨st, wp, gen⟩) W h hk
  rw [List.length_set] at hr2
  rw [hr, ← hn1] at hr2
  rw [← hn1] at hcl hfm
  have HCL := Lib.hid hcl; have HFM := Lib.hid hfm; have HR2 := Lib.hid hr2; clear hcl hfm hr2 hr
  have kb : ((nd : Int) == Y) = true := beq_iff_eq.mpr hz; have kb2 : ((nd : Int) != Y) = false := bne_eq_false_iff_eq.mpr hz
  obtain ⟨ds, hds⟩ : ∃ t, t = strOfNums d := ⟨_, rfl⟩
  rw [← hds]
  have HWI := Lib.hid (fun X W h => mwith_any id m u b c z s me o a l X (.slice A2 n2 k2) (.slice A3 n3 k3) ⟨(D.L.set i.toNat ⟨st, wp, gen⟩), D.T, D.S⟩ i ds wp W h i0 (by show i < (D.T.length : Int); omega) (by show i < (D.S.length : Int); omega) (by show D.T.length < 1000000000; omega) (by show D.S.length < 1000000000; omega)); have HDS := Lib.hid hds; clear hds
  clear h hi hd hcb hrt hlT hlS hn1 hn2 hn3 hnd hk1 hk2 hk3 hC1 hC2 hC3 hwpb hz
  have H := Lib.hid (Pk.start w)
  go_enter Try.func30, Try.ntmps30
  have tok1 : True := trivial
  go_wp2_with first
    | (apply bh H 4 (mL id m u b c z s me o a l (.slice A1 n1 k1) (.slice A2 n2 k2) (.slice A3 n3 k3)) 53; clear H; intro gM W1 H; obtain ⟨-, cM⟩ := n1_ H)
    | (apply bh H 6 (oL st wp gen) 59; clear H cM; intro gZ W2 H; obtain ⟨-, cZ, cM⟩ := n2_ H)
    | (apply bh H 8 (mL 0 0 0 0 0 0 0 0 0 0 0 nil_ nil_ nil_) 53; clear H cZ cM; intro gR W3 H; obtain ⟨-, cR, cZ, cM⟩ := n3_ H)
    | (go_at_call 21; have _t := tok1; refine (HRT.out _ (Kd.C_below HC1.out H.out.below)).mono ?_; rintro e W4 ⟨rfl, hb⟩; clear cR cZ cM; replace H := pc H hb; clear hb; clear tok1; obtain ⟨-, cR, cZ, cM⟩ := n3_ H)
    | (go_at_call 83; refine (HTH.out _).mono ?_; rintro e W5 ⟨rfl, hb⟩; clear cR cZ cM; replace H := pc H hb; clear hb; obtain ⟨-, cR, cZ, cM⟩ := n3_ H)
    | (go_at_call 84; refine (HCL.out _ (Kd.C_below HC1.out H.out.below)).mono ?_; rintro e W6 ⟨v, rfl, hR, hb⟩; have hlt := blk_lt (H.out.at_ 1 rfl); clear cR cZ cM; obtain ⟨gL, cL, rfl, hge, -⟩ := HFM.out _ _ _ hR; have HNE := Lib.hid (show gZ ≠ gL by omega); clear hlt hge; replace H := pr H hb hR; clear hR; clear hb; obtain ⟨-, cR, cZ, cM⟩ := n3_ H)
    | (apply sp H 2 25 27 gM 11 [.slice (some ⟨gL, 0, none⟩) n1 cL] (mL id m u b c z s me o a l (.slice (some ⟨gL, 0, none⟩) n1 cL) (.slice A2 n2 k2) (.slice A3 n3 k3)); clear H cR cZ cM; intro W7 K_; obtain ⟨H, cR, cZ, cM⟩ := n3_ K_; clear K_)
    | (have hR_ : Kd.R k59 59 W7 w.heap.size (fun _ => True) (.slice (some ⟨gL, 0, none⟩) n1 cL) D.L := H.out.fact 0 rfl; obtain ⟨⟨e0_, e1_, e2_⟩, ⟨ef0, ef1, ef2⟩, -⟩ := R_zone hR_ i i0 i1; clear hR_; apply sv 59 33 gL (i.toNat * 3) [.int .i64 st, .int .i64 wp, .int .i64 gen]; intro W8 hw; clear e0_ e1_ e2_ ef0 ef1 ef2; clear cR cZ cM; replace H := Lib.hid (Pk.putZ H.out 0 ⟨st, wp, gen⟩ rfl i0 i1 hw (by intro q hq ht; simp only [List.mem_cons, List.not_mem_nil, or_false] at hq; rcases hq with rfl | rfl | rfl; exact absurd (show (53 : Nat) = 59 from ht) (by decide); exact HNE.out; exact absurd (show (53 : Nat) = 59 from ht) (by decide)) rfl); clear hw; obtain ⟨-, cR, cZ, cM⟩ := n3_ H)
    | (go_at_call 21; refine (HR2.out _ _ _ (by have h := (Kd.R_reads' (H.out.fact 0 rfl)).2.2; rw [List.length_set, ← HN1.out] at h; exact h) (Kd.R_reads' (H.out.fact 0 rfl)).2.1).mono ?_; rintro e W9 ⟨rfl, hb⟩; clear cR cZ cM; replace H := pc H hb; clear hb; obtain ⟨-, cR, cZ, cM⟩ := n3_ H; have cv := (show (convert 57 9 (.slice Ad nd kdd)).run Try.prog W9 = .ok (.string ds) W9 from (by rw [HDS.out]; exact Kd.C_string Try.underlying57 Try.underlying5 Try.underlying9 (Kd.C_below HD.out H.out.below))))
    | (go_at_call 85; refine (HWI.out _ _ ⟨SlC_R (H.out.fact 0 rfl), SlC_below HMC.out.2.1 H.out.below, SlC_below HMC.out.2.2 H.out.below⟩).mono ?_; rintro e W10 ⟨y5, q5, rfl, hY, hQ, hb⟩; clear cR cZ cM cv; obtain ⟨A5, k5, rfl⟩ := Kd.R_slice hY; obtain ⟨A6, k6, rfl⟩ := Kd.R_slice hQ; simp only [List.length_set] at hY hQ ⊢; have hb0_ := H.out.below.size; replace H := Lib.hid ((H.out.called hb).row (RowF Kd.string 9 w.heap.size (.slice A5 D.T.length k5) (D.T.set i.toNat ds)) (Kd.R_lower (hY) H.out.below.size)); replace H := Lib.hid ((H.out).row (RowF (Kd.int .i64) 3 w.heap.size (.slice A6 D.S.length k6) (D.S.set i.toNat wp)) (Kd.R_lower (hQ) hb0_)); clear hb0_; clear hY hQ; clear hb; obtain ⟨-, cR, cZ, cM⟩ := n3_ H; have cv := (show (convert 57 9 (.slice Ad nd kdd)).run Try.prog W10 = .ok (.string ds) W10 from (by rw [HDS.out]; exact Kd.C_string Try.underlying57 Try.underlying5 Try.underlying9 (Kd.C_below HD.out H.out.below))))
    | (apply sh H 0 53 8 gR (mL id m u b c z s me o a l (.slice (some ⟨gL, 0, none⟩) n1 cL) (.slice A5 D.T.length k5) (.slice A6 D.S.length k6)); clear H cR cZ cM cv; intro W11 K_; obtain ⟨H, cR, cZ, cM⟩ := n3_ K_; clear K_; have cv := (show (convert 57 9 (.slice Ad nd kdd)).run Try.prog W11 = .ok (.string ds) W11 from (by rw [HDS.out]; exact Kd.C_string Try.underlying57 Try.underlying5 Try.underlying9 (Kd.C_below HD.out H.out.below))))
  refine bodyPost_ret (results_ct rfl _ _ gR 53 (mL id m u b c z s me o a l (.slice (some ⟨gL, 0, none⟩) n1 cL) (.slice A5 D.T.length k5) (.slice A6 D.S.length k6)).toArray (0, 0) _ rfl (H.out.at_ 0 rfl) Try.underlying53 rfl (by kernel_rfl)) rfl ?_
  exact ⟨⟨_, _, _, rfl, ⟨(H.out.fact 2 rfl), (H.out.fact 1 rfl), (H.out.fact 0 rfl)⟩⟩, H.out.below⟩
theorem madopt_err (id m u b c z s me o a l : Int) (x y q : Value) (D : Mdl) (i : Int) (zn : S59) (Ad : Option Addr) (kdd : Nat) (d : List Int) (w : World) (h : MC w x y q D) (hi : MInv id m u b c z s me o a l D) (hd : Kd.C (Kd.int .u8) w Ad d.length d) (hdk : d.length ≤ kdd) (he : ¬ (adoptM id m u b c z s me o a l D i zn d).2 = 0) :
    Calls Try.prog 30 #[modV id m u b c z s me o a l x y q, .int .i64 i, zoV zn, .slice Ad d.length kdd] w fun e w' => e = .returned (.tuple #[modV 0 0 0 0 0 0 0 0 0 0 0 (.slice none 0 0) (.slice none 0 0) (.slice none 0 0), .int .i64 (adoptM id m u b c z s me o a l D i zn d).2]) ∧ Below w.heap.size w w' := by
  by_cases hin : ¬ (0 ≤ i ∧ i < (D.T.length : Int))
  · have hv : adoptM id m u b c z s me o a l D i zn d = (D, 2) := (by unfold adoptM; rw [if_pos hin]); rw [hv]; exact madopt_a id m u b c z s me o a l x y q D i zn Ad kdd d w h hi hd hdk hin
  by_cases hr : ¬ rightZ id m u b c z s me o a l (D.L.set i.toNat zn) = true
  · have hv : adoptM id m u b c z s me o a l D i zn d = (D, 1) := (by unfold adoptM; rw [if_neg hin, if_pos hr]); rw [hv]; exact madopt_b id m u b c z s me o a l x y q D i zn Ad kdd d w h hi hd hdk (Decidable.not_not.mp hin) hr
  by_cases hz : ¬ (d.length : Int) = zn.f1 * b
  · have hv : adoptM id m u b c z s me o a l D i zn d = (D, 1) := (by unfold adoptM; rw [if_neg hin, if_neg hr, if_pos hz]); rw [hv]; exact madopt_c id m u b c z s me o a l x y q D i zn Ad kdd d w h hi hd hdk (Decidable.not_not.mp hin) (Decidable.not_not.mp hr) hz
  have hv : adoptM id m u b c z s me o a l D i zn d = (⟨D.L.set i.toNat zn, D.T.set i.toNat (strOfNums d), D.S.set i.toNat zn.f1⟩, 0) := (by unfold adoptM; rw [if_neg hin, if_neg hr, if_neg hz])
  rw [hv] at he; exact absurd rfl he
theorem madopt_ok (id m u b c z s me o a l : Int) (x y q : Value) (D : Mdl) (i : Int) (zn : S59) (Ad : Option Addr) (kdd : Nat) (d : List Int) (w : World) (h : MC w x y q D) (hi : MInv id m u b c z s me o a l D) (hd : Kd.C (Kd.int .u8) w Ad d.length d) (hdk : d.length ≤ kdd) (he : (adoptM id m u b c z s me o a l D i zn d).2 = 0) :
    Calls Try.prog 30 #[modV id m u b c z s me o a l x y q, .int .i64 i, zoV zn, .slice Ad d.length kdd] w fun e w' => (∃ x' y' q' : Value, e = .returned (.tuple #[modV id m u b c z s me o a l x' y' q', .int .i64 0]) ∧ MR w.heap.size w' x' y' q' (adoptM id m u b c z s me o a l D i zn d).1) ∧ Below w.heap.size w w' := by
  by_cases hin : ¬ (0 ≤ i ∧ i < (D.T.length : Int))
  · have hv : adoptM id m u b c z s me o a l D i zn d = (D, 2) := (by unfold adoptM; rw [if_pos hin]); rw [hv] at he; exact absurd he (by show ¬ (2 : Int) = 0; decide)
  by_cases hr : ¬ rightZ id m u b c z s me o a l (D.L.set i.toNat zn) = true
  · have hv : adoptM id m u b c z s me o a l D i zn d = (D, 1) := (by unfold adoptM; rw [if_neg hin, if_pos hr]); rw [hv] at he; exact absurd he (by show ¬ (1 : Int) = 0; decide)
  by_cases hz : ¬ (d.length : Int) = zn.f1 * b
  · have hv : adoptM id m u b c z s me o a l D i zn d = (D, 1) := (by unfold adoptM; rw [if_neg hin, if_neg hr, if_pos hz]); rw [hv] at he; exact absurd he (by show ¬ (1 : Int) = 0; decide)
  have hv : adoptM id m u b c z s me o a l D i zn d = (⟨D.L.set i.toNat zn, D.T.set i.toNat (strOfNums d), D.S.set i.toNat zn.f1⟩, 0) := (by unfold adoptM; rw [if_neg hin, if_neg hr, if_neg hz])
  rw [hv]; exact madopt_d id m u b c z s me o a l x y q D i zn Ad kdd d w h hi hd hdk (Decidable.not_not.mp hin) (Decidable.not_not.mp hr) (Decidable.not_not.mp hz)
end Go.Proofs.Ytgckcaoncjhgbaa
