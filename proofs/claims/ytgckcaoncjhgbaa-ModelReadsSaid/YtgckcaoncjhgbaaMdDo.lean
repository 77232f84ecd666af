/- model.Do. -/
import Derived.WalkKit
import Derived.WalkSpells
import Derived.WalkLawsBesides
import Derived.Lib.Hide
import Derived.Test.YtgckcaoncjhgbaaFMa
import Derived.Test.YtgckcaoncjhgbaaMdWrite
import Derived.Test.YtgckcaoncjhgbaaMdRead
import Derived.Test.YtgckcaoncjhgbaaMdChange
namespace Go.Proofs.Ytgckcaoncjhgbaa
open Go.RowKit Go.Proofs.Ytgckcaoncjhgbaa.PL Go.Proofs.YtgckcaoncjhgbaaW.PrintWords Go.Proofs.YtgckcaoncjhgbaaW.PrintLast
set_option linter.unusedVariables false
set_option linter.unusedSimpArgs false
attribute [local go_sem] List.getElem?_toArray List.getElem?_cons_succ List.getElem?_cons_zero
def T_model_Do_19 : Bool × List (List Nat × List Nat) := (true, [([], []), ([], []), ([1], [1]), ([0, 0], [0]), ([2, 3, 0, 1, 2, 3], [2])])
theorem tab_model_Do_19 : rtab .any (opsOf Try.f26 19) = T_model_Do_19 := by kernel_rfl
theorem bits_model_Do_19 : waitsOk T_model_Do_19.2 [0, 0, 2, 1, 15] = true := by kernel_rfl
set_option maxHeartbeats 1000000 in
set_option maxRecDepth 100000 in
theorem mdo_write (id m u b c z s me o a l : Int) (x y q : Value) (D : Mdl) (i p n : Int) (Ad : Option Addr) (kdd : Nat) (d : List Int) (f : Bool) (w : World) (h : MC w x y q D) (hi : MInv id m u b c z s me o a l D) (hd : Kd.C (Kd.int .u8) w Ad d.length d) (hdk : d.length ≤ kdd) :
    Calls Try.prog 26 #[modV id m u b c z s me o a l x y q, cmdV 0 i p n (.slice Ad d.length kdd) f] w (RepP id m u b c z s me o a l x y q D (doM id m u b c z s me o a l D (⟨0, i, p, n, d, f⟩ : S65)).1 (doM id m u b c z s me o a l D (⟨0, i, p, n, d, f⟩ : S65)).2.1 (bytesOf (doM id m u b c z s me o a l D (⟨0, i, p, n, d, f⟩ : S65)).2.2.1) (doM id m u b c z s me o a l D (⟨0, i, p, n, d, f⟩ : S65)).2.2.2 w) := by
  have hi0 := hi
  have h00 := h
  obtain ⟨hrt, hlT, hlS, -⟩ := hi
  have hl0 := rightZ_len hrt
  have hcb := okC_bd (checkC_ok hl0.1).1
  have hb1 : 1 ≤ b := by omega
  have hL1 : D.L.length ≤ 64 := hl0.2.2.1
  have hLp : 0 < D.L.length := by have := hl0.2.1; omega
  clear hl0
  have h0 := h
  obtain ⟨⟨A1, k1, rfl, hk1, hC1⟩, ⟨A2, k2, rfl, hk2, hC2⟩, ⟨A3, k3, rfl, hk3, hC3⟩⟩ := h
  obtain ⟨n1, hn1⟩ : ∃ n, n = D.L.length := ⟨_, rfl⟩
  obtain ⟨n2, hn2⟩ : ∃ n, n = D.T.length := ⟨_, rfl⟩
  obtain ⟨n3, hn3⟩ : ∃ n, n = D.S.length := ⟨_, rfl⟩
  obtain ⟨nd, hnd⟩ : ∃ n, n = d.length := ⟨_, rfl⟩
  have hRT := fun W h => rightZ_any id m u b c z s me o a l A1 k1 D.L W h hk1
  rw [hrt] at hRT
  rw [← hn1] at h0 h00 hC1 hRT hL1 hLp hlT hlS
  rw [← hn2] at h0 h00 hlT hC2
  rw [← hn3] at h0 h00 hlS hC3
  rw [← hn1, ← hn2, ← hn3]
  have HMC := Lib.hid h0; have HC1 := Lib.hid hC1; have HRT := Lib.hid hRT
  have H := Lib.hid (Pk.start w)
  have HK := Lib.hid (fun W (h : MC W (.slice A1 n1 k1) (.slice A2 n2 k2) (.slice A3 n3 k3) D) (hd : Kd.C (Kd.int .u8) W Ad d.length d) => mwrite_any id m u b c z s me o a l (.slice A1 n1 k1) (.slice A2 n2 k2) (.slice A3 n3 k3) D 0 i p n Ad kdd d f W h hi0 hd hdk)
  have HD := Lib.hid hd
  clear hRT h0 h00 hi0 hd hdk hrt hcb hlT hlS hn1 hn2 hn3 hnd hk1 hk2 hk3 hC1 hC2 hC3
  go_enter Try.func26, Try.ntmps26
  go_wp2_with first
    | (apply bx 2 #[.int .i64 id, .int .i64 m, .int .i64 u, .int .i64 b, .int .i64 c, .int .i64 z, .int .i64 s, .int .i64 me, .int .i64 o, .int .i64 a, .int .i64 l, .slice A1 n1 k1, .slice A2 n2 k2, .slice A3 n3 k3] 53; intro gM hg W1 hx hb; replace H := Lib.hid (H.out.made hx hb hg); clear hb hx hg; have cM := H.out.cell 0 rfl)
    | (apply bx 3 #[.int .i64 0, .int .i64 i, .int .i64 p, .int .i64 n, .slice Ad d.length kdd, .bool f] 65; intro gX hg W2 hx hb; clear cM; replace H := Lib.hid (H.out.made hx hb hg); clear hb hx hg; have cX := H.out.cell 0 rfl; have cM := H.out.cell 1 rfl)
    | (apply bx 4 #[.int .i64 0, .int .i64 0, .int .i64 0, .int .i64 0, .int .i64 0, .int .i64 0, .int .i64 0, .int .i64 0, .int .i64 0, .int .i64 0, .int .i64 0, .slice none 0 0, .slice none 0 0, .slice none 0 0] 53; intro gR hg W3 hx hb; clear cX cM; replace H := Lib.hid (H.out.made hx hb hg); clear hb hx hg; have cR := H.out.cell 0 rfl; have cX := H.out.cell 1 rfl; have cM := H.out.cell 2 rfl)
    | (apply bx 5 #[.int .i64 0, .slice none 0 0, .int .i64 0, .int .i64 0, .int .i64 0] 61; intro gP hg W4 hx hb; clear cR cX cM; replace H := Lib.hid (H.out.made hx hb hg); clear hb hx hg; have cP := H.out.cell 0 rfl; have cR := H.out.cell 1 rfl; have cX := H.out.cell 2 rfl; have cM := H.out.cell 3 rfl)
    | (go_at_call 21; refine (HRT.out _ (Kd.C_below HC1.out H.out.below)).mono ?_; rintro e W5 ⟨rfl, hb⟩; clear cP cR cX cM; replace H := Lib.hid (H.out.called hb); clear hb; have cP := H.out.cell 0 rfl; have cR := H.out.cell 1 rfl; have cX := H.out.cell 2 rfl; have cM := H.out.cell 3 rfl)
    | (go_at_call 74; refine (HK.out _ (MC_below HMC.out H.out.below) (Kd.C_below HD.out H.out.below)).mono ?_; rintro e W6 hP; obtain ⟨B1, m1, j1, B2, m2, j2, B3, m3, j3, B4, m4, j4, rfl, hM, hB, hb⟩ := RepP_open hP; clear hP; clear cP cR cX cM; have hl_ := H.out.below.size; replace H := Lib.hid (((H.out.called hb).row (MdF w.heap.size (.slice A1 n1 k1) (.slice A2 n2 k2) (.slice A3 n3 k3) D (.slice B1 m1 j1) (.slice B2 m2 j2) (.slice B3 m3 j3) ((writeM id m u b c z s me o a l D i p d f).1)) (MD_lower hM hl_)).row (BytF (.slice B4 m4 j4) []) hB); clear hb hM hB hl_; have cP := H.out.cell 0 rfl; have cR := H.out.cell 1 rfl; have cX := H.out.cell 2 rfl; have cM := H.out.cell 3 rfl)
    | (have fR := H.out.froz 1 rfl; apply sv 53 4 gR 0 [.int .i64 id, .int .i64 m, .int .i64 u, .int .i64 b, .int .i64 c, .int .i64 z, .int .i64 s, .int .i64 me, .int .i64 o, .int .i64 a, .int .i64 l, .slice B1 m1 j1, .slice B2 m2 j2, .slice B3 m3 j3]; intro W7 hw; clear fR; clear cP cR cX cM; replace H := Lib.hid (H.out.putw 1 rfl hw rfl rfl); clear hw; have cP := H.out.cell 0 rfl; have cR := H.out.cell 1 rfl; have cX := H.out.cell 2 rfl; have cM := H.out.cell 3 rfl)
    | (have fP := H.out.froz 0 rfl; apply sv 61 5 gP 0 [.int .i64 (writeM id m u b c z s me o a l D i p d f).2, .slice B4 m4 j4, .int .i64 0, .int .i64 0, .int .i64 0]; intro W8 hw; clear fP; clear cP cR cX cM; replace H := Lib.hid (H.out.putw 0 rfl hw rfl rfl); clear hw; have cP := H.out.cell 0 rfl; have cR := H.out.cell 1 rfl; have cX := H.out.cell 2 rfl; have cM := H.out.cell 3 rfl)
  refine bodyPost_ret (results_cc rfl _ _ gR gP 53 61 #[.int .i64 id, .int .i64 m, .int .i64 u, .int .i64 b, .int .i64 c, .int .i64 z, .int .i64 s, .int .i64 me, .int .i64 o, .int .i64 a, .int .i64 l, .slice B1 m1 j1, .slice B2 m2 j2, .slice B3 m3 j3] #[.int .i64 (writeM id m u b c z s me o a l D i p d f).2, .slice B4 m4 j4, .int .i64 0, .int .i64 0, .int .i64 0] (0, 0) (0, 0) _ _ rfl (H.out.at_ 1 rfl) Try.underlying53 rfl (by kernel_rfl) rfl (H.out.at_ 0 rfl) Try.underlying61 rfl (by kernel_rfl)) rfl ?_
  exact RepP_mk rfl (H.out.fact 1 rfl) (H.out.fact 0 rfl) H.out.below
set_option maxHeartbeats 1000000 in
set_option maxRecDepth 100000 in
theorem mdo_read (id m u b c z s me o a l : Int) (x y q : Value) (D : Mdl) (i p n : Int) (Ad : Option Addr) (kdd : Nat) (d : List Int) (f : Bool) (w : World) (h : MC w x y q D) (hi : MInv id m u b c z s me o a l D) (hd : Kd.C (Kd.int .u8) w Ad d.length d) (hdk : d.length ≤ kdd) :
    Calls Try.prog 26 #[modV id m u b c z s me o a l x y q, cmdV 1 i p n (.slice Ad d.length kdd) f] w (RepP id m u b c z s me o a l x y q D (doM id m u b c z s me o a l D (⟨1, i, p, n, d, f⟩ : S65)).1 (doM id m u b c z s me o a l D (⟨1, i, p, n, d, f⟩ : S65)).2.1 (bytesOf (doM id m u b c z s me o a l D (⟨1, i, p, n, d, f⟩ : S65)).2.2.1) (doM id m u b c z s me o a l D (⟨1, i, p, n, d, f⟩ : S65)).2.2.2 w) := by
  have hi0 := hi
  have h00 := h
  obtain ⟨hrt, hlT, hlS, -⟩ := hi
  have hl0 := rightZ_len hrt
  have hcb := okC_bd (checkC_ok hl0.1).1
  have hb1 : 1 ≤ b := by omega
  have hL1 : D.L.length ≤ 64 := hl0.2.2.1
  have hLp : 0 < D.L.length := by have := hl0.2.1; omega
  clear hl0
  have h0 := h
  obtain ⟨⟨A1, k1, rfl, hk1, hC1⟩, ⟨A2, k2, rfl, hk2, hC2⟩, ⟨A3, k3, rfl, hk3, hC3⟩⟩ := h
  obtain ⟨n1, hn1⟩ : ∃ n, n = D.L.length := ⟨_, rfl⟩
  obtain ⟨n2, hn2⟩ : ∃ n, n = D.T.length := ⟨_, rfl⟩
  obtain ⟨n3, hn3⟩ : ∃ n, n = D.S.length := ⟨_, rfl⟩
  obtain ⟨nd, hnd⟩ : ∃ n, n = d.length := ⟨_, rfl⟩
  have hRT := fun W h => rightZ_any id m u b c z s me o a l A1 k1 D.L W h hk1
  rw [hrt] at hRT
  rw [← hn1] at h0 h00 hC1 hRT hL1 hLp hlT hlS
  rw [← hn2] at h0 h00 hlT hC2
  rw [← hn3] at h0 h00 hlS hC3
  rw [← hn1, ← hn2, ← hn3]
  have HMC := Lib.hid h0; have HC1 := Lib.hid hC1; have HRT := Lib.hid hRT
  have H := Lib.hid (Pk.start w)
  have HK := Lib.hid (fun W (h : MC W (.slice A1 n1 k1) (.slice A2 n2 k2) (.slice A3 n3 k3) D) (hd : Kd.C (Kd.int .u8) W Ad d.length d) => mread_any id m u b c z s me o a l (.slice A1 n1 k1) (.slice A2 n2 k2) (.slice A3 n3 k3) D 1 i p n Ad d.length kdd f W h hi0)
  have HD := Lib.hid hd
  clear hRT h0 h00 hi0 hd hdk hrt hcb hlT hlS hn1 hn2 hn3 hnd hk1 hk2 hk3 hC1 hC2 hC3
  go_enter Try.func26, Try.ntmps26
  go_wp2_with first
    | (apply bx 2 #[.int .i64 id, .int .i64 m, .int .i64 u, .int .i64 b, .int .i64 c, .int .i64 z, .int .i64 s, .int .i64 me, .int .i64 o, .int .i64 a, .int .i64 l, .slice A1 n1 k1, .slice A2 n2 k2, .slice A3 n3 k3] 53; intro gM hg W1 hx hb; replace H := Lib.hid (H.out.made hx hb hg); clear hb hx hg; have cM := H.out.cell 0 rfl)
    | (apply bx 3 #[.int .i64 1, .int .i64 i, .int .i64 p, .int .i64 n, .slice Ad d.length kdd, .bool f] 65; intro gX hg W2 hx hb; clear cM; replace H := Lib.hid (H.out.made hx hb hg); clear hb hx hg; have cX := H.out.cell 0 rfl; have cM := H.out.cell 1 rfl)
    | (apply bx 4 #[.int .i64 0, .int .i64 0, .int .i64 0, .int .i64 0, .int .i64 0, .int .i64 0, .int .i64 0, .int .i64 0, .int .i64 0, .int .i64 0, .int .i64 0, .slice none 0 0, .slice none 0 0, .slice none 0 0] 53; intro gR hg W3 hx hb; clear cX cM; replace H := Lib.hid (H.out.made hx hb hg); clear hb hx hg; have cR := H.out.cell 0 rfl; have cX := H.out.cell 1 rfl; have cM := H.out.cell 2 rfl)
    | (apply bx 5 #[.int .i64 0, .slice none 0 0, .int .i64 0, .int .i64 0, .int .i64 0] 61; intro gP hg W4 hx hb; clear cR cX cM; replace H := Lib.hid (H.out.made hx hb hg); clear hb hx hg; have cP := H.out.cell 0 rfl; have cR := H.out.cell 1 rfl; have cX := H.out.cell 2 rfl; have cM := H.out.cell 3 rfl)
    | (go_at_call 21; refine (HRT.out _ (Kd.C_below HC1.out H.out.below)).mono ?_; rintro e W5 ⟨rfl, hb⟩; clear cP cR cX cM; replace H := Lib.hid (H.out.called hb); clear hb; have cP := H.out.cell 0 rfl; have cR := H.out.cell 1 rfl; have cX := H.out.cell 2 rfl; have cM := H.out.cell 3 rfl)
    | (go_at_call 75; refine (HK.out _ (MC_below HMC.out H.out.below) (Kd.C_below HD.out H.out.below)).mono ?_; rintro e W6 hP; obtain ⟨B1, m1, j1, B2, m2, j2, B3, m3, j3, B4, m4, j4, rfl, hM, hB, hb⟩ := RepP_open hP; clear hP; clear cP cR cX cM; have hl_ := H.out.below.size; replace H := Lib.hid (((H.out.called hb).row (MdF w.heap.size (.slice A1 n1 k1) (.slice A2 n2 k2) (.slice A3 n3 k3) D (.slice B1 m1 j1) (.slice B2 m2 j2) (.slice B3 m3 j3) (D)) (MD_lower hM hl_)).row (BytF (.slice B4 m4 j4) (bytesOf (readM id m u b c z s me o a l D i p n).2)) hB); clear hb hM hB hl_; have cP := H.out.cell 0 rfl; have cR := H.out.cell 1 rfl; have cX := H.out.cell 2 rfl; have cM := H.out.cell 3 rfl)
    | (have fR := H.out.froz 1 rfl; apply sv 53 4 gR 0 [.int .i64 id, .int .i64 m, .int .i64 u, .int .i64 b, .int .i64 c, .int .i64 z, .int .i64 s, .int .i64 me, .int .i64 o, .int .i64 a, .int .i64 l, .slice B1 m1 j1, .slice B2 m2 j2, .slice B3 m3 j3]; intro W7 hw; clear fR; clear cP cR cX cM; replace H := Lib.hid (H.out.putw 1 rfl hw rfl rfl); clear hw; have cP := H.out.cell 0 rfl; have cR := H.out.cell 1 rfl; have cX := H.out.cell 2 rfl; have cM := H.out.cell 3 rfl)
    | (have fP := H.out.froz 0 rfl; apply sv 61 5 gP 0 [.int .i64 (readM id m u b c z s me o a l D i p n).1, .slice B4 m4 j4, .int .i64 0, .int .i64 0, .int .i64 0]; intro W8 hw; clear fP; clear cP cR cX cM; replace H := Lib.hid (H.out.putw 0 rfl hw rfl rfl); clear hw; have cP := H.out.cell 0 rfl; have cR := H.out.cell 1 rfl; have cX := H.out.cell 2 rfl; have cM := H.out.cell 3 rfl)
  refine bodyPost_ret (results_cc rfl _ _ gR gP 53 61 #[.int .i64 id, .int .i64 m, .int .i64 u, .int .i64 b, .int .i64 c, .int .i64 z, .int .i64 s, .int .i64 me, .int .i64 o, .int .i64 a, .int .i64 l, .slice B1 m1 j1, .slice B2 m2 j2, .slice B3 m3 j3] #[.int .i64 (readM id m u b c z s me o a l D i p n).1, .slice B4 m4 j4, .int .i64 0, .int .i64 0, .int .i64 0] (0, 0) (0, 0) _ _ rfl (H.out.at_ 1 rfl) Try.underlying53 rfl (by kernel_rfl) rfl (H.out.at_ 0 rfl) Try.underlying61 rfl (by kernel_rfl)) rfl ?_
  exact RepP_mk rfl (H.out.fact 1 rfl) (H.out.fact 0 rfl) H.out.below
set_option maxHeartbeats 1000000 in
set_option maxRecDepth 100000 in
theorem mdo_reset (id m u b c z s me o a l : Int) (x y q : Value) (D : Mdl) (i p n : Int) (Ad : Option Addr) (kdd : Nat) (d : List Int) (f : Bool) (w : World) (h : MC w x y q D) (hi : MInv id m u b c z s me o a l D) (hd : Kd.C (Kd.int .u8) w Ad d.length d) (hdk : d.length ≤ kdd) :
    Calls Try.prog 26 #[modV id m u b c z s me o a l x y q, cmdV 3 i p n (.slice Ad d.length kdd) f] w (RepP id m u b c z s me o a l x y q D (doM id m u b c z s me o a l D (⟨3, i, p, n, d, f⟩ : S65)).1 (doM id m u b c z s me o a l D (⟨3, i, p, n, d, f⟩ : S65)).2.1 (bytesOf (doM id m u b c z s me o a l D (⟨3, i, p, n, d, f⟩ : S65)).2.2.1) (doM id m u b c z s me o a l D (⟨3, i, p, n, d, f⟩ : S65)).2.2.2 w) := by
  have hi0 := hi
  have h00 := h
  obtain ⟨hrt, hlT, hlS, -⟩ := hi
  have hl0 := rightZ_len hrt
  have hcb := okC_bd (checkC_ok hl0.1).1
  have hb1 : 1 ≤ b := by omega
  have hL1 : D.L.length ≤ 64 := hl0.2.2.1
  have hLp : 0 < D.L.length := by have := hl0.2.1; omega
  clear hl0
  have h0 := h
  obtain ⟨⟨A1, k1, rfl, hk1, hC1⟩, ⟨A2, k2, rfl, hk2, hC2⟩, ⟨A3, k3, rfl, hk3, hC3⟩⟩ := h
  obtain ⟨n1, hn1⟩ : ∃ n, n = D.L.length := ⟨_, rfl⟩
  obtain ⟨n2, hn2⟩ : ∃ n, n = D.T.length := ⟨_, rfl⟩
  obtain ⟨n3, hn3⟩ : ∃ n, n = D.S.length := ⟨_, rfl⟩
  obtain ⟨nd, hnd⟩ : ∃ n, n = d.length := ⟨_, rfl⟩
  have hRT := fun W h => rightZ_any id m u b c z s me o a l A1 k1 D.L W h hk1
  rw [hrt] at hRT
  rw [← hn1] at h0 h00 hC1 hRT hL1 hLp hlT hlS
  rw [← hn2] at h0 h00 hlT hC2
  rw [← hn3] at h0 h00 hlS hC3
  rw [← hn1, ← hn2, ← hn3]
  have HMC := Lib.hid h0; have HC1 := Lib.hid hC1; have HRT := Lib.hid hRT
  have H := Lib.hid (Pk.start w)
  have HK := Lib.hid (fun W (h : MC W (.slice A1 n1 k1) (.slice A2 n2 k2) (.slice A3 n3 k3) D) (hd : Kd.C (Kd.int .u8) W Ad d.length d) => mreset_any id m u b c z s me o a l (.slice A1 n1 k1) (.slice A2 n2 k2) (.slice A3 n3 k3) D i p n Ad d.length kdd f W h hi0)
  have HD := Lib.hid hd
  clear hRT h0 h00 hi0 hd hdk hrt hcb hlT hlS hn1 hn2 hn3 hnd hk1 hk2 hk3 hC1 hC2 hC3
  go_enter Try.func26, Try.ntmps26
  go_wp2_with first
    | (apply bx 2 #[.int .i64 id, .int .i64 m, .int .i64 u, .int .i64 b, .int .i64 c, .int .i64 z, .int .i64 s, .int .i64 me, .int .i64 o, .int .i64 a, .int .i64 l, .slice A1 n1 k1, .slice A2 n2 k2, .slice A3 n3 k3] 53; intro gM hg W1 hx hb; replace H := Lib.hid (H.out.made hx hb hg); clear hb hx hg; have cM := H.out.cell 0 rfl)
    | (apply bx 3 #[.int .i64 3, .int .i64 i, .int .i64 p, .int .i64 n, .slice Ad d.length kdd, .bool f] 65; intro gX hg W2 hx hb; clear cM; replace H := Lib.hid (H.out.made hx hb hg); clear hb hx hg; have cX := H.out.cell 0 rfl; have cM := H.out.cell 1 rfl)
    | (apply bx 4 #[.int .i64 0, .int .i64 0, .int .i64 0, .int .i64 0, .int .i64 0, .int .i64 0, .int .i64 0, .int .i64 0, .int .i64 0, .int .i64 0, .int .i64 0, .slice none 0 0, .slice none 0 0, .slice none 0 0] 53; intro gR hg W3 hx hb; clear cX cM; replace H := Lib.hid (H.out.made hx hb hg); clear hb hx hg; have cR := H.out.cell 0 rfl; have cX := H.out.cell 1 rfl; have cM := H.out.cell 2 rfl)
    | (apply bx 5 #[.int .i64 0, .slice none 0 0, .int .i64 0, .int .i64 0, .int .i64 0] 61; intro gP hg W4 hx hb; clear cR cX cM; replace H := Lib.hid (H.out.made hx hb hg); clear hb hx hg; have cP := H.out.cell 0 rfl; have cR := H.out.cell 1 rfl; have cX := H.out.cell 2 rfl; have cM := H.out.cell 3 rfl)
    | (go_at_call 21; refine (HRT.out _ (Kd.C_below HC1.out H.out.below)).mono ?_; rintro e W5 ⟨rfl, hb⟩; clear cP cR cX cM; replace H := Lib.hid (H.out.called hb); clear hb; have cP := H.out.cell 0 rfl; have cR := H.out.cell 1 rfl; have cX := H.out.cell 2 rfl; have cM := H.out.cell 3 rfl)
    | (go_at_call 77; refine (HK.out _ (MC_below HMC.out H.out.below) (Kd.C_below HD.out H.out.below)).mono ?_; rintro e W6 hP; obtain ⟨B1, m1, j1, B2, m2, j2, B3, m3, j3, B4, m4, j4, rfl, hM, hB, hb⟩ := RepP_open hP; clear hP; clear cP cR cX cM; have hl_ := H.out.below.size; replace H := Lib.hid (((H.out.called hb).row (MdF w.heap.size (.slice A1 n1 k1) (.slice A2 n2 k2) (.slice A3 n3 k3) D (.slice B1 m1 j1) (.slice B2 m2 j2) (.slice B3 m3 j3) ((changeM D 3 i (resetZ id m u b c z s me o a l D.L i)).1)) (MD_lower hM hl_)).row (BytF (.slice B4 m4 j4) []) hB); clear hb hM hB hl_; have cP := H.out.cell 0 rfl; have cR := H.out.cell 1 rfl; have cX := H.out.cell 2 rfl; have cM := H.out.cell 3 rfl)
    | (have fR := H.out.froz 1 rfl; apply sv 53 4 gR 0 [.int .i64 id, .int .i64 m, .int .i64 u, .int .i64 b, .int .i64 c, .int .i64 z, .int .i64 s, .int .i64 me, .int .i64 o, .int .i64 a, .int .i64 l, .slice B1 m1 j1, .slice B2 m2 j2, .slice B3 m3 j3]; intro W7 hw; clear fR; clear cP cR cX cM; replace H := Lib.hid (H.out.putw 1 rfl hw rfl rfl); clear hw; have cP := H.out.cell 0 rfl; have cR := H.out.cell 1 rfl; have cX := H.out.cell 2 rfl; have cM := H.out.cell 3 rfl)
    | (have fP := H.out.froz 0 rfl; apply sv 61 5 gP 0 [.int .i64 (changeM D 3 i (resetZ id m u b c z s me o a l D.L i)).2, .slice B4 m4 j4, .int .i64 0, .int .i64 0, .int .i64 0]; intro W8 hw; clear fP; clear cP cR cX cM; replace H := Lib.hid (H.out.putw 0 rfl hw rfl rfl); clear hw; have cP := H.out.cell 0 rfl; have cR := H.out.cell 1 rfl; have cX := H.out.cell 2 rfl; have cM := H.out.cell 3 rfl)
  refine bodyPost_ret (results_cc rfl _ _ gR gP 53 61 #[.int .i64 id, .int .i64 m, .int .i64 u, .int .i64 b, .int .i64 c, .int .i64 z, .int .i64 s, .int .i64 me, .int .i64 o, .int .i64 a, .int .i64 l, .slice B1 m1 j1, .slice B2 m2 j2, .slice B3 m3 j3] #[.int .i64 (changeM D 3 i (resetZ id m u b c z s me o a l D.L i)).2, .slice B4 m4 j4, .int .i64 0, .int .i64 0, .int .i64 0] (0, 0) (0, 0) _ _ rfl (H.out.at_ 1 rfl) Try.underlying53 rfl (by kernel_rfl) rfl (H.out.at_ 0 rfl) Try.underlying61 rfl (by kernel_rfl)) rfl ?_
  exact RepP_mk rfl (H.out.fact 1 rfl) (H.out.fact 0 rfl) H.out.below
set_option maxHeartbeats 1000000 in
set_option maxRecDepth 100000 in
theorem mdo_finish (id m u b c z s me o a l : Int) (x y q : Value) (D : Mdl) (i p n : Int) (Ad : Option Addr) (kdd : Nat) (d : List Int) (f : Bool) (w : World) (h : MC w x y q D) (hi : MInv id m u b c z s me o a l D) (hd : Kd.C (Kd.int .u8) w Ad d.length d) (hdk : d.length ≤ kdd) :
    Calls Try.prog 26 #[modV id m u b c z s me o a l x y q, cmdV 4 i p n (.slice Ad d.length kdd) f] w (RepP id m u b c z s me o a l x y q D (doM id m u b c z s me o a l D (⟨4, i, p, n, d, f⟩ : S65)).1 (doM id m u b c z s me o a l D (⟨4, i, p, n, d, f⟩ : S65)).2.1 (bytesOf (doM id m u b c z s me o a l D (⟨4, i, p, n, d, f⟩ : S65)).2.2.1) (doM id m u b c z s me o a l D (⟨4, i, p, n, d, f⟩ : S65)).2.2.2 w) := by
  have hi0 := hi
  have h00 := h
  obtain ⟨hrt, hlT, hlS, -⟩ := hi
  have hl0 := rightZ_len hrt
  have hcb := okC_bd (checkC_ok hl0.1).1
  have hb1 : 1 ≤ b := by omega
  have hL1 : D.L.length ≤ 64 := hl0.2.2.1
  have hLp : 0 < D.L.length := by have := hl0.2.1; omega
  clear hl0
  have h0 := h
  obtain ⟨⟨A1, k1, rfl, hk1, hC1⟩, ⟨A2, k2, rfl, hk2, hC2⟩, ⟨A3, k3, rfl, hk3, hC3⟩⟩ := h
  obtain ⟨n1, hn1⟩ : ∃ n, n = D.L.length := ⟨_, rfl⟩
  obtain ⟨n2, hn2⟩ : ∃ n, n = D.T.length := ⟨_, rfl⟩
  obtain ⟨n3, hn3⟩ : ∃ n, n = D.S.length := ⟨_, rfl⟩
  obtain ⟨nd, hnd⟩ : ∃ n, n = d.length := ⟨_, rfl⟩
  have hRT := fun W h => rightZ_any id m u b c z s me o a l A1 k1 D.L W h hk1
  rw [hrt] at hRT
  rw [← hn1] at h0 h00 hC1 hRT hL1 hLp hlT hlS
  rw [← hn2] at h0 h00 hlT hC2
  rw [← hn3] at h0 h00 hlS hC3
  rw [← hn1, ← hn2, ← hn3]
  have HMC := Lib.hid h0; have HC1 := Lib.hid hC1; have HRT := Lib.hid hRT
  have H := Lib.hid (Pk.start w)
  have HK := Lib.hid (fun W (h : MC W (.slice A1 n1 k1) (.slice A2 n2 k2) (.slice A3 n3 k3) D) (hd : Kd.C (Kd.int .u8) W Ad d.length d) => mfinish_any id m u b c z s me o a l (.slice A1 n1 k1) (.slice A2 n2 k2) (.slice A3 n3 k3) D i p n Ad d.length kdd f W h hi0)
  have HD := Lib.hid hd
  clear hRT h0 h00 hi0 hd hdk hrt hcb hlT hlS hn1 hn2 hn3 hnd hk1 hk2 hk3 hC1 hC2 hC3
  go_enter Try.func26, Try.ntmps26
  go_wp2_with first
    | (apply bx 2 #[.int .i64 id, .int .i64 m, .int .i64 u, .int .i64 b, .int .i64 c, .int .i64 z, .int .i64 s, .int .i64 me, .int .i64 o, .int .i64 a, .int .i64 l, .slice A1 n1 k1, .slice A2 n2 k2, .slice A3 n3 k3] 53; intro gM hg W1 hx hb; replace H := Lib.hid (H.out.made hx hb hg); clear hb hx hg; have cM := H.out.cell 0 rfl)
    | (apply bx 3 #[.int .i64 4, .int .i64 i, .int .i64 p, .int .i64 n, .slice Ad d.length kdd, .bool f] 65; intro gX hg W2 hx hb; clear cM; replace H := Lib.hid (H.out.made hx hb hg); clear hb hx hg; have cX := H.out.cell 0 rfl; have cM := H.out.cell 1 rfl)
    | (apply bx 4 #[.int .i64 0, .int .i64 0, .int .i64 0, .int .i64 0, .int .i64 0, .int .i64 0, .int .i64 0, .int .i64 0, .int .i64 0, .int .i64 0, .int .i64 0, .slice none 0 0, .slice none 0 0, .slice none 0 0] 53; intro gR hg W3 hx hb; clear cX cM; replace H := Lib.hid (H.out.made hx hb hg); clear hb hx hg; have cR := H.out.cell 0 rfl; have cX := H.out.cell 1 rfl; have cM := H.out.cell 2 rfl)
    | (apply bx 5 #[.int .i64 0, .slice none 0 0, .int .i64 0, .int .i64 0, .int .i64 0] 61; intro gP hg W4 hx hb; clear cR cX cM; replace H := Lib.hid (H.out.made hx hb hg); clear hb hx hg; have cP := H.out.cell 0 rfl; have cR := H.out.cell 1 rfl; have cX := H.out.cell 2 rfl; have cM := H.out.cell 3 rfl)
    | (go_at_call 21; refine (HRT.out _ (Kd.C_below HC1.out H.out.below)).mono ?_; rintro e W5 ⟨rfl, hb⟩; clear cP cR cX cM; replace H := Lib.hid (H.out.called hb); clear hb; have cP := H.out.cell 0 rfl; have cR := H.out.cell 1 rfl; have cX := H.out.cell 2 rfl; have cM := H.out.cell 3 rfl)
    | (go_at_call 77; refine (HK.out _ (MC_below HMC.out H.out.below) (Kd.C_below HD.out H.out.below)).mono ?_; rintro e W6 hP; obtain ⟨B1, m1, j1, B2, m2, j2, B3, m3, j3, B4, m4, j4, rfl, hM, hB, hb⟩ := RepP_open hP; clear hP; clear cP cR cX cM; have hl_ := H.out.below.size; replace H := Lib.hid (((H.out.called hb).row (MdF w.heap.size (.slice A1 n1 k1) (.slice A2 n2 k2) (.slice A3 n3 k3) D (.slice B1 m1 j1) (.slice B2 m2 j2) (.slice B3 m3 j3) ((changeM D 4 i (finishZ id m u b c z s me o a l D.L i)).1)) (MD_lower hM hl_)).row (BytF (.slice B4 m4 j4) []) hB); clear hb hM hB hl_; have cP := H.out.cell 0 rfl; have cR := H.out.cell 1 rfl; have cX := H.out.cell 2 rfl; have cM := H.out.cell 3 rfl)
    | (have fR := H.out.froz 1 rfl; apply sv 53 4 gR 0 [.int .i64 id, .int .i64 m, .int .i64 u, .int .i64 b, .int .i64 c, .int .i64 z, .int .i64 s, .int .i64 me, .int .i64 o, .int .i64 a, .int .i64 l, .slice B1 m1 j1, .slice B2 m2 j2, .slice B3 m3 j3]; intro W7 hw; clear fR; clear cP cR cX cM; replace H := Lib.hid (H.out.putw 1 rfl hw rfl rfl); clear hw; have cP := H.out.cell 0 rfl; have cR := H.out.cell 1 rfl; have cX := H.out.cell 2 rfl; have cM := H.out.cell 3 rfl)
    | (have fP := H.out.froz 0 rfl; apply sv 61 5 gP 0 [.int .i64 (changeM D 4 i (finishZ id m u b c z s me o a l D.L i)).2, .slice B4 m4 j4, .int .i64 0, .int .i64 0, .int .i64 0]; intro W8 hw; clear fP; clear cP cR cX cM; replace H := Lib.hid (H.out.putw 0 rfl hw rfl rfl); clear hw; have cP := H.out.cell 0 rfl; have cR := H.out.cell 1 rfl; have cX := H.out.cell 2 rfl; have cM := H.out.cell 3 rfl)
  refine bodyPost_ret (results_cc rfl _ _ gR gP 53 61 #[.int .i64 id, .int .i64 m, .int .i64 u, .int .i64 b, .int .i64 c, .int .i64 z, .int .i64 s, .int .i64 me, .int .i64 o, .int .i64 a, .int .i64 l, .slice B1 m1 j1, .slice B2 m2 j2, .slice B3 m3 j3] #[.int .i64 (changeM D 4 i (finishZ id m u b c z s me o a l D.L i)).2, .slice B4 m4 j4, .int .i64 0, .int .i64 0, .int .i64 0] (0, 0) (0, 0) _ _ rfl (H.out.at_ 1 rfl) Try.underlying53 rfl (by kernel_rfl) rfl (H.out.at_ 0 rfl) Try.underlying61 rfl (by kernel_rfl)) rfl ?_
  exact RepP_mk rfl (H.out.fact 1 rfl) (H.out.fact 0 rfl) H.out.below
set_option maxHeartbeats 1000000 in
set_option maxRecDepth 100000 in
theorem mdo_open (id m u b c z s me o a l : Int) (x y q : Value) (D : Mdl) (i p n : Int) (Ad : Option Addr) (kdd : Nat) (d : List Int) (f : Bool) (w : World) (h : MC w x y q D) (hi : MInv id m u b c z s me o a l D) (hd : Kd.C (Kd.int .u8) w Ad d.length d) (hdk : d.length ≤ kdd) :
    Calls Try.prog 26 #[modV id m u b c z s me o a l x y q, cmdV 5 i p n (.slice Ad d.length kdd) f] w (RepP id m u b c z s me o a l x y q D (doM id m u b c z s me o a l D (⟨5, i, p, n, d, f⟩ : S65)).1 (doM id m u b c z s me o a l D (⟨5, i, p, n, d, f⟩ : S65)).2.1 (bytesOf (doM id m u b c z s me o a l D (⟨5, i, p, n, d, f⟩ : S65)).2.2.1) (doM id m u b c z s me o a l D (⟨5, i, p, n, d, f⟩ : S65)).2.2.2 w) := by
  have hi0 := hi
  have h00 := h
  obtain ⟨hrt, hlT, hlS, -⟩ := hi
  have hl0 := rightZ_len hrt
  have hcb := okC_bd (checkC_ok hl0.1).1
  have hb1 : 1 ≤ b := by omega
  have hL1 : D.L.length ≤ 64 := hl0.2.2.1
  have hLp : 0 < D.L.length := by have := hl0.2.1; omega
  clear hl0
  have h0 := h
  obtain ⟨⟨A1, k1, rfl, hk1, hC1⟩, ⟨A2, k2, rfl, hk2, hC2⟩, ⟨A3, k3, rfl, hk3, hC3⟩⟩ := h
  obtain ⟨n1, hn1⟩ : ∃ n, n = D.L.length := ⟨_, rfl⟩
  obtain ⟨n2, hn2⟩ : ∃ n, n = D.T.length := ⟨_, rfl⟩
  obtain ⟨n3, hn3⟩ : ∃ n, n = D.S.length := ⟨_, rfl⟩
  obtain ⟨nd, hnd⟩ : ∃ n, n = d.length := ⟨_, rfl⟩
  have hRT := fun W h => rightZ_any id m u b c z s me o a l A1 k1 D.L W h hk1
  rw [hrt] at hRT
  rw [← hn1] at h0 h00 hC1 hRT hL1 hLp hlT hlS
  rw [← hn2] at h0 h00 hlT hC2
  rw [← hn3] at h0 h00 hlS hC3
  rw [← hn1, ← hn2, ← hn3]
  have HMC := Lib.hid h0; have HC1 := Lib.hid hC1; have HRT := Lib.hid hRT
  have H := Lib.hid (Pk.start w)
  have HK := Lib.hid (fun W (h : MC W (.slice A1 n1 k1) (.slice A2 n2 k2) (.slice A3 n3 k3) D) (hd : Kd.C (Kd.int .u8) W Ad d.length d) => mopen_any id m u b c z s me o a l (.slice A1 n1 k1) (.slice A2 n2 k2) (.slice A3 n3 k3) D i p n Ad d.length kdd f W h hi0)
  have HD := Lib.hid hd
  clear hRT h0 h00 hi0 hd hdk hrt hcb hlT hlS hn1 hn2 hn3 hnd hk1 hk2 hk3 hC1 hC2 hC3
  go_enter Try.func26, Try.ntmps26
  go_wp2_with first
    | (apply bx 2 #[.int .i64 id, .int .i64 m, .int .i64 u, .int .i64 b, .int .i64 c, .int .i64 z, .int .i64 s, .int .i64 me, .int .i64 o, .int .i64 a, .int .i64 l, .slice A1 n1 k1, .slice A2 n2 k2, .slice A3 n3 k3] 53; intro gM hg W1 hx hb; replace H := Lib.hid (H.out.made hx hb hg); clear hb hx hg; have cM := H.out.cell 0 rfl)
    | (apply bx 3 #[.int .i64 5, .int .i64 i, .int .i64 p, .int .i64 n, .slice Ad d.length kdd, .bool f] 65; intro gX hg W2 hx hb; clear cM; replace H := Lib.hid (H.out.made hx hb hg); clear hb hx hg; have cX := H.out.cell 0 rfl; have cM := H.out.cell 1 rfl)
    | (apply bx 4 #[.int .i64 0, .int .i64 0, .int .i64 0, .int .i64 0, .int .i64 0, .int .i64 0, .int .i64 0, .int .i64 0, .int .i64 0, .int .i64 0, .int .i64 0, .slice none 0 0, .slice none 0 0, .slice none 0 0] 53; intro gR hg W3 hx hb; clear cX cM; replace H := Lib.hid (H.out.made hx hb hg); clear hb hx hg; have cR := H.out.cell 0 rfl; have cX := H.out.cell 1 rfl; have cM := H.out.cell 2 rfl)
    | (apply bx 5 #[.int .i64 0, .slice none 0 0, .int .i64 0, .int .i64 0, .int .i64 0] 61; intro gP hg W4 hx hb; clear cR cX cM; replace H := Lib.hid (H.out.made hx hb hg); clear hb hx hg; have cP := H.out.cell 0 rfl; have cR := H.out.cell 1 rfl; have cX := H.out.cell 2 rfl; have cM := H.out.cell 3 rfl)
    | (go_at_call 21; refine (HRT.out _ (Kd.C_below HC1.out H.out.below)).mono ?_; rintro e W5 ⟨rfl, hb⟩; clear cP cR cX cM; replace H := Lib.hid (H.out.called hb); clear hb; have cP := H.out.cell 0 rfl; have cR := H.out.cell 1 rfl; have cX := H.out.cell 2 rfl; have cM := H.out.cell 3 rfl)
    | (go_at_call 77; refine (HK.out _ (MC_below HMC.out H.out.below) (Kd.C_below HD.out H.out.below)).mono ?_; rintro e W6 hP; obtain ⟨B1, m1, j1, B2, m2, j2, B3, m3, j3, B4, m4, j4, rfl, hM, hB, hb⟩ := RepP_open hP; clear hP; clear cP cR cX cM; have hl_ := H.out.below.size; replace H := Lib.hid (((H.out.called hb).row (MdF w.heap.size (.slice A1 n1 k1) (.slice A2 n2 k2) (.slice A3 n3 k3) D (.slice B1 m1 j1) (.slice B2 m2 j2) (.slice B3 m3 j3) ((changeM D 5 i (openZ id m u b c z s me o a l D.L i)).1)) (MD_lower hM hl_)).row (BytF (.slice B4 m4 j4) []) hB); clear hb hM hB hl_; have cP := H.out.cell 0 rfl; have cR := H.out.cell 1 rfl; have cX := H.out.cell 2 rfl; have cM := H.out.cell 3 rfl)
    | (have fR := H.out.froz 1 rfl; apply sv 53 4 gR 0 [.int .i64 id, .int .i64 m, .int .i64 u, .int .i64 b, .int .i64 c, .int .i64 z, .int .i64 s, .int .i64 me, .int .i64 o, .int .i64 a, .int .i64 l, .slice B1 m1 j1, .slice B2 m2 j2, .slice B3 m3 j3]; intro W7 hw; clear fR; clear cP cR cX cM; replace H := Lib.hid (H.out.putw 1 rfl hw rfl rfl); clear hw; have cP := H.out.cell 0 rfl; have cR := H.out.cell 1 rfl; have cX := H.out.cell 2 rfl; have cM := H.out.cell 3 rfl)
    | (have fP := H.out.froz 0 rfl; apply sv 61 5 gP 0 [.int .i64 (changeM D 5 i (openZ id m u b c z s me o a l D.L i)).2, .slice B4 m4 j4, .int .i64 0, .int .i64 0, .int .i64 0]; intro W8 hw; clear fP; clear cP cR cX cM; replace H := Lib.hid (H.out.putw 0 rfl hw rfl rfl); clear hw; have cP := H.out.cell 0 rfl; have cR := H.out.cell 1 rfl; have cX := H.out.cell 2 rfl; have cM := H.out.cell 3 rfl)
  refine bodyPost_ret (results_cc rfl _ _ gR gP 53 61 #[.int .i64 id, .int .i64 m, .int .i64 u, .int .i64 b, .int .i64 c, .int .i64 z, .int .i64 s, .int .i64 me, .int .i64 o, .int .i64 a, .int .i64 l, .slice B1 m1 j1, .slice B2 m2 j2, .slice B3 m3 j3] #[.int .i64 (changeM D 5 i (openZ id m u b c z s me o a l D.L i)).2, .slice B4 m4 j4, .int .i64 0, .int .i64 0, .int .i64 0] (0, 0) (0, 0) _ _ rfl (H.out.at_ 1 rfl) Try.underlying53 rfl (by kernel_rfl) rfl (H.out.at_ 0 rfl) Try.underlying61 rfl (by kernel_rfl)) rfl ?_
  exact RepP_mk rfl (H.out.fact 1 rfl) (H.out.fact 0 rfl) H.out.below
set_option maxHeartbeats 1000000 in
set_option maxRecDepth 100000 in
theorem mdo_close (id m u b c z s me o a l : Int) (x y q : Value) (D : Mdl) (i p n : Int) (Ad : Option Addr) (kdd : Nat) (d : List Int) (f : Bool) (w : World) (h : MC w x y q D) (hi : MInv id m u b c z s me o a l D) (hd : Kd.C (Kd.int .u8) w Ad d.length d) (hdk : d.length ≤ kdd) :
    Calls Try.prog 26 #[modV id m u b c z s me o a l x y q, cmdV 6 i p n (.slice Ad d.length kdd) f] w (RepP id m u b c z s me o a l x y q D (doM id m u b c z s me o a l D (⟨6, i, p, n, d, f⟩ : S65)).1 (doM id m u b c z s me o a l D (⟨6, i, p, n, d, f⟩ : S65)).2.1 (bytesOf (doM id m u b c z s me o a l D (⟨6, i, p, n, d, f⟩ : S65)).2.2.1) (doM id m u b c z s me o a l D (⟨6, i, p, n, d, f⟩ : S65)).2.2.2 w) := by
  have hi0 := hi
  have h00 := h
  obtain ⟨hrt, hlT, hlS, -⟩ := hi
  have hl0 := rightZ_len hrt
  have hcb := okC_bd (checkC_ok hl0.1).1
  have hb1 : 1 ≤ b := by omega
  have hL1 : D.L.length ≤ 64 := hl0.2.2.1
  have hLp : 0 < D.L.length := by have := hl0.2.1; omega
  clear hl0
  have h0 := h
  obtain ⟨⟨A1, k1, rfl, hk1, hC1⟩, ⟨A2, k2, rfl, hk2, hC2⟩, ⟨A3, k3, rfl, hk3, hC3⟩⟩ := h
  obtain ⟨n1, hn1⟩ : ∃ n, n = D.L.length := ⟨_, rfl⟩
  obtain ⟨n2, hn2⟩ : ∃ n, n = D.T.length := ⟨_, rfl⟩
  obtain ⟨n3, hn3⟩ : ∃ n, n = D.S.length := ⟨_, rfl⟩
  obtain ⟨nd, hnd⟩ : ∃ n, n = d.length := ⟨_, rfl⟩
  have hRT := fun W h => rightZ_any id m u b c z s me o a l A1 k1 D.L W h hk1
  rw [hrt] at hRT
  rw [← hn1] at h0 h00 hC1 hRT hL1 hLp hlT hlS
  rw [← hn2] at h0 h00 hlT hC2
  rw [← hn3] at h0 h00 hlS hC3
  rw [← hn1, ← hn2, ← hn3]
  have HMC := Lib.hid h0; have HC1 := Lib.hid hC1; have HRT := Lib.hid hRT
  have H := Lib.hid (Pk.start w)
  have HK := Lib.hid (fun W (h : MC W (.slice A1 n1 k1) (.slice A2 n2 k2) (.slice A3 n3 k3) D) (hd : Kd.C (Kd.int .u8) W Ad d.length d) => mclose_any id m u b c z s me o a l (.slice A1 n1 k1) (.slice A2 n2 k2) (.slice A3 n3 k3) D i p n Ad d.length kdd f W h hi0)
  have HD := Lib.hid hd
  clear hRT h0 h00 hi0 hd hdk hrt hcb hlT hlS hn1 hn2 hn3 hnd hk1 hk2 hk3 hC1 hC2 hC3
  go_enter Try.func26, Try.ntmps26
  go_wp2_with first
    | (apply bx 2 #[.int .i64 id, .int .i64 m, .int .i64 u, .int .i64 b, .int .i64 c, .int .i64 z, .int .i64 s, .int .i64 me, .int .i64 o, .int .i64 a, .int .i64 l, .slice A1 n1 k1, .slice A2 n2 k2, .slice A3 n3 k3] 53; intro gM hg W1 hx hb; replace H := Lib.hid (H.out.made hx hb hg); clear hb hx hg; have cM := H.out.cell 0 rfl)
    | (apply bx 3 #[.int .i64 6, .int .i64 i, .int .i64 p, .int .i64 n, .slice Ad d.length kdd, .bool f] 65; intro gX hg W2 hx hb; clear cM; replace H := Lib.hid (H.out.made hx hb hg); clear hb hx hg; have cX := H.out.cell 0 rfl; have cM := H.out.cell 1 rfl)
    | (apply bx 4 #[.int .i64 0, .int .i64 0, .int .i64 0, .int .i64 0, .int .i64 0, .int .i64 0, .int .i64 0, .int .i64 0, .int .i64 0, .int .i64 0, .int .i64 0, .slice none 0 0, .slice none 0 0, .slice none 0 0] 53; intro gR hg W3 hx hb; clear cX cM; replace H := Lib.hid (H.out.made hx hb hg); clear hb hx hg; have cR := H.out.cell 0 rfl; have cX := H.out.cell 1 rfl; have cM := H.out.cell 2 rfl)
    | (apply bx 5 #[.int .i64 0, .slice none 0 0, .int .i64 0, .int .i64 0, .int .i64 0] 61; intro gP hg W4 hx hb; clear cR cX cM; replace H := Lib.hid (H.out.made hx hb hg); clear hb hx hg; have cP := H.out.cell 0 rfl; have cR := H.out.cell 1 rfl; have cX := H.out.cell 2 rfl; have cM := H.out.cell 3 rfl)
    | (go_at_call 21; refine (HRT.out _ (Kd.C_below HC1.out H.out.below)).mono ?_; rintro e W5 ⟨rfl, hb⟩; clear cP cR cX cM; replace H := Lib.hid (H.out.called hb); clear hb; have cP := H.out.cell 0 rfl; have cR := H.out.cell 1 rfl; have cX := H.out.cell 2 rfl; have cM := H.out.cell 3 rfl)
    | (go_at_call 77; refine (HK.out _ (MC_below HMC.out H.out.below) (Kd.C_below HD.out H.out.below)).mono ?_; rintro e W6 hP; obtain ⟨B1, m1, j1, B2, m2, j2, B3, m3, j3, B4, m4, j4, rfl, hM, hB, hb⟩ := RepP_open hP; clear hP; clear cP cR cX cM; have hl_ := H.out.below.size; replace H := Lib.hid (((H.out.called hb).row (MdF w.heap.size (.slice A1 n1 k1) (.slice A2 n2 k2) (.slice A3 n3 k3) D (.slice B1 m1 j1) (.slice B2 m2 j2) (.slice B3 m3 j3) ((changeM D 6 i (closeZ id m u b c z s me o a l D.L i)).1)) (MD_lower hM hl_)).row (BytF (.slice B4 m4 j4) []) hB); clear hb hM hB hl_; have cP := H.out.cell 0 rfl; have cR := H.out.cell 1 rfl; have cX := H.out.cell 2 rfl; have cM := H.out.cell 3 rfl)
    | (have fR := H.out.froz 1 rfl; apply sv 53 4 gR 0 [.int .i64 id, .int .i64 m, .int .i64 u, .int .i64 b, .int .i64 c, .int .i64 z, .int .i64 s, .int .i64 me, .int .i64 o, .int .i64 a, .int .i64 l, .slice B1 m1 j1, .slice B2 m2 j2, .slice B3 m3 j3]; intro W7 hw; clear fR; clear cP cR cX cM; replace H := Lib.hid (H.out.putw 1 rfl hw rfl rfl); clear hw; have cP := H.out.cell 0 rfl; have cR := H.out.cell 1 rfl; have cX := H.out.cell 2 rfl; have cM := H.out.cell 3 rfl)
    | (have fP := H.out.froz 0 rfl; apply sv 61 5 gP 0 [.int .i64 (changeM D 6 i (closeZ id m u b c z s me o a l D.L i)).2, .slice B4 m4 j4, .int .i64 0, .int .i64 0, .int .i64 0]; intro W8 hw; clear fP; clear cP cR cX cM; replace H := Lib.hid (H.out.putw 0 rfl hw rfl rfl); clear hw; have cP := H.out.cell 0 rfl; have cR := H.out.cell 1 rfl; have cX := H.out.cell 2 rfl; have cM := H.out.cell 3 rfl)
  refine bodyPost_ret (results_cc rfl _ _ gR gP 53 61 #[.int .i64 id, .int .i64 m, .int .i64 u, .int .i64 b, .int .i64 c, .int .i64 z, .int .i64 s, .int .i64 me, .int .i64 o, .int .i64 a, .int .i64 l, .slice B1 m1 j1, .slice B2 m2 j2, .slice B3 m3 j3] #[.int .i64 (changeM D 6 i (closeZ id m u b c z s me o a l D.L i)).2, .slice B4 m4 j4, .int .i64 0, .int .i64 0, .int .i64 0] (0, 0) (0, 0) _ _ rfl (H.out.at_ 1 rfl) Try.underlying53 rfl (by kernel_rfl) rfl (H.out.at_ 0 rfl) Try.underlying61 rfl (by kernel_rfl)) rfl ?_
  exact RepP_mk rfl (H.out.fact 1 rfl) (H.out.fact 0 rfl) H.out.below
set_option maxHeartbeats 1000000 in
set_option maxRecDepth 100000 in
theorem mdo_flush (id m u b c z s me o a l : Int) (x y q : Value) (D : Mdl) (i p n : Int) (Ad : Option Addr) (kdd : Nat) (d : List Int) (f : Bool) (w : World) (h : MC w x y q D) (hi : MInv id m u b c z s me o a l D) (hd : Kd.C (Kd.int .u8) w Ad d.length d) (hdk : d.length ≤ kdd) :
    Calls Try.prog 26 #[modV id m u b c z s me o a l x y q, cmdV 2 i p n (.slice Ad d.length kdd) f] w (RepP id m u b c z s me o a l x y q D (doM id m u b c z s me o a l D (⟨2, i, p, n, d, f⟩ : S65)).1 (doM id m u b c z s me o a l D (⟨2, i, p, n, d, f⟩ : S65)).2.1 (bytesOf (doM id m u b c z s me o a l D (⟨2, i, p, n, d, f⟩ : S65)).2.2.1) (doM id m u b c z s me o a l D (⟨2, i, p, n, d, f⟩ : S65)).2.2.2 w) := by
  have hi0 := hi
  have h00 := h
  obtain ⟨hrt, hlT, hlS, -⟩ := hi
  have hl0 := rightZ_len hrt
  have hcb := okC_bd (checkC_ok hl0.1).1
  have hb1 : 1 ≤ b := by omega
  have hL1 : D.L.length ≤ 64 := hl0.2.2.1
  have hLp : 0 < D.L.length := by have := hl0.2.1; omega
  clear hl0
  have h0 := h
  obtain ⟨⟨A1, k1, rfl, hk1, hC1⟩, ⟨A2, k2, rfl, hk2, hC2⟩, ⟨A3, k3, rfl, hk3, hC3⟩⟩ := h
  obtain ⟨n1, hn1⟩ : ∃ n, n = D.L.length := ⟨_, rfl⟩
  obtain ⟨n2, hn2⟩ : ∃ n, n = D.T.length := ⟨_, rfl⟩
  obtain ⟨n3, hn3⟩ : ∃ n, n = D.S.length := ⟨_, rfl⟩
  obtain ⟨nd, hnd⟩ : ∃ n, n = d.length := ⟨_, rfl⟩
  have hRT := fun W h => rightZ_any id m u b c z s me o a l A1 k1 D.L W h hk1
  rw [hrt] at hRT
  rw [← hn1] at h0 h00 hC1 hRT hL1 hLp hlT hlS
  rw [← hn2] at h0 h00 hlT hC2
  rw [← hn3] at h0 h00 hlS hC3
  rw [← hn1, ← hn2, ← hn3]
  have HMC := Lib.hid h0; have HC1 := Lib.hid hC1; have HRT := Lib.hid hRT
  have H := Lib.hid (Pk.start w)
  have HFI := Lib.hid (fun W h => flushed_any id m u b c z s me o a l (.slice A1 n1 k1) (.slice A2 n2 k2) (.slice A3 n3 k3) D W h (by omega) (by omega) (by omega))
  clear hRT h0 h00 hi0 hd hdk hrt hcb hlT hlS hn1 hn2 hn3 hnd hk1 hk2 hk3 hC1 hC2 hC3
  go_enter Try.func26, Try.ntmps26
  go_wp2_with first
    | (apply bx 2 #[.int .i64 id, .int .i64 m, .int .i64 u, .int .i64 b, .int .i64 c, .int .i64 z, .int .i64 s, .int .i64 me, .int .i64 o, .int .i64 a, .int .i64 l, .slice A1 n1 k1, .slice A2 n2 k2, .slice A3 n3 k3] 53; intro gM hg W1 hx hb; replace H := Lib.hid (H.out.made hx hb hg); clear hb hx hg; have cM := H.out.cell 0 rfl)
    | (apply bx 3 #[.int .i64 2, .int .i64 i, .int .i64 p, .int .i64 n, .slice Ad d.length kdd, .bool f] 65; intro gX hg W2 hx hb; clear cM; replace H := Lib.hid (H.out.made hx hb hg); clear hb hx hg; have cX := H.out.cell 0 rfl; have cM := H.out.cell 1 rfl)
    | (apply bx 4 #[.int .i64 0, .int .i64 0, .int .i64 0, .int .i64 0, .int .i64 0, .int .i64 0, .int .i64 0, .int .i64 0, .int .i64 0, .int .i64 0, .int .i64 0, .slice none 0 0, .slice none 0 0, .slice none 0 0] 53; intro gR hg W3 hx hb; clear cX cM; replace H := Lib.hid (H.out.made hx hb hg); clear hb hx hg; have cR := H.out.cell 0 rfl; have cX := H.out.cell 1 rfl; have cM := H.out.cell 2 rfl)
    | (apply bx 5 #[.int .i64 0, .slice none 0 0, .int .i64 0, .int .i64 0, .int .i64 0] 61; intro gP hg W4 hx hb; clear cR cX cM; replace H := Lib.hid (H.out.made hx hb hg); clear hb hx hg; have cP := H.out.cell 0 rfl; have cR := H.out.cell 1 rfl; have cX := H.out.cell 2 rfl; have cM := H.out.cell 3 rfl)
    | (go_at_call 21; refine (HRT.out _ (Kd.C_below HC1.out H.out.below)).mono ?_; rintro e W5 ⟨rfl, hb⟩; clear cP cR cX cM; replace H := Lib.hid (H.out.called hb); clear hb; have cP := H.out.cell 0 rfl; have cR := H.out.cell 1 rfl; have cX := H.out.cell 2 rfl; have cM := H.out.cell 3 rfl)
    | (go_at_call 76; refine (HFI.out _ (MC_below HMC.out H.out.below)).mono ?_; rintro e W6 ⟨q7, rfl, hF, hb⟩; clear cP cR cX cM; obtain ⟨A7, k7, rfl⟩ := Kd.R_slice hF; simp only [List.length_map] at hF ⊢; replace H := Lib.hid ((H.out.called hb).row (RowF (Kd.int .i64) 3 w.heap.size (.slice A7 D.L.length k7) (D.L.map (·.f1))) (Kd.R_lower (hF) H.out.below.size)); clear hF; clear hb; have cP := H.out.cell 0 rfl; have cR := H.out.cell 1 rfl; have cX := H.out.cell 2 rfl; have cM := H.out.cell 3 rfl)
    | (have fR := H.out.froz 1 rfl; apply sv 53 4 gR 0 [.int .i64 id, .int .i64 m, .int .i64 u, .int .i64 b, .int .i64 c, .int .i64 z, .int .i64 s, .int .i64 me, .int .i64 o, .int .i64 a, .int .i64 l, .slice A1 n1 k1, .slice A2 n2 k2, .slice A7 D.L.length k7]; intro W7 hw; clear fR; clear cP cR cX cM; replace H := Lib.hid (H.out.putw 1 rfl hw rfl rfl); clear hw; have cP := H.out.cell 0 rfl; have cR := H.out.cell 1 rfl; have cX := H.out.cell 2 rfl; have cM := H.out.cell 3 rfl)
    | (have fP := H.out.froz 0 rfl; apply sv 61 5 gP 0 [.int .i64 0, .slice none 0 0, .int .i64 0, .int .i64 0, .int .i64 0]; intro W8 hw; clear fP; clear cP cR cX cM; replace H := Lib.hid (H.out.putw 0 rfl hw rfl rfl); clear hw; have cP := H.out.cell 0 rfl; have cR := H.out.cell 1 rfl; have cX := H.out.cell 2 rfl; have cM := H.out.cell 3 rfl)
  refine bodyPost_ret (results_cc rfl _ _ gR gP 53 61 #[.int .i64 id, .int .i64 m, .int .i64 u, .int .i64 b, .int .i64 c, .int .i64 z, .int .i64 s, .int .i64 me, .int .i64 o, .int .i64 a, .int .i64 l, .slice A1 n1 k1, .slice A2 n2 k2, .slice A7 D.L.length k7] #[.int .i64 0, .slice none 0 0, .int .i64 0, .int .i64 0, .int .i64 0] (0, 0) (0, 0) _ _ rfl (H.out.at_ 1 rfl) Try.underlying53 rfl (by kernel_rfl) rfl (H.out.at_ 0 rfl) Try.underlying61 rfl (by kernel_rfl)) rfl ?_
  exact RepP_mk rfl ⟨RowD_same, RowD_same, .inr (H.out.fact 0 rfl)⟩ (BR_nil _) H.out.below
set_option maxHeartbeats 1000000 in
set_option maxRecDepth 100000 in
theorem mdo_zone (id m u b c z s me o a l : Int) (x y q : Value) (D : Mdl) (i p n : Int) (Ad : Option Addr) (kdd : Nat) (d : List Int) (f : Bool) (w : World) (h : MC w x y q D) (hi : MInv id m u b c z s me o a l D) (hd : Kd.C (Kd.int .u8) w Ad d.length d) (hdk : d.length ≤ kdd) (hin : 0 ≤ i ∧ i < (D.T.length : Int)) :
    Calls Try.prog 26 #[modV id m u b c z s me o a l x y q, cmdV 7 i p n (.slice Ad d.length kdd) f] w (RepP id m u b c z s me o a l x y q D (doM id m u b c z s me o a l D (⟨7, i, p, n, d, f⟩ : S65)).1 (doM id m u b c z s me o a l D (⟨7, i, p, n, d, f⟩ : S65)).2.1 (bytesOf (doM id m u b c z s me o a l D (⟨7, i, p, n, d, f⟩ : S65)).2.2.1) (doM id m u b c z s me o a l D (⟨7, i, p, n, d, f⟩ : S65)).2.2.2 w) := by
  have hi0 := hi
  have h00 := h
  obtain ⟨hrt, hlT, hlS, -⟩ := hi
  have hl0 := rightZ_len hrt
  have hcb := okC_bd (checkC_ok hl0.1).1
  have hb1 : 1 ≤ b := by omega
  have hL1 : D.L.length ≤ 64 := hl0.2.2.1
  have hLp : 0 < D.L.length := by have := hl0.2.1; omega
  clear hl0
  have h0 := h
  obtain ⟨⟨A1, k1, rfl, hk1, hC1⟩, ⟨A2, k2, rfl, hk2, hC2⟩, ⟨A3, k3, rfl, hk3, hC3⟩⟩ := h
  obtain ⟨n1, hn1⟩ : ∃ n, n = D.L.length := ⟨_, rfl⟩
  obtain ⟨n2, hn2⟩ : ∃ n, n = D.T.length := ⟨_, rfl⟩
  obtain ⟨n3, hn3⟩ : ∃ n, n = D.S.length := ⟨_, rfl⟩
  obtain ⟨nd, hnd⟩ : ∃ n, n = d.length := ⟨_, rfl⟩
  have hRT := fun W h => rightZ_any id m u b c z s me o a l A1 k1 D.L W h hk1
  rw [hrt] at hRT
  rw [← hn1] at h0 h00 hC1 hRT hL1 hLp hlT hlS
  rw [← hn2] at h0 h00 hlT hC2
  rw [← hn3] at h0 h00 hlS hC3
  rw [← hn1, ← hn2, ← hn3]
  have HMC := Lib.hid h0; have HC1 := Lib.hid hC1; have HRT := Lib.hid hRT
  have H := Lib.hid (Pk.start w)
  have hz := fun W h => mzone_any id m u b c z s me o a l (.slice A1 n1 k1) (.slice A2 n2 k2) (.slice A3 n3 k3) D i W h (by omega)
  rw [if_pos hin, decide_eq_true hin] at hz
  have HZ := Lib.hid hz
  have hv : doM id m u b c z s me o a l D ⟨7, i, p, n, d, f⟩ = (D, 0, ByteArray.empty, rd_T59 D.L i) := by show (if 0 ≤ i ∧ i < (D.T.length : Int) then _ else _) = _; rw [if_pos hin]
  have HV := Lib.hid hv
  clear hRT h0 h00 hi0 hd hdk hrt hcb hlT hlS hn1 hn2 hn3 hnd hk1 hk2 hk3 hC1 hC2 hC3 hz hv hin
  go_enter Try.func26, Try.ntmps26
  go_wp2_with first
    | (apply bx 2 #[.int .i64 id, .int .i64 m, .int .i64 u, .int .i64 b, .int .i64 c, .int .i64 z, .int .i64 s, .int .i64 me, .int .i64 o, .int .i64 a, .int .i64 l, .slice A1 n1 k1, .slice A2 n2 k2, .slice A3 n3 k3] 53; intro gM hg W1 hx hb; replace H := Lib.hid (H.out.made hx hb hg); clear hb hx hg; have cM := H.out.cell 0 rfl)
    | (apply bx 3 #[.int .i64 7, .int .i64 i, .int .i64 p, .int .i64 n, .slice Ad d.length kdd, .bool f] 65; intro gX hg W2 hx hb; clear cM; replace H := Lib.hid (H.out.made hx hb hg); clear hb hx hg; have cX := H.out.cell 0 rfl; have cM := H.out.cell 1 rfl)
    | (apply bx 4 #[.int .i64 0, .int .i64 0, .int .i64 0, .int .i64 0, .int .i64 0, .int .i64 0, .int .i64 0, .int .i64 0, .int .i64 0, .int .i64 0, .int .i64 0, .slice none 0 0, .slice none 0 0, .slice none 0 0] 53; intro gR hg W3 hx hb; clear cX cM; replace H := Lib.hid (H.out.made hx hb hg); clear hb hx hg; have cR := H.out.cell 0 rfl; have cX := H.out.cell 1 rfl; have cM := H.out.cell 2 rfl)
    | (apply bx 5 #[.int .i64 0, .slice none 0 0, .int .i64 0, .int .i64 0, .int .i64 0] 61; intro gP hg W4 hx hb; clear cR cX cM; replace H := Lib.hid (H.out.made hx hb hg); clear hb hx hg; have cP := H.out.cell 0 rfl; have cR := H.out.cell 1 rfl; have cX := H.out.cell 2 rfl; have cM := H.out.cell 3 rfl)
    | (go_at_call 21; refine (HRT.out _ (Kd.C_below HC1.out H.out.below)).mono ?_; rintro e W5 ⟨rfl, hb⟩; clear cP cR cX cM; replace H := Lib.hid (H.out.called hb); clear hb; have cP := H.out.cell 0 rfl; have cR := H.out.cell 1 rfl; have cX := H.out.cell 2 rfl; have cM := H.out.cell 3 rfl)
    | (go_at_call 32; refine (HZ.out _ (MC_below HMC.out H.out.below)).mono ?_; rintro e W6 ⟨rfl, hb⟩; clear cP cR cX cM; replace H := Lib.hid (H.out.called hb); clear hb; have cP := H.out.cell 0 rfl; have cR := H.out.cell 1 rfl; have cX := H.out.cell 2 rfl; have cM := H.out.cell 3 rfl)
    | (apply bx 6 #[.int .i64 0, .int .i64 0, .int .i64 0] 59; intro gV hg W7 hx hb; clear cP cR cX cM; replace H := Lib.hid (H.out.made hx hb hg); clear hb hx hg; have cV := H.out.cell 0 rfl; have cP := H.out.cell 1 rfl; have cR := H.out.cell 2 rfl; have cX := H.out.cell 3 rfl; have cM := H.out.cell 4 rfl)
    | (have fV := H.out.froz 0 rfl; apply sv 59 6 gV 0 [.int .i64 (rd_T59 D.L i).f0, .int .i64 (rd_T59 D.L i).f1, .int .i64 (rd_T59 D.L i).f2]; intro W8 hw; clear fV; clear cV cP cR cX cM; replace H := Lib.hid (H.out.putw 0 rfl hw rfl rfl); clear hw; have cV := H.out.cell 0 rfl; have cP := H.out.cell 1 rfl; have cR := H.out.cell 2 rfl; have cX := H.out.cell 3 rfl; have cM := H.out.cell 4 rfl)
  clear cV cP cR cX cM
  refine start_ (n := 5) (S := fun W => (∀ j_, W.cell? ⟨gM, j_, none⟩ = (#[.int .i64 id, .int .i64 m, .int .i64 u, .int .i64 b, .int .i64 c, .int .i64 z, .int .i64 s, .int .i64 me, .int .i64 o, .int .i64 a, .int .i64 l, .slice A1 n1 k1, .slice A2 n2 k2, .slice A3 n3 k3] : Array Value)[j_]?) ∧ (∀ j_, W.cell? ⟨gV, j_, none⟩ = (#[.int .i64 (rd_T59 D.L i).f0, .int .i64 (rd_T59 D.L i).f1, .int .i64 (rd_T59 D.L i).f2] : Array Value)[j_]?)) (ds := []) (bq 5 0) (by kernel_rfl) rfl (by kernel_rfl) ⟨H.out.drew.cell 4 rfl, H.out.drew.cell 0 rfl⟩ (fun hHeld => ?_)
  refine with_tabW tab_model_Do_19 bits_model_Do_19 (fun HT_ HW_ => ?_)
  have zH := H.out.drew
  generalize W8.drew = W9 at zH hHeld ⊢
  replace H := Lib.hid zH; clear zH
  apply tw 0 62 (bq 5 1) HT_ HW_ hHeld
  apply tw 1 63 (bq 5 3) HT_ HW_ hHeld
  apply pu 2 64 (bq 5 7) HT_
  apply on 3 none (bq 5 15) HT_; intro K hK
  have cV := H.out.cell 0 rfl
  have cP := H.out.cell 1 rfl
  have cR := H.out.cell 2 rfl
  have cX := H.out.cell 3 rfl
  have cM := H.out.cell 4 rfl
  have fR := H.out.froz 2 rfl
  apply svs 53 4 gR 0 [.int .i64 id, .int .i64 m, .int .i64 u, .int .i64 b, .int .i64 c, .int .i64 z, .int .i64 s, .int .i64 me, .int .i64 o, .int .i64 a, .int .i64 l, .slice A1 n1 k1, .slice A2 n2 k2, .slice A3 n3 k3]
  intro W10 hw
  clear fR
  clear cV cP cR cX cM
  replace H := Lib.hid (H.out.putw 2 rfl hw rfl rfl)
  clear hw
  refine hK.out _ _ ⟨H.out.cell 4 rfl, H.out.cell 0 rfl⟩ (fun hHeld => ?_)
  clear hK K
  apply on 4 none (bq 5 31) HT_; intro K hK
  have cV := H.out.cell 0 rfl
  have cP := H.out.cell 1 rfl
  have cR := H.out.cell 2 rfl
  have cX := H.out.cell 3 rfl
  have cM := H.out.cell 4 rfl
  have fP := H.out.froz 1 rfl
  apply svs 61 5 gP 0 [.int .i64 0, .slice none 0 0, .int .i64 (rd_T59 D.L i).f0, .int .i64 (rd_T59 D.L i).f1, .int .i64 (rd_T59 D.L i).f2]
  intro W11 hw
  clear fP
  clear cV cP cR cX cM
  replace H := Lib.hid (H.out.putw 1 rfl hw rfl rfl)
  clear hw
  refine hK.out _ _ ⟨H.out.cell 4 rfl, H.out.cell 0 rfl⟩ (fun hHeld => ?_)
  clear hK K
  refine done_ (done_of HT_.out (by kernel_rfl)) ?_
  have cV := H.out.cell 0 rfl
  have cP := H.out.cell 1 rfl
  have cR := H.out.cell 2 rfl
  have cX := H.out.cell 3 rfl
  have cM := H.out.cell 4 rfl
  go_wp2
  refine bodyPost_ret (results_cc rfl _ _ gR gP 53 61 #[.int .i64 id, .int .i64 m, .int .i64 u, .int .i64 b, .int .i64 c, .int .i64 z, .int .i64 s, .int .i64 me, .int .i64 o, .int .i64 a, .int .i64 l, .slice A1 n1 k1, .slice A2 n2 k2, .slice A3 n3 k3] #[.int .i64 0, .slice none 0 0, .int .i64 (rd_T59 D.L i).f0, .int .i64 (rd_T59 D.L i).f1, .int .i64 (rd_T59 D.L i).f2] (0, 0) (0, 0) _ _ rfl (H.out.at_ 2 rfl) Try.underlying53 rfl (by kernel_rfl) rfl (H.out.at_ 1 rfl) Try.underlying61 rfl (by kernel_rfl)) rfl ?_
  rw [HV.out]
  exact RepP_mk rfl MD_same (BR_nil _) H.out.below
set_option maxHeartbeats 1000000 in
set_option maxRecDepth 100000 in
theorem mdo_nozone (id m u b c z s me o a l : Int) (x y q : Value) (D : Mdl) (i p n : Int) (Ad : Option Addr) (kdd : Nat) (d : List Int) (f : Bool) (w : World) (h : MC w x y q D) (hi : MInv id m u b c z s me o a l D) (hd : Kd.C (Kd.int .u8) w Ad d.length d) (hdk : d.length ≤ kdd) (hin : ¬ (0 ≤ i ∧ i < (D.T.length : Int))) :
    Calls Try.prog 26 #[modV id m u b c z s me o a l x y q, cmdV 7 i p n (.slice Ad d.length kdd) f] w (RepP id m u b c z s me o a l x y q D (doM id m u b c z s me o a l D (⟨7, i, p, n, d, f⟩ : S65)).1 (doM id m u b c z s me o a l D (⟨7, i, p, n, d, f⟩ : S65)).2.1 (bytesOf (doM id m u b c z s me o a l D (⟨7, i, p, n, d, f⟩ : S65)).2.2.1) (doM id m u b c z s me o a l D (⟨7, i, p, n, d, f⟩ : S65)).2.2.2 w) := by
  have hi0 := hi
  have h00 := h
  obtain ⟨hrt, hlT, hlS, -⟩ := hi
  have hl0 := rightZ_len hrt
  have hcb := okC_bd (checkC_ok hl0.1).1
  have hb1 : 1 ≤ b := by omega
  have hL1 : D.L.length ≤ 64 := hl0.2.2.1
  have hLp : 0 < D.L.length := by have := hl0.2.1; omega
  clear hl0
  have h0 := h
  obtain ⟨⟨A1, k1, rfl, hk1, hC1⟩, ⟨A2, k2, rfl, hk2, hC2⟩, ⟨A3, k3, rfl, hk3, hC3⟩⟩ := h
  obtain ⟨n1, hn1⟩ : ∃ n, n = D.L.length := ⟨_, rfl⟩
  obtain ⟨n2, hn2⟩ : ∃ n, n = D.T.length := ⟨_, rfl⟩
  obtain ⟨n3, hn3⟩ : ∃ n, n = D.S.length := ⟨_, rfl⟩
  obtain ⟨nd, hnd⟩ : ∃ n, n = d.length := ⟨_, rfl⟩
  have hRT := fun W h => rightZ_any id m u b c z s me o a l A1 k1 D.L W h hk1
  rw [hrt] at hRT
  rw [← hn1] at h0 h00 hC1 hRT hL1 hLp hlT hlS
  rw [← hn2] at h0 h00 hlT hC2
  rw [← hn3] at h0 h00 hlS hC3
  rw [← hn1, ← hn2, ← hn3]
  have HMC := Lib.hid h0; have HC1 := Lib.hid hC1; have HRT := Lib.hid hRT
  have H := Lib.hid (Pk.start w)
  have hz := fun W h => mzone_any id m u b c z s me o a l (.slice A1 n1 k1) (.slice A2 n2 k2) (.slice A3 n3 k3) D i W h (by omega)
  rw [if_neg hin, decide_eq_false hin] at hz
  have HZ := Lib.hid hz
  have hv : doM id m u b c z s me o a l D ⟨7, i, p, n, d, f⟩ = (D, 2, ByteArray.empty, z59) := by show (if 0 ≤ i ∧ i < (D.T.length : Int) then _ else _) = _; rw [if_neg hin]
  have HV := Lib.hid hv
  clear hRT h0 h00 hi0 hd hdk hrt hcb hlT hlS hn1 hn2 hn3 hnd hk1 hk2 hk3 hC1 hC2 hC3 hz hv hin
  go_enter Try.func26, Try.ntmps26
  go_wp2_with first
    | (apply bx 2 #[.int .i64 id, .int .i64 m, .int .i64 u, .int .i64 b, .int .i64 c, .int .i64 z, .int .i64 s, .int .i64 me, .int .i64 o, .int .i64 a, .int .i64 l, .slice A1 n1 k1, .slice A2 n2 k2, .slice A3 n3 k3] 53; intro gM hg W1 hx hb; replace H := Lib.hid (H.out.made hx hb hg); clear hb hx hg; have cM := H.out.cell 0 rfl)
    | (apply bx 3 #[.int .i64 7, .int .i64 i, .int .i64 p, .int .i64 n, .slice Ad d.length kdd, .bool f] 65; intro gX hg W2 hx hb; clear cM; replace H := Lib.hid (H.out.made hx hb hg); clear hb hx hg; have cX := H.out.cell 0 rfl; have cM := H.out.cell 1 rfl)
    | (apply bx 4 #[.int .i64 0, .int .i64 0, .int .i64 0, .int .i64 0, .int .i64 0, .int .i64 0, .int .i64 0, .int .i64 0, .int .i64 0, .int .i64 0, .int .i64 0, .slice none 0 0, .slice none 0 0, .slice none 0 0] 53; intro gR hg W3 hx hb; clear cX cM; replace H := Lib.hid (H.out.made hx hb hg); clear hb hx hg; have cR := H.out.cell 0 rfl; have cX := H.out.cell 1 rfl; have cM := H.out.cell 2 rfl)
    | (apply bx 5 #[.int .i64 0, .slice none 0 0, .int .i64 0, .int .i64 0, .int .i64 0] 61; intro gP hg W4 hx hb; clear cR cX cM; replace H := Lib.hid (H.out.made hx hb hg); clear hb hx hg; have cP := H.out.cell 0 rfl; have cR := H.out.cell 1 rfl; have cX := H.out.cell 2 rfl; have cM := H.out.cell 3 rfl)
    | (go_at_call 21; refine (HRT.out _ (Kd.C_below HC1.out H.out.below)).mono ?_; rintro e W5 ⟨rfl, hb⟩; clear cP cR cX cM; replace H := Lib.hid (H.out.called hb); clear hb; have cP := H.out.cell 0 rfl; have cR := H.out.cell 1 rfl; have cX := H.out.cell 2 rfl; have cM := H.out.cell 3 rfl)
    | (go_at_call 32; refine (HZ.out _ (MC_below HMC.out H.out.below)).mono ?_; rintro e W6 ⟨rfl, hb⟩; clear cP cR cX cM; replace H := Lib.hid (H.out.called hb); clear hb; have cP := H.out.cell 0 rfl; have cR := H.out.cell 1 rfl; have cX := H.out.cell 2 rfl; have cM := H.out.cell 3 rfl)
    | (apply bx 6 #[.int .i64 0, .int .i64 0, .int .i64 0] 59; intro gV hg W7 hx hb; clear cP cR cX cM; replace H := Lib.hid (H.out.made hx hb hg); clear hb hx hg; have cV := H.out.cell 0 rfl; have cP := H.out.cell 1 rfl; have cR := H.out.cell 2 rfl; have cX := H.out.cell 3 rfl; have cM := H.out.cell 4 rfl)
    | (have fV := H.out.froz 0 rfl; apply sv 59 6 gV 0 [.int .i64 0, .int .i64 0, .int .i64 0]; intro W8 hw; clear fV; clear cV cP cR cX cM; replace H := Lib.hid (H.out.putw 0 rfl hw rfl rfl); clear hw; have cV := H.out.cell 0 rfl; have cP := H.out.cell 1 rfl; have cR := H.out.cell 2 rfl; have cX := H.out.cell 3 rfl; have cM := H.out.cell 4 rfl)
    | (go_at_call 73; refine (failed_any id m u b c z s me o a l A1 A2 A3 n1 k1 n2 k2 n3 k3 (2) _).mono ?_; rintro e W9 ⟨rfl, hb⟩; clear cV cP cR cX cM; replace H := Lib.hid (H.out.called hb); clear hb; have cV := H.out.cell 0 rfl; have cP := H.out.cell 1 rfl; have cR := H.out.cell 2 rfl; have cX := H.out.cell 3 rfl; have cM := H.out.cell 4 rfl)
    | (have fR := H.out.froz 2 rfl; apply sv 53 4 gR 0 [.int .i64 id, .int .i64 m, .int .i64 u, .int .i64 b, .int .i64 c, .int .i64 z, .int .i64 s, .int .i64 me, .int .i64 o, .int .i64 a, .int .i64 l, .slice A1 n1 k1, .slice A2 n2 k2, .slice A3 n3 k3]; intro W10 hw; clear fR; clear cV cP cR cX cM; replace H := Lib.hid (H.out.putw 2 rfl hw rfl rfl); clear hw; have cV := H.out.cell 0 rfl; have cP := H.out.cell 1 rfl; have cR := H.out.cell 2 rfl; have cX := H.out.cell 3 rfl; have cM := H.out.cell 4 rfl)
    | (have fP := H.out.froz 1 rfl; apply sv 61 5 gP 0 [.int .i64 2, .slice none 0 0, .int .i64 0, .int .i64 0, .int .i64 0]; intro W11 hw; clear fP; clear cV cP cR cX cM; replace H := Lib.hid (H.out.putw 1 rfl hw rfl rfl); clear hw; have cV := H.out.cell 0 rfl; have cP := H.out.cell 1 rfl; have cR := H.out.cell 2 rfl; have cX := H.out.cell 3 rfl; have cM := H.out.cell 4 rfl)
  refine bodyPost_ret (results_cc rfl _ _ gR gP 53 61 #[.int .i64 id, .int .i64 m, .int .i64 u, .int .i64 b, .int .i64 c, .int .i64 z, .int .i64 s, .int .i64 me, .int .i64 o, .int .i64 a, .int .i64 l, .slice A1 n1 k1, .slice A2 n2 k2, .slice A3 n3 k3] #[.int .i64 2, .slice none 0 0, .int .i64 0, .int .i64 0, .int .i64 0] (0, 0) (0, 0) _ _ rfl (H.out.at_ 2 rfl) Try.underlying53 rfl (by kernel_rfl) rfl (H.out.at_ 1 rfl) Try.underlying61 rfl (by kernel_rfl)) rfl ?_
  rw [HV.out]
  exact RepP_mk rfl MD_same (BR_nil _) H.out.below
set_option maxHeartbeats 1000000 in
set_option maxRecDepth 100000 in
theorem mdo_other (id m u b c z s me o a l : Int) (x y q : Value) (D : Mdl) (kd : Int) (i p n : Int) (Ad : Option Addr) (kdd : Nat) (d : List Int) (f : Bool) (w : World) (h : MC w x y q D) (hi : MInv id m u b c z s me o a l D) (hd : Kd.C (Kd.int .u8) w Ad d.length d) (hdk : d.length ≤ kdd) (k0 : ¬ kd = 0) (k1_ : ¬ kd = 1) (k2_ : ¬ kd = 2) (k3_ : ¬ kd = 3) (k4_ : ¬ kd = 4) (k5_ : ¬ kd = 5) (k6_ : ¬ kd = 6) (k7_ : ¬ kd = 7) :
    Calls Try.prog 26 #[modV id m u b c z s me o a l x y q, cmdV kd i p n (.slice Ad d.length kdd) f] w (RepP id m u b c z s me o a l x y q D (doM id m u b c z s me o a l D (⟨kd, i, p, n, d, f⟩ : S65)).1 (doM id m u b c z s me o a l D (⟨kd, i, p, n, d, f⟩ : S65)).2.1 (bytesOf (doM id m u b c z s me o a l D (⟨kd, i, p, n, d, f⟩ : S65)).2.2.1) (doM id m u b c z s me o a l D (⟨kd, i, p, n, d, f⟩ : S65)).2.2.2 w) := by
  have hi0 := hi
  have h00 := h
  obtain ⟨hrt, hlT, hlS, -⟩ := hi
  have hl0 := rightZ_len hrt
  have hcb := okC_bd (checkC_ok hl0.1).1
  have hb1 : 1 ≤ b := by omega
  have hL1 : D.L.length ≤ 64 := hl0.2.2.1
  have hLp : 0 < D.L.length := by have := hl0.2.1; omega
  clear hl0
  have h0 := h
  obtain ⟨⟨A1, k1, rfl, hk1, hC1⟩, ⟨A2, k2, rfl, hk2, hC2⟩, ⟨A3, k3, rfl, hk3, hC3⟩⟩ := h
  obtain ⟨n1, hn1⟩ : ∃ n, n = D.L.length := ⟨_, rfl⟩
  obtain ⟨n2, hn2⟩ : ∃ n, n = D.T.length := ⟨_, rfl⟩
  obtain ⟨n3, hn3⟩ : ∃ n, n = D.S.length := ⟨_, rfl⟩
  obtain ⟨nd, hnd⟩ : ∃ n, n = d.length := ⟨_, rfl⟩
  have hRT := fun W h => rightZ_any id m u b c z s me o a l A1 k1 D.L W h hk1
  rw [hrt] at hRT
  rw [← hn1] at h0 h00 hC1 hRT hL1 hLp hlT hlS
  rw [← hn2] at h0 h00 hlT hC2
  rw [← hn3] at h0 h00 hlS hC3
  rw [← hn1, ← hn2, ← hn3]
  have HMC := Lib.hid h0; have HC1 := Lib.hid hC1; have HRT := Lib.hid hRT
  have H := Lib.hid (Pk.start w)
  have hv : doM id m u b c z s me o a l D ⟨kd, i, p, n, d, f⟩ = (D, 1, ByteArray.empty, z59) := by unfold doM; simp only [if_neg k0, if_neg k1_, if_neg k2_, if_neg k3_, if_neg k4_, if_neg k5_, if_neg k6_, if_neg k7_]
  have HV := Lib.hid hv
  have b0_ : (kd == 0) = false := beq_eq_false_iff_ne.mpr k0
  have b1_ : (kd == 1) = false := beq_eq_false_iff_ne.mpr k1_
  have b2_ : (kd == 2) = false := beq_eq_false_iff_ne.mpr k2_
  have b3_ : (kd == 3) = false := beq_eq_false_iff_ne.mpr k3_
  have b4_ : (kd == 4) = false := beq_eq_false_iff_ne.mpr k4_
  have b5_ : (kd == 5) = false := beq_eq_false_iff_ne.mpr k5_
  have b6_ : (kd == 6) = false := beq_eq_false_iff_ne.mpr k6_
  have b7_ : (kd == 7) = false := beq_eq_false_iff_ne.mpr k7_
  clear hRT h0 h00 hi0 hd hdk hrt hcb hlT hlS hn1 hn2 hn3 hnd hk1 hk2 hk3 hC1 hC2 hC3 hv k0 k1_ k2_ k3_ k4_ k5_ k6_ k7_
  go_enter Try.func26, Try.ntmps26
  go_wp2_with first
    | (apply bx 2 #[.int .i64 id, .int .i64 m, .int .i64 u, .int .i64 b, .int .i64 c, .int .i64 z, .int .i64 s, .int .i64 me, .int .i64 o, .int .i64 a, .int .i64 l, .slice A1 n1 k1, .slice A2 n2 k2, .slice A3 n3 k3] 53; intro gM hg W1 hx hb; replace H := Lib.hid (H.out.made hx hb hg); clear hb hx hg; have cM := H.out.cell 0 rfl)
    | (apply bx 3 #[.int .i64 kd, .int .i64 i, .int .i64 p, .int .i64 n, .slice Ad d.length kdd, .bool f] 65; intro gX hg W2 hx hb; clear cM; replace H := Lib.hid (H.out.made hx hb hg); clear hb hx hg; have cX := H.out.cell 0 rfl; have cM := H.out.cell 1 rfl)
    | (apply bx 4 #[.int .i64 0, .int .i64 0, .int .i64 0, .int .i64 0, .int .i64 0, .int .i64 0, .int .i64 0, .int .i64 0, .int .i64 0, .int .i64 0, .int .i64 0, .slice none 0 0, .slice none 0 0, .slice none 0 0] 53; intro gR hg W3 hx hb; clear cX cM; replace H := Lib.hid (H.out.made hx hb hg); clear hb hx hg; have cR := H.out.cell 0 rfl; have cX := H.out.cell 1 rfl; have cM := H.out.cell 2 rfl)
    | (apply bx 5 #[.int .i64 0, .slice none 0 0, .int .i64 0, .int .i64 0, .int .i64 0] 61; intro gP hg W4 hx hb; clear cR cX cM; replace H := Lib.hid (H.out.made hx hb hg); clear hb hx hg; have cP := H.out.cell 0 rfl; have cR := H.out.cell 1 rfl; have cX := H.out.cell 2 rfl; have cM := H.out.cell 3 rfl)
    | (go_at_call 21; refine (HRT.out _ (Kd.C_below HC1.out H.out.below)).mono ?_; rintro e W5 ⟨rfl, hb⟩; clear cP cR cX cM; replace H := Lib.hid (H.out.called hb); clear hb; have cP := H.out.cell 0 rfl; have cR := H.out.cell 1 rfl; have cX := H.out.cell 2 rfl; have cM := H.out.cell 3 rfl)
    | (go_at_call 73; refine (failed_any id m u b c z s me o a l A1 A2 A3 n1 k1 n2 k2 n3 k3 (1) _).mono ?_; rintro e W6 ⟨rfl, hb⟩; clear cP cR cX cM; replace H := Lib.hid (H.out.called hb); clear hb; have cP := H.out.cell 0 rfl; have cR := H.out.cell 1 rfl; have cX := H.out.cell 2 rfl; have cM := H.out.cell 3 rfl)
    | (have fR := H.out.froz 1 rfl; apply sv 53 4 gR 0 [.int .i64 id, .int .i64 m, .int .i64 u, .int .i64 b, .int .i64 c, .int .i64 z, .int .i64 s, .int .i64 me, .int .i64 o, .int .i64 a, .int .i64 l, .slice A1 n1 k1, .slice A2 n2 k2, .slice A3 n3 k3]; intro W7 hw; clear fR; clear cP cR cX cM; replace H := Lib.hid (H.out.putw 1 rfl hw rfl rfl); clear hw; have cP := H.out.cell 0 rfl; have cR := H.out.cell 1 rfl; have cX := H.out.cell 2 rfl; have cM := H.out.cell 3 rfl)
    | (have fP := H.out.froz 0 rfl; apply sv 61 5 gP 0 [.int .i64 1, .slice none 0 0, .int .i64 0, .int .i64 0, .int .i64 0]; intro W8 hw; clear fP; clear cP cR cX cM; replace H := Lib.hid (H.out.putw 0 rfl hw rfl rfl); clear hw; have cP := H.out.cell 0 rfl; have cR := H.out.cell 1 rfl; have cX := H.out.cell 2 rfl; have cM := H.out.cell 3 rfl)
  refine bodyPost_ret (results_cc rfl _ _ gR gP 53 61 #[.int .i64 id, .int .i64 m, .int .i64 u, .int .i64 b, .int .i64 c, .int .i64 z, .int .i64 s, .int .i64 me, .int .i64 o, .int .i64 a, .int .i64 l, .slice A1 n1 k1, .slice A2 n2 k2, .slice A3 n3 k3] #[.int .i64 1, .slice none 0 0, .int .i64 0, .int .i64 0, .int .i64 0] (0, 0) (0, 0) _ _ rfl (H.out.at_ 1 rfl) Try.underlying53 rfl (by kernel_rfl) rfl (H.out.at_ 0 rfl) Try.underlying61 rfl (by kernel_rfl)) rfl ?_
  rw [HV.out]
  exact RepP_mk rfl MD_same (BR_nil _) H.out.below
theorem mdo_any (id m u b c z s me o a l : Int) (x y q : Value) (D : Mdl) (kd : Int) (i p n : Int) (Ad : Option Addr) (kdd : Nat) (d : List Int) (f : Bool) (w : World) (h : MC w x y q D) (hi : MInv id m u b c z s me o a l D) (hd : Kd.C (Kd.int .u8) w Ad d.length d) (hdk : d.length ≤ kdd) :
    Calls Try.prog 26 #[modV id m u b c z s me o a l x y q, cmdV kd i p n (.slice Ad d.length kdd) f] w (RepP id m u b c z s me o a l x y q D (doM id m u b c z s me o a l D (⟨kd, i, p, n, d, f⟩ : S65)).1 (doM id m u b c z s me o a l D (⟨kd, i, p, n, d, f⟩ : S65)).2.1 (bytesOf (doM id m u b c z s me o a l D (⟨kd, i, p, n, d, f⟩ : S65)).2.2.1) (doM id m u b c z s me o a l D (⟨kd, i, p, n, d, f⟩ : S65)).2.2.2 w) := by
  by_cases k0 : kd = 0
  · subst k0; exact mdo_write id m u b c z s me o a l x y q D i p n Ad kdd d f w h hi hd hdk
  by_cases k1_ : kd = 1
  · subst k1_; exact mdo_read id m u b c z s me o a l x y q D i p n Ad kdd d f w h hi hd hdk
  by_cases k2_ : kd = 2
  · subst k2_; exact mdo_flush id m u b c z s me o a l x y q D i p n Ad kdd d f w h hi hd hdk
  by_cases k3_ : kd = 3
  · subst k3_; exact mdo_reset id m u b c z s me o a l x y q D i p n Ad kdd d f w h hi hd hdk
  by_cases k4_ : kd = 4
  · subst k4_; exact mdo_finish id m u b c z s me o a l x y q D i p n Ad kdd d f w h hi hd hdk
  by_cases k5_ : kd = 5
  · subst k5_; exact mdo_open id m u b c z s me o a l x y q D i p n Ad kdd d f w h hi hd hdk
  by_cases k6_ : kd = 6
  · subst k6_; exact mdo_close id m u b c z s me o a l x y q D i p n Ad kdd d f w h hi hd hdk
  by_cases k7_ : kd = 7
  · subst k7_
    by_cases hin : 0 ≤ i ∧ i < (D.T.length : Int)
    · exact mdo_zone id m u b c z s me o a l x y q D i p n Ad kdd d f w h hi hd hdk hin
    · exact mdo_nozone id m u b c z s me o a l x y q D i p n Ad kdd d f w h hi hd hdk hin
  exact mdo_other id m u b c z s me o a l x y q D kd i p n Ad kdd d f w h hi hd hdk k0 k1_ k2_ k3_ k4_ k5_ k6_ k7_
end Go.Proofs.Ytgckcaoncjhgbaa
