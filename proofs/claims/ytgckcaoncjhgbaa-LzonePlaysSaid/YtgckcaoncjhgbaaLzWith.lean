/- lzone.with: a zone is another one. -/
import Derived.WalkKit
import Derived.WalkSpells
import Derived.WalkLawsBesides
import Derived.Lib.Hide
import Derived.Test.YtgckcaoncjhgbaaLzClone
import Derived.Test.YtgckcaoncjhgbaaLzWords
namespace Go.Proofs.Ytgckcaoncjhgbaa
open Go.RowKit Go.Proofs.Ytgckcaoncjhgbaa.PL Go.Proofs.YtgckcaoncjhgbaaW.PrintWords Go.Proofs.YtgckcaoncjhgbaaW.PrintLast
set_option linter.unusedVariables false
set_option linter.unusedSimpArgs false
set_option maxHeartbeats 2000000 in
set_option maxRecDepth 100000 in
theorem with_any (id m u b c z s me o a l : Int) (A0 : Option Addr) (c0 : Nat) (L : List S59) (i : Int) (x : S59) (w : World) (hr0 : Kd.C k59 w A0 L.length L) (hc0 : L.length ≤ c0) (hl : L.length < 1000000000) (i0 : 0 ≤ i) (i1 : i < (L.length : Int)) :
    Calls Try.prog 103 #[tabV id m u b c z s me o a l (.slice A0 L.length c0), .int .i64 i, zoV x] w fun e w' => ∃ v : Value, e = .returned (tabV id m u b c z s me o a l v) ∧ Kd.R k59 59 w' w.heap.size (fun _ => True) v (L.set i.toNat x) ∧ Below w.heap.size w w' := by
  have HK := Lib.hid (fun W h => cloneZ_any A0 c0 L W h hc0 hl)
  have hpos : 0 < L.length := by omega
  obtain ⟨n, hn⟩ : ∃ n, n = L.length := ⟨_, rfl⟩
  have hf := fun (base : Nat) (ok : Nat → Prop) (W : World) (v : Value) (h : Kd.R k59 59 W base ok v L) => Kd.R_form h hpos
  rw [← hn] at HK hr0 hc0 hl i1 hf ⊢
  have HR := Lib.hid hr0; have HF := Lib.hid hf; have Hn := Lib.hid hn; clear hr0 hn hf
  obtain ⟨st, wp, gen⟩ := x
  have hsz := sz3 w (tabO id m u b c z s me o a l (.slice A0 n c0)) (zoO st wp gen) (tabO 0 0 0 0 0 0 0 0 0 0 0 (.slice none 0 0))
  have H := al3 w (tabO id m u b c z s me o a l (.slice A0 n c0)) (zoO st wp gen) (tabO 0 0 0 0 0 0 0 0 0 0 0 (.slice none 0 0))
  have H0 := Lib.hid H.1; have H1 := Lib.hid H.2.1; have H2 := Lib.hid H.2.2.1; have HB0 := Lib.hid H.2.2.2; have HSZ := Lib.hid hsz; clear H hsz
  obtain ⟨x0, x1, x2, x3, x4, x5, x6, x7, x8, x9, x10, x11⟩ := cz12 H0.out
  have hge : w.heap.size ≤ w.heap.size + 1 + 1 := by omega
  have hgf : w.heap.size ≤ w.heap.size + 1 := by omega
  go_enter Try.func103, Try.ntmps103
  go_wp2_with (go_at_call 84; refine (HK.out _ (Kd.C_below HR.out HB0.out)).mono ?_; rintro e w1 ⟨v, rfl, hR, hb1⟩; obtain ⟨g, cp, rfl, hgb, hgl, -⟩ := HF.out _ _ _ _ hR; rw [HSZ.out] at hgb; have HB1 := Lib.hid (below_step HB0.out hb1); have K1 := Lib.hid (blk_below H0.out hb1); have G1 := Lib.hid (blk_below H1.out hb1); have G2 := Lib.hid (blk_below H2.out hb1); clear hb1; have n0 : g ≠ w.heap.size := (by omega); have n0' : w.heap.size ≠ g := (by omega); have n1 : g ≠ w.heap.size + 1 := (by omega); have n1' : w.heap.size + 1 ≠ g := (by omega); have n2 : g ≠ w.heap.size + 1 + 1 := (by omega); have n2' : w.heap.size + 1 + 1 ≠ g := (by omega); obtain ⟨y0, y1, y2, y3, y4, y5, y6, y7, y8, y9, y10, y11⟩ := cz12 K1.out; obtain ⟨yf0, yf1, yf2, yf3, yf4, yf5, yf6, yf7, yf8, yf9, yf10, yf11⟩ := fz12 K1.out; obtain ⟨u0, u1, u2⟩ := cz3 G1.out; obtain ⟨v0, v1, v2, v3, v4, v5, v6, v7, v8, v9, v10, v11⟩ := cz12 G2.out; obtain ⟨vf0, vf1, vf2, vf3, vf4, vf5, vf6, vf7, vf8, vf9, vf10, vf11⟩ := fz12 G2.out; have hR2 := Kd.R_set hR K1.out (by decide) 11 (.slice (some ⟨g, 0, none⟩) n cp); obtain ⟨⟨e0, e1, e2⟩, ⟨ef0, ef1, ef2⟩, hR3⟩ := R_zone hR2 i i0 i1; have HR3 := Lib.hid hR3; clear hR hR2 hR3)
  have F2 := fun (u0 u1 u2 : Value) => far_zone (i := i.toNat * 3) (u0 := u0) (u1 := u1) (u2 := u2) (blk_far G2.out (by omega : w.heap.size + 1 + 1 ≠ w.heap.size) (p := ⟨w.heap.size, 11, none⟩) (.slice (some ⟨g, 0, none⟩) n cp)) n2'
  refine bodyPost_ret (results_cell_row rfl _ _ (w.heap.size + 1 + 1) 27 #[.int .i64 id, .int .i64 m, .int .i64 u, .int .i64 b, .int .i64 c, .int .i64 z, .int .i64 s, .int .i64 me, .int .i64 o, .int .i64 a, .int .i64 l, .slice (some ⟨g, 0, none⟩) n cp] (0, 0) _ rfl (put12 (F2 _ _ _)) Try.underlying27 rfl (by kernel_rfl)) rfl ?_
  refine ⟨_, rfl, ?_, bl12 (bl_zone (below_set HB1.out (Nat.le_refl _)) (by omega)) hge⟩
  exact Kd.R_lower (R12 (Kd.R_mono (HR3.out ⟨st, wp, gen⟩) (fun _ _ => trivial)) (F2 _ _ _) (by decide)) (by rw [HSZ.out]; omega)
end Go.Proofs.Ytgckcaoncjhgbaa
