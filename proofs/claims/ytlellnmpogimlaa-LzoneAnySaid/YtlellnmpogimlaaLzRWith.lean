/- revetmentref17.With. -/
import Derived.WalkKit
import Derived.WalkSpells
import Derived.WalkLawsBesides
import Derived.Lib.Hide
import Derived.Test.YtlellnmpogimlaaLzRMay
namespace Go.Proofs.Ytlellnmpogimlaa
-- revetmentref17_Right.calls
open Go.RowKit Go.Proofs.Ytlellnmpogimlaa.PL Go.Proofs.YtlellnmpogimlaaW.PrintWords Go.Proofs.YtlellnmpogimlaaW.PrintLast
set_option linter.unusedVariables false
set_option linter.unusedSimpArgs false
set_option maxHeartbeats 2000000 in
set_option maxRecDepth 100000 in
theorem rwith_any (id m u b c z s me o a l : Int) (A0 : Option Addr) (c0 : Nat) (L : List S57) (i : Int) (x : S57) (w : World) (hr0 : Kd.C k57 w A0 L.length L) (hc0 : L.length ≤ c0) (hl : L.length < 1000000000) (i0 : 0 ≤ i) (i1 : i < (L.length : Int)) :
    Calls Try.prog 52 #[tabV id m u b c z s me o a l (.slice A0 L.length c0), .int .i64 i, zoV x] w fun e w' => ∃ v : Value, e = .returned (tabV id m u b c z s me o a l v) ∧ Kd.R k57 57 w' w.heap.size (fun _ => True) v (L.set i.toNat x) ∧ Below w.heap.size w w' := by
  have hpos : 0 < L.length := by omega
  obtain ⟨n, hn⟩ : ∃ n, n = L.length := ⟨_, rfl⟩
  have hf := fun (base : Nat) (ok : Nat → Prop) (W : World) (v : Value) (h : Kd.R k57 57 W base ok v L) => Kd.R_form h hpos
  obtain ⟨ad, e, -⟩ := at_T57 hr0 i i0 i1
  subst e
  rw [← hn] at hr0 hc0 hl i1 hf ⊢
  have HR := Lib.hid hr0; have HF := Lib.hid hf; have Hn := Lib.hid hn; clear hr0 hn hf
  obtain ⟨st, wp, gen⟩ := x
  have hsz := sz3 w (rtabO id m u b c z s me o a l (.slice (some ad) n c0)) (zoO st wp gen) (rtabO 0 0 0 0 0 0 0 0 0 0 0 (.slice none 0 0))
  have H := al3 w (rtabO id m u b c z s me o a l (.slice (some ad) n c0)) (zoO st wp gen) (rtabO 0 0 0 0 0 0 0 0 0 0 0 (.slice none 0 0))
  have H0 := Lib.hid H.1; have H1 := Lib.hid H.2.1; have H2 := Lib.hid H.2.2.1; have HB0 := Lib.hid H.2.2.2; have HSZ := Lib.hid hsz; clear H hsz
  have hbe := blk_new (((w.alloc (rtabO id m u b c z s me o a l (.slice (some ad) n c0))).alloc (zoO st wp gen)).alloc (rtabO 0 0 0 0 0 0 0 0 0 0 0 (.slice none 0 0))) (.cells #[] 57)
  rw [HSZ.out] at hbe
  have HBS := Lib.hid (show w.heap.size + 1 + 1 + 1 ≤ ((((w.alloc (rtabO id m u b c z s me o a l (.slice (some ad) n c0))).alloc (zoO st wp gen)).alloc (rtabO 0 0 0 0 0 0 0 0 0 0 0 (.slice none 0 0))).alloc (.cells #[] 57)).heap.size by have := blk_lt hbe; omega)
  have hO : Kd.R k57 57 ((((w.alloc (rtabO id m u b c z s me o a l (.slice (some ad) n c0))).alloc (zoO st wp gen)).alloc (rtabO 0 0 0 0 0 0 0 0 0 0 0 (.slice none 0 0))).alloc (.cells #[] 57)) (w.heap.size + 1 + 1 + 1) (fun _ => True) (.slice (some ⟨w.heap.size + 1 + 1 + 1, 0, none⟩) 0 0) ([] : List S57) :=
    ⟨fun _ _ => trivial, [], ⟨rfl, .inr ⟨w.heap.size + 1 + 1 + 1, 0, #[], rfl, Nat.le_refl _, hbe, Nat.le_refl _, by simp [maxLen], rfl, rfl⟩⟩, ⟨rfl, fun j p hj => by simp at hj⟩⟩
  have HO := Lib.hid hO; clear hO hbe
  have hbb := below_alloc (Below.refl _ (((w.alloc (rtabO id m u b c z s me o a l (.slice (some ad) n c0))).alloc (zoO st wp gen)).alloc (rtabO 0 0 0 0 0 0 0 0 0 0 0 (.slice none 0 0)))) (.cells #[] 57)
  rw [HSZ.out] at hbb
  have HBB := Lib.hid hbb; clear hbb
  have hx0 := Lib.hid (blk_alloc H0.out (.cells #[] 57))
  obtain ⟨t0, t1, t2, t3, t4, t5, t6, t7, t8, t9, t10, t11⟩ := cz12 hx0.out
  have hge : w.heap.size ≤ w.heap.size + 1 + 1 := by omega
  go_enter Try.func52, Try.ntmps52
  go_wp2_with ((with_reducible refine gate_builtin (b := .append) (xs := #[.tmp 8, .tmp 10]) rfl ?_); at_builtin; refine Kd.R_append_rows k57 (w0 := ((w.alloc (rtabO id m u b c z s me o a l (.slice (some ad) n c0))).alloc (zoO st wp gen)).alloc (rtabO 0 0 0 0 0 0 0 0 0 0 0 (.slice none 0 0))) (w.heap.size + 1 + 1 + 1) rfl (.tmp 8) (.tmp 10) 24 57 (.agg #[(.int .i64 0), (.int .i64 0), (.int .i64 0)]) 24 rfl Try.underlying24 info57 rfl (by decide) (by omega) (.slice (some ⟨w.heap.size + 1 + 1 + 1, 0, none⟩) 0 0) [] L (some ad) n c0 (fun _ => True) (fun _ => False) rfl rfl ?aO ?aR (fun _ _ h => h) (fun _ h => h.elim) ?aF ?aB ?aS ?aL ?_; (case aR => exact Kd.C_alloc (Kd.C_below HR.out HB0.out) _); (case aB => exact HBB.out); (case aF => exact (fun _ _ => trivial)); (case aO => exact HO.out); (case aS => exact HBS.out); (case aL => simp; omega); intro v1 w1 ho hb hgr hat; rw [List.nil_append] at ho; rw [← HSZ.out] at hb; obtain ⟨g, cp, rfl, hgb, hgl, -⟩ := HF.out _ _ _ _ ho; have HB1 := Lib.hid (below_step HB0.out hb); have K1 := Lib.hid (blk_below H0.out hb); have G1 := Lib.hid (blk_below H1.out hb); have G2 := Lib.hid (blk_below H2.out hb); clear hb hgr hat; have n0 : g ≠ w.heap.size := (by omega); have n0p : w.heap.size ≠ g := (by omega); have n1 : g ≠ w.heap.size + 1 := (by omega); have n1p : w.heap.size + 1 ≠ g := (by omega); have n2 : g ≠ w.heap.size + 1 + 1 := (by omega); have n2p : w.heap.size + 1 + 1 ≠ g := (by omega); obtain ⟨y0, y1, y2, y3, y4, y5, y6, y7, y8, y9, y10, y11⟩ := cz12 K1.out; obtain ⟨yf0, yf1, yf2, yf3, yf4, yf5, yf6, yf7, yf8, yf9, yf10, yf11⟩ := fz12 K1.out; obtain ⟨u0, u1, u2⟩ := cz3 G1.out; obtain ⟨v0, v1, v2, v3, v4, v5, v6, v7, v8, v9, v10, v11⟩ := cz12 G2.out; obtain ⟨vf0, vf1, vf2, vf3, vf4, vf5, vf6, vf7, vf8, vf9, vf10, vf11⟩ := fz12 G2.out; obtain ⟨⟨e0, e1, e2⟩, ⟨ef0, ef1, ef2⟩, hR3⟩ := R_zone ho i i0 i1; have HR3 := Lib.hid (hR3 ⟨st, wp, gen⟩); clear ho hR3)
  have F2 := fun (u0 u1 u2 : Value) => blk_far (far_zone (i := i.toNat * 3) (u0 := u0) (u1 := u1) (u2 := u2) G2.out n2p) (by omega : w.heap.size + 1 + 1 ≠ w.heap.size) (p := ⟨w.heap.size, 11, none⟩) (.slice (some ⟨g, 0, none⟩) n cp)
  refine bodyPost_ret (results_cell_row rfl _ _ (w.heap.size + 1 + 1) 34 #[.int .i64 id, .int .i64 m, .int .i64 u, .int .i64 b, .int .i64 c, .int .i64 z, .int .i64 s, .int .i64 me, .int .i64 o, .int .i64 a, .int .i64 l, .slice (some ⟨g, 0, none⟩) n cp] (0, 0) _ rfl (put12 (F2 _ _ _)) Try.underlying34 rfl (by kernel_rfl)) rfl ?_
  refine ⟨_, rfl, ?_, bl12 (below_set (bl_zone HB1.out (by omega)) (Nat.le_refl _)) hge⟩
  exact Kd.R_lower (R12 (Kd.R_set HR3.out (far_zone K1.out n0p) (by decide) 11 _) (F2 _ _ _) (by decide)) (by omega)
end Go.Proofs.Ytlellnmpogimlaa
