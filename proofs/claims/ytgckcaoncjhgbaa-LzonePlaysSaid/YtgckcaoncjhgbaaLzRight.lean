/- lzone.Right: may a table be? -/
import Derived.WalkKit
import Derived.WalkSpells
import Derived.WalkLawsBesides
import Derived.Lib.Hide
import Derived.Test.YtgckcaoncjhgbaaLzZone
import Derived.Test.YtgckcaoncjhgbaaConfLaw
import Derived.Test.YtgckcaoncjhgbaaSqueeze
namespace Go.Proofs.Ytgckcaoncjhgbaa
open Go.RowKit Go.Proofs.Ytgckcaoncjhgbaa.PL Go.Proofs.YtgckcaoncjhgbaaW.PrintWords Go.Proofs.YtgckcaoncjhgbaaW.PrintLast
set_option linter.unusedVariables false
set_option linter.unusedSimpArgs false
def rightZ (id m u b c z s me o a l : Int) (L : List S59) : Bool := decide (checkC id m u b c z s me o a l = 0) && (decide ((L.length : Int) = z) && L.all (rzP (sizeC m u b c z s me o a l)))
set_option maxHeartbeats 2000000 in
set_option maxRecDepth 100000 in
theorem rightZ_gen (id m u b c z s me o a l : Int) (A0 : Option Addr) (c0 : Nat) (L : List S59) (w : World) (hr0 : Kd.C k59 w A0 L.length L) (hc0 : L.length ≤ c0)
    (hk : ∀ w, Calls Try.prog 52 #[.agg #[.int .i64 id, .int .i64 m, .int .i64 u, .int .i64 b, .int .i64 c, .int .i64 z, .int .i64 s, .int .i64 me, .int .i64 o, .int .i64 a, .int .i64 l]] w fun e w' => e = .returned (.int .i64 (checkC id m u b c z s me o a l)) ∧ Below w.heap.size w w')
    (hs : checkC id m u b c z s me o a l = 0 → (0 ≤ sizeC m u b c z s me o a l ∧ sizeC m u b c z s me o a l ≤ 1000000000) ∧ ∀ w, Calls Try.prog 68 #[.agg #[.int .i64 id, .int .i64 m, .int .i64 u, .int .i64 b, .int .i64 c, .int .i64 z, .int .i64 s, .int .i64 me, .int .i64 o, .int .i64 a, .int .i64 l]] w fun e w' => e = .returned (.int .i64 (sizeC m u b c z s me o a l)) ∧ Below w.heap.size w w') :
    Calls Try.prog 21 #[.agg #[.int .i64 id, .int .i64 m, .int .i64 u, .int .i64 b, .int .i64 c, .int .i64 z, .int .i64 s, .int .i64 me, .int .i64 o, .int .i64 a, .int .i64 l, .slice A0 L.length c0]] w fun e w' => e = .returned (.bool (rightZ id m u b c z s me o a l L)) ∧ Below w.heap.size w w' := by
  obtain ⟨n, hn⟩ : ∃ n, n = L.length := ⟨_, rfl⟩
  obtain ⟨R, hR⟩ : ∃ R, R = rightZ id m u b c z s me o a l L := ⟨_, rfl⟩
  obtain ⟨K, hK⟩ : ∃ K, K = checkC id m u b c z s me o a l := ⟨_, rfl⟩
  rw [← hR]; rw [← hn]
  unfold rightZ at hR
  rw [← hK] at hk hs hR
  have HR := Lib.hid hr0; have Hn := Lib.hid hn; have HS := Lib.hid hs; have HK := Lib.hid hk; have HRR := Lib.hid hR
  clear hr0 hn hs hk hR hK
  have hbx := blk_new w (.cells #[.int .i64 id, .int .i64 m, .int .i64 u, .int .i64 b, .int .i64 c, .int .i64 z, .int .i64 s, .int .i64 me, .int .i64 o, .int .i64 a, .int .i64 l, .slice A0 n c0] 27)
  have HB0 := Lib.hid (below_alloc (Below.refl _ w) (.cells #[.int .i64 id, .int .i64 m, .int .i64 u, .int .i64 b, .int .i64 c, .int .i64 z, .int .i64 s, .int .i64 me, .int .i64 o, .int .i64 a, .int .i64 l, .slice A0 n c0] 27))
  obtain ⟨x0, x1, x2, x3, x4, x5, x6, x7, x8, x9, x10, x11⟩ := cz12 hbx
  have HBX := Lib.hid hbx; clear hbx
  by_cases k0 : K = 0
  · subst k0
    have hsz := HS.out rfl
    obtain ⟨⟨s0, s1⟩, hsz⟩ := hsz
    obtain ⟨Z, hZ⟩ : ∃ Z, Z = sizeC m u b c z s me o a l := ⟨_, rfl⟩
    rw [← hZ] at s0 s1 hsz
    have HZ := Lib.hid hZ; have HSZ := Lib.hid hsz; clear hZ hsz HS
    by_cases c1 : (n : Int) = z
    · have cb : ((n : Int) != z) = false := bne_eq_false_iff_eq.mpr c1
      have hr : R = !(L.any (fun x => !rzP Z x)) := by rw [HRR.out, decide_eq_true rfl, decide_eq_true (by rw [← Hn.out]; exact c1), ← HZ.out, List.all_eq_not_any_not]; rfl
      have hct : ∀ (B : Nat) (W : World), W.heap[B]? = some (.cells #[.int .i64 Z] 3 (0, 0)) → Kd.C k59 W A0 L.length L → Calls Try.prog 69 #[.slice A0 n c0, .func (.func 70) #[] #[.pointer (some ⟨B, 0, none⟩)]] W fun e w' => e = .returned (.bool (L.any (fun x => !rzP Z x))) ∧ Below W.heap.size W w' := by
        intro B W hB hC
        have := contains_any A0 c0 L Z s0 s1 B W hB hC hc0
        rw [← Hn.out] at this
        exact this
      have HCT := Lib.hid hct; have HRV := Lib.hid hr; clear hct hr c1
      generalize L.any (fun x => !rzP Z x) = y at HCT HRV
      go_enter Try.func21, Try.ntmps21
      go_wp2_with first
        | (go_at_call 52; refine (HK.out _).mono ?_; rintro e w1 ⟨rfl, hb1⟩; have HB1 := Lib.hid (below_step HB0.out hb1); have HX1 := Lib.hid (blk_below HBX.out hb1); obtain ⟨y0, y1, y2, y3, y4, y5, y6, y7, y8, y9, y10, y11⟩ := cz12 HX1.out; clear hb1)
        | (go_at_call 68; refine (HSZ.out _).mono ?_; rintro e w2 ⟨rfl, hb2⟩; have HB2 := Lib.hid (below_step HB1.out hb2); have HX2 := Lib.hid (blk_below HX1.out hb2); obtain ⟨z0, z1, z2, z3, z4, z5, z6, z7, z8, z9, z10, z11⟩ := cz12 (blk_alloc HX2.out (.cells #[.int .i64 Z] 3)); clear hb2)
        | (go_at_call 69; refine (HCT.out w2.heap.size _ (blk_new w2 _) (Kd.C_alloc (Kd.C_below HR.out HB2.out) _)).mono ?_; rintro e w3 ⟨rfl, hb3⟩; have HB3 := Lib.hid (below_step (below_alloc HB2.out _) hb3); clear hb3)
      go_ret
      exact ⟨by rw [HRV.out]; rfl, HB3.out⟩
    · have cb : ((n : Int) != z) = true := bne_iff_ne.mpr c1
      have hr : R = false := by rw [HRR.out, decide_eq_true rfl, decide_eq_false (by rw [← Hn.out]; exact c1)]; rfl
      subst hr
      go_enter Try.func21, Try.ntmps21
      go_wp2_with (go_at_call 52; refine (HK.out _).mono ?_; rintro e w1 ⟨rfl, hb1⟩; have HB1 := Lib.hid (below_step HB0.out hb1); have HX1 := Lib.hid (blk_below HBX.out hb1); obtain ⟨y0, y1, y2, y3, y4, y5, y6, y7, y8, y9, y10, y11⟩ := cz12 HX1.out; clear hb1)
      go_ret
      exact ⟨rfl, HB1.out⟩
  · have hr : R = false := by rw [HRR.out, decide_eq_false k0]; rfl
    have cb : (K == 0) = false := beq_eq_false_iff_ne.mpr k0
    subst hr
    go_enter Try.func21, Try.ntmps21
    go_wp2_with (go_at_call 52; refine (HK.out _).mono ?_; rintro e w1 ⟨rfl, hb1⟩; have HB1 := Lib.hid (below_step HB0.out hb1); have HX1 := Lib.hid (blk_below HBX.out hb1); obtain ⟨y0, y1, y2, y3, y4, y5, y6, y7, y8, y9, y10, y11⟩ := cz12 HX1.out; clear hb1)
    go_ret
    exact ⟨rfl, HB1.out⟩
end Go.Proofs.Ytgckcaoncjhgbaa
