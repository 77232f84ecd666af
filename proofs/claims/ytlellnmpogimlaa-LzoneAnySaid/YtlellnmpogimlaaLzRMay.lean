/- revetmentref17: Right's contract, may, Count. -/
import Derived.WalkKit
import Derived.WalkSpells
import Derived.WalkLawsBesides
import Derived.Lib.Hide
import Derived.Test.YtlellnmpogimlaaLzDoesW
import Derived.Test.YtlellnmpogimlaaLzRightLaw
import Derived.Test.YtlellnmpogimlaaLzOps
import Derived.Test.YtlellnmpogimlaaLzWrite
import Derived.Test.YtlellnmpogimlaaPLx13
namespace Go.Proofs.Ytlellnmpogimlaa
-- revetmentref17_Right.calls
open Go.RowKit Go.Proofs.Ytlellnmpogimlaa.PL Go.Proofs.YtlellnmpogimlaaW.PrintWords Go.Proofs.YtlellnmpogimlaaW.PrintLast
set_option linter.unusedVariables false
set_option linter.unusedSimpArgs false
abbrev rtabO (id m u b c z s me o a l : Int) (v : Value) : Obj := .cells #[.int .i64 id, .int .i64 m, .int .i64 u, .int .i64 b, .int .i64 c, .int .i64 z, .int .i64 s, .int .i64 me, .int .i64 o, .int .i64 a, .int .i64 l, v] 34
theorem rright_any (id m u b c z s me o a l : Int) (A0 : Option Addr) (c0 : Nat) (L : List S57) (w : World) (hr0 : Kd.C k57 w A0 L.length L) (hc0 : L.length ≤ c0) (hl : L.length ≤ 1000000) :
    Calls Try.prog 20 #[tabV id m u b c z s me o a l (.slice A0 L.length c0)] w fun e w' => e = .returned (.bool (rightZ id m u b c z s me o a l L)) ∧ Below w.heap.size w w' :=
  revetmentref17_Right.calls (2 * L.length + 2) id m u b c z s me o a l A0 c0 L (rightZ id m u b c z s me o a l L) w hr0 hc0 (Geo.rright_eq id m u b c z s me o a l L _ hl (by omega))
set_option maxHeartbeats 2000000 in
set_option maxRecDepth 100000 in
theorem may_any (id m u b c z s me o a l : Int) (A0 : Option Addr) (c0 : Nat) (L : List S57) (i : Int) (w : World) (hr0 : Kd.C k57 w A0 L.length L) (hc0 : L.length ≤ c0) (hl : L.length ≤ 1000000) :
    Calls Try.prog 51 #[tabV id m u b c z s me o a l (.slice A0 L.length c0), .int .i64 i] w fun e w' => e = .returned (.int .i64 (atZ id m u b c z s me o a l L i).2) ∧ Below w.heap.size w w' := by
  obtain ⟨n, hn⟩ : ∃ n, n = L.length := ⟨_, rfl⟩
  obtain ⟨V, hV⟩ : ∃ V, V = (atZ id m u b c z s me o a l L i).2 := ⟨_, rfl⟩
  rw [← hV]; unfold atZ at hV
  have hk := fun W h => rright_any id m u b c z s me o a l A0 c0 L W h hc0 hl
  generalize rightZ id m u b c z s me o a l L = R at hk hV
  rw [← hn] at hk hr0 hc0 hV ⊢
  have HR := Lib.hid hr0; have HK := Lib.hid hk; have HV := Lib.hid hV
  clear hr0 hk hV hn
  have H := al1 w (rtabO id m u b c z s me o a l (.slice A0 n c0))
  have H0 := Lib.hid H.1; have HB0 := Lib.hid H.2; clear H
  obtain ⟨t0, t1, t2, t3, t4, t5, t6, t7, t8, t9, t10, t11⟩ := cz12 H0.out
  cases R
  · have hv : V = 1 := HV.out
    subst hv
    go_enter Try.func51, Try.ntmps51
    go_wp2_with first
      | (go_at_call 20; refine (HK.out _ (Kd.C_below HR.out HB0.out)).mono ?_; rintro e w1 ⟨rfl, hb1⟩; have HB1 := Lib.hid (below_step HB0.out hb1); have K1 := Lib.hid (blk_below H0.out hb1); obtain ⟨y0, y1, y2, y3, y4, y5, y6, y7, y8, y9, y10, y11⟩ := cz12 K1.out; clear hb1)
    go_ret
    exact ⟨rfl, HB1.out⟩
  · by_cases i0 : i < 0
    · have hv : V = 2 := by have t := HV.out; rw [if_pos rfl, if_pos i0] at t; exact t
      subst hv
      go_enter Try.func51, Try.ntmps51
      go_wp2_with first
        | (go_at_call 20; refine (HK.out _ (Kd.C_below HR.out HB0.out)).mono ?_; rintro e w1 ⟨rfl, hb1⟩; have HB1 := Lib.hid (below_step HB0.out hb1); have K1 := Lib.hid (blk_below H0.out hb1); obtain ⟨y0, y1, y2, y3, y4, y5, y6, y7, y8, y9, y10, y11⟩ := cz12 K1.out; clear hb1)
      go_ret
      exact ⟨rfl, HB1.out⟩
    · by_cases i1 : (n : Int) ≤ i
      · have hv : V = 2 := by have t := HV.out; rw [if_pos rfl, if_neg i0, if_pos i1] at t; exact t
        subst hv
        go_enter Try.func51, Try.ntmps51
        go_wp2_with first
          | (go_at_call 20; refine (HK.out _ (Kd.C_below HR.out HB0.out)).mono ?_; rintro e w1 ⟨rfl, hb1⟩; have HB1 := Lib.hid (below_step HB0.out hb1); have K1 := Lib.hid (blk_below H0.out hb1); obtain ⟨y0, y1, y2, y3, y4, y5, y6, y7, y8, y9, y10, y11⟩ := cz12 K1.out; clear hb1)
        go_ret
        exact ⟨rfl, HB1.out⟩
      · have hv : V = 0 := by have t := HV.out; rw [if_pos rfl, if_neg i0, if_neg i1] at t; exact t
        subst hv
        go_enter Try.func51, Try.ntmps51
        go_wp2_with first
          | (go_at_call 20; refine (HK.out _ (Kd.C_below HR.out HB0.out)).mono ?_; rintro e w1 ⟨rfl, hb1⟩; have HB1 := Lib.hid (below_step HB0.out hb1); have K1 := Lib.hid (blk_below H0.out hb1); obtain ⟨y0, y1, y2, y3, y4, y5, y6, y7, y8, y9, y10, y11⟩ := cz12 K1.out; clear hb1)
        go_ret
        exact ⟨rfl, HB1.out⟩
set_option maxHeartbeats 2000000 in
set_option maxRecDepth 100000 in
theorem rcount_any (id m u b c z s me o a l : Int) (A0 : Option Addr) (c0 : Nat) (L : List S57) (lo hi : Int) (w : World) (hr0 : Kd.C k57 w A0 L.length L) (hc0 : L.length ≤ c0) :
    Calls Try.prog 18 #[tabV id m u b c z s me o a l (.slice A0 L.length c0), .int .i64 lo, .int .i64 hi] w fun e w' => e = .returned (.int .i64 (cntZ lo hi L)) ∧ Below w.heap.size w w' := by
  have HR := Lib.hid hr0
  obtain ⟨n, hn⟩ : ∃ n, n = L.length := ⟨_, rfl⟩
  rw [← hn]
  have Hn := Lib.hid hn
  clear hr0 hn
  have H := al1 w (rtabO id m u b c z s me o a l (.slice A0 n c0))
  have H0 := Lib.hid H.1; have HB0 := Lib.hid H.2; clear H
  have HM := Lib.hid (Kd.C_max HR.out)
  go_enter Try.func18, Try.ntmps18
  go_wp2
  go_loopw [7, 8] (fun v7 v8 wr => ∃ j : Nat, v7 = .int .i64 (cntZ lo hi (L.take j)) ∧ v8 = .int .i64 j ∧ j ≤ n ∧ Hid (wr.heap[w.heap.size]? = some (rtabO id m u b c z s me o a l (.slice A0 n c0))) ∧ Hid (Below w.heap.size w wr)) (fun v7 v8 _ => ((n : Int) - intOf v8).toNat)
  case atStart => exact ⟨0, by simp [cntZ], rfl, by omega, H0, HB0⟩
  case round =>
    obtain ⟨j, rfl, rfl, hj, HT, HB⟩ := hrel
    obtain ⟨t0, t1, t2, t3, t4, t5, t6, t7, t8, t9, t10, t11⟩ := cz12 HT.out
    by_cases hlt : j < n
    · have c1 : (j : Int) < (n : Int) := by omega
      have hC := Kd.C_below HR.out HB.out
      obtain ⟨ad, e, y0, y1, y2⟩ := at_T57 hC (j : Int) (by omega) (by have := Hn.out; omega)
      subst e
      have hM := HM.out; have hN := Hn.out
      have n1 := cntZ_next lo hi L j (by omega)
      have l1 := cntZ_le lo hi (L.take j)
      rw [List.length_take] at l1
      obtain ⟨x, hx⟩ : ∃ x, x = rd_T57 L (j : Int) := ⟨_, rfl⟩
      rw [← hx] at y0 y1 y2 n1
      simp only [Int.toNat_natCast] at y0 y1 y2
      clear hx hC
      have N1 := Lib.hid n1; have L1 := Lib.hid l1; have HN := Lib.hid hN; clear n1 l1 hN
      have e2 : wrap64 ((j : Int) + 1) = ((j + 1 : Nat) : Int) := by have := HN.out; unfold wrap64; push_cast; omega
      have E2 := Lib.hid e2; clear e2
      by_cases s1 : lo ≤ x.f0
      · by_cases s2 : x.f0 ≤ hi
        · have e3 : wrap64 (cntZ lo hi (L.take j) + 1) = cntZ lo hi (L.take (j + 1)) := by have t := N1.out; have := L1.out; have := HN.out; rw [if_pos ⟨s1, s2⟩] at t; unfold wrap64; omega
          have E3 := Lib.hid e3; clear e3
          go_wp2
          rw [E2.out, E3.out]
          exact ⟨⟨j + 1, rfl, rfl, by omega, HT, HB⟩, by simp only [intOf]; push_cast; omega⟩
        · have e3 : cntZ lo hi (L.take (j + 1)) = cntZ lo hi (L.take j) := by have t := N1.out; rw [if_neg (fun q => s2 q.2)] at t; omega
          have E3 := Lib.hid e3; clear e3
          go_wp2
          rw [E2.out, ← E3.out]
          exact ⟨⟨j + 1, rfl, rfl, by omega, HT, HB⟩, by simp only [intOf]; push_cast; omega⟩
      · have e3 : cntZ lo hi (L.take (j + 1)) = cntZ lo hi (L.take j) := by have t := N1.out; rw [if_neg (fun q => s1 q.1)] at t; omega
        have E3 := Lib.hid e3; clear e3
        go_wp2
        rw [E2.out, ← E3.out]
        exact ⟨⟨j + 1, rfl, rfl, by omega, HT, HB⟩, by simp only [intOf]; push_cast; omega⟩
    · have He := Lib.hid (show j = n by omega)
      have c1 : ¬ (j : Int) < (n : Int) := by omega
      go_wp2
      go_ret
      exact ⟨by rw [He.out, Hn.out, List.take_length]; rfl, HB.out⟩
end Go.Proofs.Ytlellnmpogimlaa
