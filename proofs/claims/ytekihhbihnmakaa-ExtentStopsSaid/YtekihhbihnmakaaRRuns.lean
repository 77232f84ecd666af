/- The document's runs (revetmentref41.Runs): what it hands back: for all settings and any numbers. -/
import Derived.WalkKit
import Derived.WalkSpells
import Derived.WalkLawsBesides
import Derived.Deep.QuietTactic
import Derived.BigQuiet
import Derived.Lib.Hide
import Derived.Test.YtekihhbihnmakaaRunsLaw
import Derived.Test.YtekihhbihnmakaaPAx10
import Derived.Test.YtekihhbihnmakaaPAx23
import Derived.Test.YtekihhbihnmakaaPAx9
namespace Go.Proofs.Ytekihhbihnmakaa
open Go.RowKit Go.Proofs.Ytekihhbihnmakaa.PA Go.Proofs.YtekihhbihnmakaaW.PrintWords Go.Proofs.YtekihhbihnmakaaW.PrintLast Go.Proofs.Ytekihhbihnmakaa.Geo
set_option linter.unusedVariables false
set_option linter.unusedSimpArgs false
-- revetmentref08_Of.calls revetmentref09_Right.calls revetmentref07_Check.calls revetmentref07_Size.calls
theorem rs_pos (m u lb : Int) (n : Nat) : 0 ≤ (rs m u lb n).2.f2 ∧ (0 < n → 0 < (rs m u lb n).2.f2) := by
  induction n with
  | zero => simp [rs]
  | succ n ih =>
    rw [rs]; split
    · exact ⟨by have := ih.1; show 0 ≤ (rs m u lb n).2.f2 + 1; omega, fun _ => by have := ih.1; show 0 < (rs m u lb n).2.f2 + 1; omega⟩
    · exact ⟨(by decide : (0 : Int) ≤ 1), fun _ => (by decide : (0 : Int) < 1)⟩
section
variable (id m u b c z s me o a l : Int)
theorem rright_r (at1 n1 : Int) : revetmentref09_Right.f id m u b c z s me o a l at1 n1 = some (decide (checkC id m u b c z s me o a l = 0 ∧ 0 ≤ at1 ∧ 0 ≤ n1 ∧ at1 + n1 ≤ sizeC m u b c z s me o a l)) := by
  simp only [revetmentref09_Right.f, revetmentref07_Check.f, revetmentref07_Size.f, Option.bind_some]
  by_cases h : checkC id m u b c z s me o a l = 0
  · rw [if_pos h]
    obtain ⟨g, _, _, _, gsz⟩ := good h
    have h1 := g.Z2; have h2 := g.Z1; have h3 := g.R1; rw [← gsz] at h1 h2
    by_cases c1 : at1 ≥ 0
    · rw [if_pos c1]
      by_cases c2 : n1 ≥ 0
      · rw [if_pos c2]
        by_cases c3 : at1 ≤ sizeC m u b c z s me o a l
        · rw [if_pos c3, wr ⟨by omega, by omega⟩]
          congr 1
          rw [decide_eq_decide]
          constructor <;> intro h <;> omega
        · rw [if_neg c3]; congr 1; symm; rw [decide_eq_false_iff_not]; omega
      · rw [if_neg c2]; congr 1; symm; rw [decide_eq_false_iff_not]; omega
    · rw [if_neg c1]; congr 1; symm; rw [decide_eq_false_iff_not]; omega
  · rw [if_neg h]; simp [h]
end

set_option maxHeartbeats 4000000 in
set_option maxRecDepth 100000 in
theorem rruns_any (id m u b c z s me o a l : Int) (at1 n1 : Int) (w : World) :
    Calls Try.prog 36 #[.agg #[.int .i64 id, .int .i64 m, .int .i64 u, .int .i64 b, .int .i64 c, .int .i64 z, .int .i64 s, .int .i64 me, .int .i64 o, .int .i64 a, .int .i64 l], .int .i64 at1, .int .i64 n1] w fun e w' =>
      ∃ v0_ : Value, e = .returned v0_ ∧ Kd.R k45 45 w' w.heap.size (fun _ => True) v0_ (runsF id m u b c z s me o a l at1 n1) ∧ Below w.heap.size w w' := by
  have HR := Lib.hid (rright_r id m u b c z s me o a l at1 n1)
  have W1C := Lib.hid (blk_new w (.cells #[.int .i64 id, .int .i64 m, .int .i64 u, .int .i64 b, .int .i64 c, .int .i64 z, .int .i64 s, .int .i64 me, .int .i64 o, .int .i64 a, .int .i64 l] 23))
  obtain ⟨q0, q1, q2, q3, q4, q5, q6, q7, q8, q9, q10⟩ := cz11 W1C.out
  by_cases hg : checkC id m u b c z s me o a l = 0 ∧ 0 ≤ at1 ∧ 0 ≤ n1 ∧ at1 + n1 ≤ sizeC m u b c z s me o a l
  · have hF : runsF id m u b c z s me o a l at1 n1 = runsL m u at1 n1.toNat := if_pos hg
    have HR2 : Hid (revetmentref09_Right.f id m u b c z s me o a l at1 n1 = some true) := Lib.hid (by rw [HR.out]; simp [hg])
    obtain ⟨cnt, rfl⟩ := Int.eq_ofNat_of_zero_le hg.2.2.1
    rw [Int.toNat_natCast] at hF
    rw [hF]
    have HG := Lib.hid hg; clear hg HR hF
    go_enter Try.func36, Try.ntmps36
    go_wp2_with (go_at_call 38; refine (revetmentref09_Right.calls id m u b c z s me o a l at1 cnt true _ HR2.out).mono ?_; rintro e w1 ⟨rfl, hb1⟩; have HC1 := Lib.hid (blk_below W1C.out hb1); have HB1 := Lib.hid (below_step (below_alloc (Below.refl _ w) (.cells #[.int .i64 id, .int .i64 m, .int .i64 u, .int .i64 b, .int .i64 c, .int .i64 z, .int .i64 s, .int .i64 me, .int .i64 o, .int .i64 a, .int .i64 l] 23)) hb1); clear hb1 q0 q1 q2 q3 q4 q5 q6 q7 q8 q9 q10)
    clear W1C HR2
    go_loopw [7, 8] (fun v7 v8 wr => ∃ j : Nat, v8 = .int .i64 (at1 + j) ∧ j ≤ cnt ∧ Hid (Kd.R k45 45 wr w.heap.size (fun _ => True) v7 (runsL m u at1 j)) ∧ Hid (wr.heap[w.heap.size]? = some (.cells #[.int .i64 id, .int .i64 m, .int .i64 u, .int .i64 b, .int .i64 c, .int .i64 z, .int .i64 s, .int .i64 me, .int .i64 o, .int .i64 a, .int .i64 l] 23 (0, 0))) ∧ Hid (Below w.heap.size w wr))
      (fun _ v8 _ => (at1 + cnt - intOf v8).toNat)
    case atStart => exact ⟨0, by simp, by omega, Lib.hid (Kd.R_nil _ _ _ _ _), HC1, HB1⟩
    case round =>
      clear HC1 HB1
      obtain ⟨j, rfl, hj, HO, HC, HB⟩ := hrel
      obtain ⟨q0, q1, q2, q3, q4, q5, q6, q7, q8, q9, q10⟩ := cz11 HC.out
      obtain ⟨g, _, _, _, gsz⟩ := good HG.out.1
      have HGd := Lib.hid g; clear g
      have HSZ := Lib.hid gsz; clear gsz
      have e1 : wrap64 (at1 + (cnt : Int)) = at1 + cnt := by
        have h1 := HG.out.2.2.2; have h2 := HSZ.out; have h3 := HGd.out.Z2; have h4 := HG.out.2.1
        exact Geo.wr ⟨by omega, by omega⟩
      have E1 := Lib.hid e1; clear e1
      have HCB : Hid ((cnt : Int) ≤ 3932160 ∧ 0 ≤ at1 ∧ at1 + cnt ≤ 3932160) := Lib.hid (by have h1 := HG.out.2.2.2; have h2 := HSZ.out; have h3 := HGd.out.Z2; have h4 := HG.out.2.1; omega)
      have HBD := Lib.hid (rs_bd HGd.out HG.out.2.1 j (by have := HG.out.2.2.2; rw [HSZ.out] at this; omega))
      have HPS := Lib.hid (rs_pos m u at1 j)
      have HLN := Lib.hid (runsL_len m u at1 j).2
      obtain ⟨A, cp, rfl, hle, hC⟩ := Kd.R_reads HO.out
      clear hle hC
      by_cases hlt : j < cnt
      · have c1 : at1 + (j : Int) < at1 + cnt := by omega
        have hof := Geo.rof_ok id m u b c z s me o a l 20 (Nat.le_refl _) (at1 + j) HG.out.1 ⟨by have := HCB.out; omega, by have := HG.out.2.2.2; omega⟩
        unfold placeP at hof
        obtain ⟨st, hst⟩ : ∃ st, st = (at1 + j) / ((m - 1) * u) := ⟨_, rfl⟩
        obtain ⟨un, hun⟩ : ∃ un, un = (at1 + j) % ((m - 1) * u) / u := ⟨_, rfl⟩
        obtain ⟨pin, hin⟩ : ∃ pin, pin = (at1 + j) % u := ⟨_, rfl⟩
        obtain ⟨mb, hmb⟩ : ∃ mb, mb = mbP m u (at1 + j) := ⟨_, rfl⟩
        obtain ⟨ph, hph⟩ : ∃ ph, ph = phP m u (at1 + j) := ⟨_, rfl⟩
        have hof : revetmentref08_Of.f 20 id m u b c z s me o a l (at1 + j) = some (st, un, pin, mb, ph, true) := by rw [hof, hmb, hph, mbP, phP, hst, hun, hin]
        have Hof := Lib.hid hof; have Hmb := Lib.hid hmb; have Hph := Lib.hid hph
        clear hof hst hun hin hmb hph
        rw [← E1.out] at c1
        have Hlt := Lib.hid hlt
        obtain ⟨r, hr⟩ : ∃ r, r = (rs m u at1 j).2 := ⟨_, rfl⟩
        obtain ⟨oo, hoo⟩ : ∃ oo, oo = (rs m u at1 j).1 := ⟨_, rfl⟩
        rw [← hr] at HBD HPS
        have eL : runsL m u at1 j = endR oo r := by rw [hoo, hr]; rfl
        rw [eL] at HO HLN
        rw [eL]
        have eN : runsL m u at1 (j + 1) = if goesR r mb ph (at1 + j) then oo ++ [⟨r.f0, r.f1, r.f2 + 1, r.f3⟩] else endR oo r ++ [⟨mb, ph, 1, at1 + j⟩] := by
          rw [← eL]; unfold runsL
          rw [rs, ← Hmb.out, ← Hph.out]; rw [hr, hoo]; split
          · rename_i hg; simp only [endR]; rw [if_pos (by have := hg.1; omega)]
          · simp only [endR]; rw [if_pos (by decide)]
        have EN := Lib.hid eN; have Hr := Lib.hid hr; have Hoo := Lib.hid hoo; clear eN eL hr hoo
        have E2 : Hid (wrap64 (at1 + (j : Int) + 1) = at1 + ((j + 1 : Nat) : Int)) := Lib.hid (by have h2 := HCB.out; rw [Geo.wr ⟨by omega, by omega⟩]; push_cast; omega)
        by_cases hp : 0 < r.f2
        · have he : endR oo r = oo ++ [r] := by unfold endR; rw [if_pos hp]
          rw [he] at HO HLN EN ⊢
          clear he
          have hl2 : ((oo ++ [r]).length : Int) - 1 = oo.length := by simp
          obtain ⟨ln, hln⟩ : ∃ ln, ln = (oo ++ [r]).length := ⟨_, rfl⟩
          obtain ⟨ji, hji⟩ : ∃ ji : Int, ji = oo.length := ⟨_, rfl⟩
          have hji2 : wrap64 ((ln : Int) - 1) = ji := by rw [hln, hl2, hji]; have := HLN.out; rw [← hln] at this; have h2 := HCB.out; exact Geo.wr ⟨by omega, by omega⟩
          have hjw : (IntKind.i64.wrap ((ln : Int) - 1)) = ji := (i64_w _).trans hji2
          have p0 : 0 ≤ ji := by omega
          have p1 : ji < (ln : Int) := by rw [hln]; simp; omega
          rw [← hln] at HO ⊢
          have Hln := Lib.hid hln; have Hji := Lib.hid hji; clear hln hji hl2
          go_wp2_with (go_at_call 18; refine (revetmentref08_Of.calls 20 id m u b c z s me o a l (at1 + j) st un pin mb ph true _ Hof.out).mono ?_; rintro e w2 ⟨rfl, hb2⟩)
          have HO3 := Lib.hid (Kd.R_alloc (Kd.R_below HO.out hb2) (.cells #[.int .i64 st, .int .i64 un, .int .i64 pin, .int .i64 mb, .int .i64 ph] 25))
          have HC3 := Lib.hid (blk_alloc (blk_below HC.out hb2) (.cells #[.int .i64 st, .int .i64 un, .int .i64 pin, .int .i64 mb, .int .i64 ph] 25))
          have HP3 := Lib.hid (blk_new w2 (.cells #[.int .i64 st, .int .i64 un, .int .i64 pin, .int .i64 mb, .int .i64 ph] 25))
          have HB3 := Lib.hid (below_alloc (below_step HB.out hb2) (.cells #[.int .i64 st, .int .i64 un, .int .i64 pin, .int .i64 mb, .int .i64 ph] 25))
          obtain ⟨W3, hW3⟩ : ∃ W3, w2.alloc (.cells #[.int .i64 st, .int .i64 un, .int .i64 pin, .int .i64 mb, .int .i64 ph] 25) = W3 := ⟨_, rfl⟩
          obtain ⟨gp, hgp⟩ : ∃ gp, w2.heap.size = gp := ⟨_, rfl⟩
          rw [hW3] at HO3 HC3 HB3 ⊢
          rw [hW3, hgp] at HP3
          rw [hgp]
          clear hW3 hgp hb2 HO HC HB q0 q1 q2 q3 q4 q5 q6 q7 q8 q9 q10
          obtain ⟨x0, x1, x2, x3, x4⟩ := cz5 HP3.out
          have hpos : 0 < (oo ++ [r]).length := by simp
          rw [Hln.out] at HO3
          obtain ⟨g0, cp', hv, hgb, hgl, _⟩ := Kd.R_form HO3.out hpos
          injection hv with hA hl hcp
          subst hA hcp
          rw [← Hln.out] at HO3
          obtain ⟨ce, hcl, hM, hcc, hfr⟩ := Kd.R_elem HO3.out ⟨0, 0, 0, 0⟩ ji p0 p1
          have hrd : (oo ++ [r]).getD ji.toNat ⟨0, 0, 0, 0⟩ = r := by
            rw [Hji.out, Int.toNat_natCast, List.getD_eq_getElem?_getD]; simp
          rw [hrd] at hM
          obtain rfl := k45_openM hM
          have y0 := hcc 0 _ rfl; have y1 := hcc 1 _ rfl; have y2 := hcc 2 _ rfl; have y3 := hcc 3 _ rfl; have z2 := hfr 2
          simp only [show (k45).sz = 4 from rfl, Nat.add_zero] at y0 y1 y2 y3 z2
          have HSEG := Lib.hid (fun (v : Int) (nq : Nat) => Kd.R_seg (Kd.R_drewN HO3.out nq) ji p0 p1 (seg := [.int .i64 v]) (j := 2) hcl hcc (show 3 ≤ 4 by decide) (x' := (⟨r.f0, r.f1, v, r.f3⟩ : S45)) (k45_mkM _ _ _ (⟨r.f0, r.f1, v, r.f3⟩ : S45)) (fun _ hk => hk))
          have HY := Lib.hid hgb
          clear hcl hM hcc hfr hrd hgb hl hgl
          obtain ⟨s12, hs12⟩ : ∃ s12, s12 = r.f1 + r.f2 := ⟨_, rfl⟩
          obtain ⟨s32, hs32⟩ : ∃ s32, s32 = r.f3 + r.f2 := ⟨_, rfl⟩
          have w1 : IntKind.i64.wrap (r.f1 + r.f2) = s12 := (i64_w _).trans (by have h1 := HBD.out; have h2 := HCB.out; rw [hs12]; exact Geo.wr ⟨by omega, by omega⟩)
          have w3 : IntKind.i64.wrap (r.f3 + r.f2) = s32 := (i64_w _).trans (by have h1 := HBD.out; have h2 := HCB.out; rw [hs32]; exact Geo.wr ⟨by omega, by omega⟩)
          have S12 := Lib.hid hs12; have S32 := Lib.hid hs32; clear hs12 hs32
          have gb0 : decide (0 ≤ ji) = true := decide_eq_true p0
          by_cases d1 : r.f0 = mb
          · have d1b : (r.f0 == mb) = true := beq_iff_eq.mpr d1
            have D1 := Lib.hid d1; clear d1
            by_cases d2 : s12 = ph
            · have d2b : (s12 == ph) = true := beq_iff_eq.mpr d2
              have D2 := Lib.hid d2; clear d2
              by_cases d3 : s32 = at1 + j
              · have d3b : (s32 == at1 + j) = true := beq_iff_eq.mpr d3
                have D3 := Lib.hid d3; clear d3
                go_quiet (fail)
                go_wp2
                have ef : wrap64 (r.f2 + 1) = r.f2 + 1 := by have h1 := HBD.out; have h2 := HCB.out; exact Geo.wr ⟨by omega, by omega⟩
                rw [ef, E2.out]
                have hseg := HSEG.out (r.f2 + 1) nq
                refine ⟨⟨j + 1, rfl, by omega, Lib.hid ?_, Lib.hid (blk_grown (blk_drewN HC3.out nq) hseg.2 (Kd.R_ne HO3.out HC3.out (by decide))), Lib.hid (below_set (pw_below_drewN HB3.out nq) HY.out)⟩, ?_⟩
                · rw [EN.out, if_pos ⟨hp, D1.out, S12.out.symm.trans D2.out, S32.out.symm.trans D3.out⟩]
                  have hset : (oo ++ [r]).set ji.toNat (⟨r.f0, r.f1, r.f2 + 1, r.f3⟩ : S45) = oo ++ [⟨r.f0, r.f1, r.f2 + 1, r.f3⟩] := by
                    rw [Hji.out, Int.toNat_natCast, List.set_append_right _ _ (Nat.le_refl _)]; simp
                  rw [← hset]; exact hseg.1
                · simp only [intOf]; push_cast; omega
              · have d3b : (s32 == at1 + j) = false := beq_eq_false_iff_ne.mpr d3
                have D3 := Lib.hid d3; clear d3
                go_quiet (fail)
                go_wp2_with ((with_reducible refine gate_builtin (b := .append) (xs := #[.tmp 85, .tmp 92]) rfl ?_); at_builtin; refine Kd.R_append k45 (w0 := w) w.heap.size rfl (.tmp 85) (.tmp 92) 40 45 (.agg #[(.int .i64 0), (.int .i64 0), (.int .i64 0), (.int .i64 0)]) 32 rfl Try.underlying40 info45 rfl (by decide) (by omega) (.slice (some ⟨g0, 0, none⟩) ln cp) (oo ++ [r]) (⟨mb, ph, 1, at1 + j⟩ : S45) [.int .i64 mb, .int .i64 ph, .int .i64 1, .int .i64 (at1 + j)] (fun _ => True) (fun _ => False) rfl (by first | (go_simp; done) | (go_simp; rfl)) ?aP (fun _ hk => hk.elim) ?aF ?aO ?aB ?aS ?aL ?_; (case aP => exact k45_mkM _ _ _ (⟨mb, ph, 1, at1 + j⟩ : S45)); (case aB => exact (pw_below_drewN HB3.out nq)); (case aF => exact (fun _ _ => trivial)); (case aO => exact (Kd.R_drewN HO3.out nq)); (case aS => exact HB3.out.size); (case aL => have h1 := HLN.out; have h2 := HCB.out; have h3 : j < cnt := Hlt.out; omega); intro v1 w4 ho hb hgr hat; have HO4 := Lib.hid ho; have HB4 := Lib.hid hb; have HC4 := Lib.hid (blk_grown (blk_drewN HC3.out nq) hgr (Kd.R_ne HO3.out HC3.out (by decide))); clear ho hb hgr hat)
                rw [E2.out]
                refine ⟨⟨j + 1, rfl, by have := Hlt.out; omega, Lib.hid ?_, HC4, HB4⟩, ?_⟩
                · rw [EN.out, if_neg (fun q => D3.out (S32.out.trans q.2.2.2))]; exact HO4.out
                · simp only [intOf]; push_cast; have := Hlt.out; omega
            · have d2b : (s12 == ph) = false := beq_eq_false_iff_ne.mpr d2
              have D2 := Lib.hid d2; clear d2
              go_quiet (fail)
              go_wp2_with ((with_reducible refine gate_builtin (b := .append) (xs := #[.tmp 85, .tmp 92]) rfl ?_); at_builtin; refine Kd.R_append k45 (w0 := w) w.heap.size rfl (.tmp 85) (.tmp 92) 40 45 (.agg #[(.int .i64 0), (.int .i64 0), (.int .i64 0), (.int .i64 0)]) 32 rfl Try.underlying40 info45 rfl (by decide) (by omega) (.slice (some ⟨g0, 0, none⟩) ln cp) (oo ++ [r]) (⟨mb, ph, 1, at1 + j⟩ : S45) [.int .i64 mb, .int .i64 ph, .int .i64 1, .int .i64 (at1 + j)] (fun _ => True) (fun _ => False) rfl (by first | (go_simp; done) | (go_simp; rfl)) ?aP (fun _ hk => hk.elim) ?aF ?aO ?aB ?aS ?aL ?_; (case aP => exact k45_mkM _ _ _ (⟨mb, ph, 1, at1 + j⟩ : S45)); (case aB => exact (pw_below_drewN HB3.out nq)); (case aF => exact (fun _ _ => trivial)); (case aO => exact (Kd.R_drewN HO3.out nq)); (case aS => exact HB3.out.size); (case aL => have h1 := HLN.out; have h2 := HCB.out; have h3 : j < cnt := Hlt.out; omega); intro v1 w4 ho hb hgr hat; have HO4 := Lib.hid ho; have HB4 := Lib.hid hb; have HC4 := Lib.hid (blk_grown (blk_drewN HC3.out nq) hgr (Kd.R_ne HO3.out HC3.out (by decide))); clear ho hb hgr hat)
              rw [E2.out]
              refine ⟨⟨j + 1, rfl, by have := Hlt.out; omega, Lib.hid ?_, HC4, HB4⟩, ?_⟩
              · rw [EN.out, if_neg (fun q => D2.out (S12.out.trans q.2.2.1))]; exact HO4.out
              · simp only [intOf]; push_cast; have := Hlt.out; omega
          · have d1b : (r.f0 == mb) = false := beq_eq_false_iff_ne.mpr d1
            have D1 := Lib.hid d1; clear d1
            go_quiet (fail)
            go_wp2_with ((with_reducible refine gate_builtin (b := .append) (xs := #[.tmp 85, .tmp 92]) rfl ?_); at_builtin; refine Kd.R_append k45 (w0 := w) w.heap.size rfl (.tmp 85) (.tmp 92) 40 45 (.agg #[(.int .i64 0), (.int .i64 0), (.int .i64 0), (.int .i64 0)]) 32 rfl Try.underlying40 info45 rfl (by decide) (by omega) (.slice (some ⟨g0, 0, none⟩) ln cp) (oo ++ [r]) (⟨mb, ph, 1, at1 + j⟩ : S45) [.int .i64 mb, .int .i64 ph, .int .i64 1, .int .i64 (at1 + j)] (fun _ => True) (fun _ => False) rfl (by first | (go_simp; done) | (go_simp; rfl)) ?aP (fun _ hk => hk.elim) ?aF ?aO ?aB ?aS ?aL ?_; (case aP => exact k45_mkM _ _ _ (⟨mb, ph, 1, at1 + j⟩ : S45)); (case aB => exact (pw_below_drewN HB3.out nq)); (case aF => exact (fun _ _ => trivial)); (case aO => exact (Kd.R_drewN HO3.out nq)); (case aS => exact HB3.out.size); (case aL => have h1 := HLN.out; have h2 := HCB.out; have h3 : j < cnt := Hlt.out; omega); intro v1 w4 ho hb hgr hat; have HO4 := Lib.hid ho; have HB4 := Lib.hid hb; have HC4 := Lib.hid (blk_grown (blk_drewN HC3.out nq) hgr (Kd.R_ne HO3.out HC3.out (by decide))); clear ho hb hgr hat)
            rw [E2.out]
            refine ⟨⟨j + 1, rfl, by have := Hlt.out; omega, Lib.hid ?_, HC4, HB4⟩, ?_⟩
            · rw [EN.out, if_neg (fun q => D1.out q.2.1)]; exact HO4.out
            · simp only [intOf]; push_cast; have := Hlt.out; omega
        · have hr0 : runsL m u at1 j = [] ∨ True := .inr trivial
          have hj0 : j = 0 := by
            rcases Nat.eq_zero_or_pos j with q | q
            · exact q
            · exact absurd (HPS.out.2 q) hp
          have he : endR oo r = [] := by unfold endR; rw [if_neg hp, Hoo.out, hj0]; rfl
          rw [he] at HO HLN EN ⊢
          have Hp := Lib.hid hp
          clear he hj0 hr0 hp
          go_wp2_with (go_at_call 18; refine (revetmentref08_Of.calls 20 id m u b c z s me o a l (at1 + j) st un pin mb ph true _ Hof.out).mono ?_; rintro e w2 ⟨rfl, hb2⟩)
          have HO3 := Lib.hid (Kd.R_alloc (Kd.R_below HO.out hb2) (.cells #[.int .i64 st, .int .i64 un, .int .i64 pin, .int .i64 mb, .int .i64 ph] 25))
          have HC3 := Lib.hid (blk_alloc (blk_below HC.out hb2) (.cells #[.int .i64 st, .int .i64 un, .int .i64 pin, .int .i64 mb, .int .i64 ph] 25))
          have HP3 := Lib.hid (blk_new w2 (.cells #[.int .i64 st, .int .i64 un, .int .i64 pin, .int .i64 mb, .int .i64 ph] 25))
          have HB3 := Lib.hid (below_alloc (below_step HB.out hb2) (.cells #[.int .i64 st, .int .i64 un, .int .i64 pin, .int .i64 mb, .int .i64 ph] 25))
          obtain ⟨W3, hW3⟩ : ∃ W3, w2.alloc (.cells #[.int .i64 st, .int .i64 un, .int .i64 pin, .int .i64 mb, .int .i64 ph] 25) = W3 := ⟨_, rfl⟩
          obtain ⟨gp, hgp⟩ : ∃ gp, w2.heap.size = gp := ⟨_, rfl⟩
          rw [hW3] at HO3 HC3 HB3 ⊢
          rw [hW3, hgp] at HP3
          rw [hgp]
          clear hW3 hgp hb2 HO HC HB q0 q1 q2 q3 q4 q5 q6 q7 q8 q9 q10
          obtain ⟨x0, x1, x2, x3, x4⟩ := cz5 HP3.out
          have HNE0 := Lib.hid (Kd.R_ne HO3.out HC3.out (by decide))
          go_quiet (fail)
          go_wp2_with ((with_reducible refine gate_builtin (b := .append) (xs := #[.tmp 85, .tmp 92]) rfl ?_); at_builtin; refine Kd.R_append k45 (w0 := w) w.heap.size rfl (.tmp 85) (.tmp 92) 40 45 (.agg #[(.int .i64 0), (.int .i64 0), (.int .i64 0), (.int .i64 0)]) 32 rfl Try.underlying40 info45 rfl (by decide) (by omega) (.slice A 0 cp) ([]) (⟨mb, ph, 1, at1 + j⟩ : S45) [.int .i64 mb, .int .i64 ph, .int .i64 1, .int .i64 (at1 + j)] (fun _ => True) (fun _ => False) rfl (by first | (go_simp; done) | (go_simp; rfl)) ?aP (fun _ hk => hk.elim) ?aF ?aO ?aB ?aS ?aL ?_; (case aP => exact k45_mkM _ _ _ (⟨mb, ph, 1, at1 + j⟩ : S45)); (case aB => exact (pw_below_drewN HB3.out nq)); (case aF => exact (fun _ _ => trivial)); (case aO => exact (Kd.R_drewN HO3.out nq)); (case aS => exact HB3.out.size); (case aL => have h1 := HLN.out; have h2 := HCB.out; have h3 : j < cnt := Hlt.out; omega); intro v1 w4 ho hb hgr hat; have HO4 := Lib.hid ho; have HB4 := Lib.hid hb; have HC4 := Lib.hid (blk_grown (blk_drewN HC3.out nq) hgr HNE0.out); clear ho hb hgr hat)
          rw [E2.out]
          refine ⟨⟨j + 1, rfl, by have := Hlt.out; omega, Lib.hid ?_, HC4, HB4⟩, ?_⟩
          · rw [EN.out, if_neg (fun q => by have h1 := Hp.out; have h2 := q.1; omega)]; exact HO4.out
          · simp only [intOf]; push_cast; have := Hlt.out; omega
      · obtain rfl : j = cnt := by omega
        have c1 : wrap64 (at1 + (j : Int)) ≤ at1 + j := by rw [E1.out]; exact Int.le_refl _
        go_wp2
        go_ret
        exact ⟨_, rfl, HO.out, HB.out⟩
  · have hF : runsF id m u b c z s me o a l at1 n1 = [] := if_neg hg
    have HR2 : Hid (revetmentref09_Right.f id m u b c z s me o a l at1 n1 = some false) := Lib.hid (by rw [HR.out]; simp [hg])
    rw [hF]
    clear hg HR hF
    go_enter Try.func36, Try.ntmps36
    go_wp2_with (go_at_call 38; refine (revetmentref09_Right.calls id m u b c z s me o a l at1 n1 false _ HR2.out).mono ?_; rintro e w1 ⟨rfl, hb1⟩; have HB1 := Lib.hid (below_step (below_alloc (Below.refl _ w) (.cells #[.int .i64 id, .int .i64 m, .int .i64 u, .int .i64 b, .int .i64 c, .int .i64 z, .int .i64 s, .int .i64 me, .int .i64 o, .int .i64 a, .int .i64 l] 23)) hb1); clear hb1)
    go_ret
    exact ⟨_, rfl, Kd.R_nil _ _ _ _ _, HB1.out⟩
end Go.Proofs.Ytekihhbihnmakaa
