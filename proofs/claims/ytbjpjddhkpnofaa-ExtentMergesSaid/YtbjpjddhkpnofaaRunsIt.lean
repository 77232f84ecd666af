/- extent.All: the iterator that extent.Runs ranges over. -/
import Derived.RangeFuncNested
import Derived.RangeFuncBound
import Derived.RangeFuncCalls
import Derived.RangeFuncLeaves
import Derived.RangeFuncBox
import Derived.Shelf.Abstract
import Derived.Shelf.RegionOpen
import Derived.WalkKit
import Derived.OwnWalkIn
import Derived.TacticsInMore
import Derived.LoopNIn
import Derived.LoopIn
import Derived.RegionIn
import Derived.Lib.Hide
import Derived.Test.YtbjpjddhkpnofaaRunsLaw
import Derived.Test.YtbjpjddhkpnofaaLastIn
import Derived.Test.YtbjpjddhkpnofaaPAx17
import Derived.Test.YtbjpjddhkpnofaaPAx18
namespace Go.Proofs.Ytbjpjddhkpnofaa
open Go.RowKit Go.Shelf Go.Proofs.Ytbjpjddhkpnofaa.PA Go.Proofs.YtbjpjddhkpnofaaW.PrintWords Go.Proofs.YtbjpjddhkpnofaaW.PrintLast Go.Proofs.Ytbjpjddhkpnofaa.Geo
attribute [local go_sem] Oper.semAt_some
set_option linter.unusedVariables false
set_option linter.unusedSimpArgs false
-- geom_Of.calls
theorem abideR {β : Type} {B : Nat} {J : β → World → Prop} (hJ : AbidesFrom B J) {s : β} {W W' : World} (h : Below W.heap.size W W') (hs : J s W) : J s W' := hJ s W W' none hs ⟨h.os, h.tape, h.output, h.size, fun k hk _ => h.block k hk⟩ (fun r e => by cases e)

theorem set_other {w : World} {k g : Nat} {cs cs' : Array Value} {t t' : TypeId} (h : w.heap[k]? = some (.cells cs t (0, 0))) (h2 : w.heap[g]? = some (.cells cs' t' (0, 0))) (hne : t ≠ t') (i : Nat) (u : Value) : (w.setCell ⟨g, i, none⟩ u).heap[k]? = some (.cells cs t (0, 0)) :=
  (Below.heap_setCell _ _ _ k (by rintro rfl; rw [h] at h2; injection h2 with h2; injection h2 with _ h3; exact hne h3)).trans h
theorem grown_set (w : World) (g i : Nat) (u : Value) : w.grownBy (w.setCell ⟨g, i, none⟩ u) (some g) := ⟨rfl, rfl, rfl, by simp [World.setCell], fun k _ hk => Below.heap_setCell _ _ _ k (by rintro rfl; exact hk rfl)⟩
theorem kiR_set {B0 Bl Br : Nat} {w : World} {cs : Array Value} (hB : B0 ≤ Br) (hr : w.heap[Br]? = some (.cells cs 27 (0, 0))) (hn : NotRow Bl w Br) (i : Nat) (u : Value) : KiR B0 Bl w (w.setCell ⟨Br, i, none⟩ u) :=
  ⟨Br, hB, grown_set _ _ _ _, ⟨_, hr⟩, ⟨_, blk_set hr i u⟩, hn⟩
theorem notRow_set {Bl Br : Nat} {w : World} (hne : Bl ≠ Br) (hn : NotRow Bl w Br) (i : Nat) (u : Value) : NotRow Bl (w.setCell ⟨Br, i, none⟩ u) Br := notRow_of hn (Below.heap_setCell _ _ _ Bl hne)
theorem size_set (w : World) (g i : Nat) (u : Value) : (w.setCell ⟨g, i, none⟩ u).heap.size = w.heap.size := by simp [World.setCell]

theorem put_run {w : World} {Br : Nat} {x0 x1 x2 x3 : Value} (hr : w.heap[Br]? = some (.cells #[x0, x1, x2, x3] 27 (0, 0))) (y0 y1 y2 y3 : Value) :
    ((((w.setCell ⟨Br, 0, none⟩ y0).setCell ⟨Br, 1, none⟩ y1).setCell ⟨Br, 2, none⟩ y2).setCell ⟨Br, 3, none⟩ y3).heap[Br]? = some (.cells #[y0, y1, y2, y3] 27 (0, 0)) ∧
    w.grownBy ((((w.setCell ⟨Br, 0, none⟩ y0).setCell ⟨Br, 1, none⟩ y1).setCell ⟨Br, 2, none⟩ y2).setCell ⟨Br, 3, none⟩ y3) (some Br) := by
  refine ⟨blk_set (blk_set (blk_set (blk_set hr 0 y0) 1 y1) 2 y2) 3 y3, rfl, rfl, rfl, by simp [World.setCell], fun k _ hk => ?_⟩
  have hne : k ≠ Br := by rintro rfl; exact hk rfl
  rw [Below.heap_setCell _ _ _ k hne, Below.heap_setCell _ _ _ k hne, Below.heap_setCell _ _ _ k hne, Below.heap_setCell _ _ _ k hne]
theorem ne_blk {w : World} {k g : Nat} {cs cs' : Array Value} {t t' : TypeId} (h : w.heap[k]? = some (.cells cs t (0, 0))) (h2 : w.heap[g]? = some (.cells cs' t' (0, 0))) (hne : t ≠ t') : some k ≠ some g := by
  intro e; injection e with e; subst e; rw [h] at h2; injection h2 with h2; injection h2 with _ h3; exact hne h3

set_option maxRecDepth 100000 in
set_option maxHeartbeats 4000000 in
theorem runs1_in (n : Nat) (l Bl B0 Bc Ba Bn : Nat) (id m u b c z s me o a l' : Int) (lb : Int) (cnt : Nat) (J Jx : List S27 → World → Prop)
    (hY : ∀ pre x W, J pre W → pre.length < (runsL m u lb cnt).length → YieldAt Fence.wide (n - 1) Try.prog l #[encR x] W fun e W' =>
      (e = .returned (.bool true) ∧ J (pre ++ [x]) W' ∧ KpR Bl W W') ∨ (e = .returned (.bool false) ∧ Jx (pre ++ [x]) W'))
    (W : World) (hc : W.heap[Bc]? = some (.cells #[.int .i64 id, .int .i64 m, .int .i64 u, .int .i64 b, .int .i64 c, .int .i64 z, .int .i64 s, .int .i64 me, .int .i64 o, .int .i64 a, .int .i64 l'] 24 (0, 0)))
    (ha : W.heap[Ba]? = some (.cells #[.int .i64 lb] 3 (0, 0))) (hcn : W.heap[Bn]? = some (.cells #[.int .i64 cnt] 3 (0, 0)))
    (hbl : W.heap[Bl]? = some (.cells #[.slice none 0 0] 22 (0, 0))) (hB0 : B0 ≤ W.heap.size)
    (hJ : AbidesFrom W.heap.size J) (hJi : ∀ s A B, J s A → KiR B0 Bl A B → J s B)
    (hgood : checkC id m u b c z s me o a l' = 0) (h0 : 0 ≤ lb) (h2 : lb + cnt ≤ sizeC m u b c z s me o a l') (hj0 : J [] W) :
    CallsIn Fence.wide n Try.prog 37 #[.func (.yield l) #[] #[], .pointer (some ⟨Bc, 0, none⟩), .pointer (some ⟨Ba, 0, none⟩), .pointer (some ⟨Bn, 0, none⟩)] W fun e W' => (∃ v, e = .returned v) ∧
      ((∃ ys, ys = runsL m u lb cnt ∧ J ys W') ∨ (∃ pre, pre <+: runsL m u lb cnt ∧ Jx pre W')) := by
  have Hgood := Lib.hid hgood
  have HY := Lib.hid hY; clear hY
  have HC := Lib.hid hc
  have HA := Lib.hid ha
  have HN := Lib.hid hcn
  have HL := Lib.hid hbl
  have HR := Lib.hid (right_runs id m u b c z s me o a l' lb cnt)
  have HR2 : Hid (extent_right.f id m u b c z s me o a l' lb cnt = some true) := Lib.hid (by rw [HR.out]; simp [hgood, h0, h2])
  obtain ⟨q0, q1, q2, q3, q4, q5, q6, q7, q8, q9, q10⟩ := cz11 hc
  have hac := Boxed.cell ha
  have hcc := Boxed.cell hcn
  clear hgood hc ha hcn hbl HR
  refine callsIn_of_wp Try.func37 rfl trivial ?_ rfl
  simp only [Try.ntmps37, List.size_toArray, List.length_cons, List.length_nil, Nat.reduceAdd, Nat.reduceSub, Array.replicate_succ, Array.replicate_zero, List.push_toArray, List.append_toArray, List.nil_append, List.cons_append]
  gi_wp2_with (refine ⟨trivial, fun h => (by cases h), ?_⟩; gi_at_call 38; refine (callsIn_wide.2 (extent_right.calls id m u b c z s me o a l' lb cnt true _ HR2.out)).mono ?_; rintro e w1 ⟨rfl, hb1⟩; have HC1 := Lib.hid (blk_below HC.out hb1); have HA1 := Lib.hid (blk_below HA.out hb1); have HN1 := Lib.hid (blk_below HN.out hb1); have HL1 := Lib.hid (blk_below HL.out hb1); clear q0 q1 q2 q3 q4 q5 q6 q7 q8 q9 q10 hac hcc; obtain ⟨q0, q1, q2, q3, q4, q5, q6, q7, q8, q9, q10⟩ := cz11 (blk_alloc HC1.out (.cells #[.int .i64 0, .int .i64 0, .int .i64 0, .int .i64 0] 27)); have hac := Boxed.cell (blk_alloc HA1.out (.cells #[.int .i64 0, .int .i64 0, .int .i64 0, .int .i64 0] 27)); have hcc := Boxed.cell (blk_alloc HN1.out (.cells #[.int .i64 0, .int .i64 0, .int .i64 0, .int .i64 0] 27)); have HJ1 := Lib.hid (abideR hJ hb1 hj0))
  obtain ⟨Br, hBr⟩ : ∃ Br, Br = w1.heap.size := ⟨_, rfl⟩
  have hb2 : Below W.heap.size W (w1.alloc (.cells #[.int .i64 0, .int .i64 0, .int .i64 0, .int .i64 0] 27)) := hb1.alloc hb1.size _
  have hBB : B0 ≤ Br := by have := hb1.size; omega
  have HBB := Lib.hid hBB; clear hBB
  have HNe : Hid (Bl ≠ Br) := Lib.hid (by have := blk_lt HL1.out; omega)
  have HJ2 := Lib.hid (abideR hJ hb2 hj0)
  have HR2' := Lib.hid (World.alloc_heap_new w1 (.cells #[.int .i64 0, .int .i64 0, .int .i64 0, .int .i64 0] 27))
  rw [← hBr] at HR2' ⊢
  have HC2 := Lib.hid (blk_alloc HC1.out (.cells #[.int .i64 0, .int .i64 0, .int .i64 0, .int .i64 0] 27))
  have HA2 := Lib.hid (blk_alloc HA1.out (.cells #[.int .i64 0, .int .i64 0, .int .i64 0, .int .i64 0] 27))
  have HN2 := Lib.hid (blk_alloc HN1.out (.cells #[.int .i64 0, .int .i64 0, .int .i64 0, .int .i64 0] 27))
  have HL2 := Lib.hid (blk_alloc HL1.out (.cells #[.int .i64 0, .int .i64 0, .int .i64 0, .int .i64 0] 27))
  obtain ⟨W2, hW2⟩ : ∃ W2, W2 = w1.alloc (.cells #[.int .i64 0, .int .i64 0, .int .i64 0, .int .i64 0] 27) := ⟨_, rfl⟩
  rw [← hW2] at HJ2 HR2' HC2 HA2 HN2 HL2 ⊢
  have HB2 : Hid (Below W.heap.size W W2) := Lib.hid (by rw [hW2]; exact hb2)
  clear hW2 hb2 hb1 hBr HC HA HN HL HC1 HA1 HN1 HL1 HJ1 HR2 q0 q1 q2 q3 q4 q5 q6 q7 q8 q9 q10 hac hcc hj0
  have HSz := Lib.hid h2; clear h2
  gi_loopw [6] (fun v6 wr => ∃ i : Nat, v6 = .int .i64 (lb + i) ∧ i ≤ cnt ∧ Hid (J (rs m u lb i).1 wr) ∧ Hid (wr.heap[Bc]? = some (.cells #[.int .i64 id, .int .i64 m, .int .i64 u, .int .i64 b, .int .i64 c, .int .i64 z, .int .i64 s, .int .i64 me, .int .i64 o, .int .i64 a, .int .i64 l'] 24 (0, 0))) ∧ Hid (wr.heap[Ba]? = some (.cells #[.int .i64 lb] 3 (0, 0))) ∧ Hid (wr.heap[Bn]? = some (.cells #[.int .i64 cnt] 3 (0, 0))) ∧
      Hid (wr.heap[Br]? = some (.cells #[.int .i64 (rs m u lb i).2.f0, .int .i64 (rs m u lb i).2.f1, .int .i64 (rs m u lb i).2.f2, .int .i64 (rs m u lb i).2.f3] 27 (0, 0))) ∧ Hid (NotRow Bl wr Br) ∧ Hid (Bl < wr.heap.size ∧ W.heap.size ≤ wr.heap.size))
    (fun v6 _ => (lb + cnt - intOf v6).toNat)
  case atStart =>
    refine ⟨0, by simp, by omega, HJ2, HC2, HA2, HN2, HR2', Lib.hid ?_, Lib.hid ⟨blk_lt HL2.out, HB2.out.size⟩⟩
    intro v fr hv
    rw [HL2.out] at hv; injection hv with hv; injection hv with h1 h2 h3; injection h1 with h1; injection h1 with h1; subst h1; simp [Value.ownBlock]
  case round =>
    clear HJ2 HC2 HA2 HN2 HR2' HL2
    obtain ⟨i, rfl, hi, HJ, HC, HA, HN, HBr, HNR, HBl⟩ := hrel
    obtain ⟨q0, q1, q2, q3, q4, q5, q6, q7, q8, q9, q10⟩ := cz11 HC.out
    have hac := Boxed.cell HA.out
    have hcc := Boxed.cell HN.out
    obtain ⟨g, _, _, _, gsz⟩ := good Hgood.out
    have HG := Lib.hid g; clear g
    have HSZ := Lib.hid gsz; clear gsz
    have e1 : wrap64 (lb + (cnt : Int)) = lb + cnt := by
      have h1 := HSz.out; have h2 := HSZ.out; have h3 := HG.out.Z2
      exact Geo.wr ⟨by omega, by omega⟩
    have E1 := Lib.hid e1; clear e1
    have HBD := Lib.hid (rs_bd HG.out h0 i (by have := HSz.out; rw [HSZ.out] at this; omega))
    have hcb : (cnt : Int) ≤ 3932160 ∧ lb + cnt ≤ 3932160 := by have h1 := HSz.out; have h2 := HSZ.out; have h3 := HG.out.Z2; omega
    have HCB := Lib.hid hcb; clear hcb
    by_cases hlt : i < cnt
    · have c1 : lb + (i : Int) < lb + cnt := by omega
      have hof := Geo.of_ok id m u b c z s me o a l' 1 (Nat.le_refl _) (lb + i) Hgood.out ⟨by omega, by have := HSz.out; omega⟩
      unfold placeP at hof
      obtain ⟨st, hst⟩ : ∃ st, st = (lb + i) / ((m - 1) * u) := ⟨_, rfl⟩
      obtain ⟨un, hun⟩ : ∃ un, un = (lb + i) % ((m - 1) * u) / u := ⟨_, rfl⟩
      obtain ⟨pin, hin⟩ : ∃ pin, pin = (lb + i) % u := ⟨_, rfl⟩
      obtain ⟨mb, hmb⟩ : ∃ mb, mb = mbP m u (lb + i) := ⟨_, rfl⟩
      obtain ⟨ph, hph⟩ : ∃ ph, ph = phP m u (lb + i) := ⟨_, rfl⟩
      have hof : geom_Of.f 1 id m u b c z s me o a l' (lb + i) = some (st, un, pin, mb, ph, true) := by rw [hof, hmb, hph, mbP, phP, hst, hun, hin]
      have Hof := Lib.hid hof; have Hmb := Lib.hid hmb; have Hph := Lib.hid hph
      clear hof hst hun hin hmb hph
      rw [← E1.out] at c1
      obtain ⟨r, hr⟩ : ∃ r, r = (rs m u lb i).2 := ⟨_, rfl⟩
      rw [← hr] at HBr HBD
      have Hr := Lib.hid hr; clear hr
      have hgo : extent_goes.f r.f0 r.f1 r.f2 r.f3 st un pin mb ph (lb + i) = some (decide (goesR r mb ph (lb + i))) := by
        have h1 := HBD.out; have h2 := HCB.out
        exact goes_eq ⟨by omega, by omega⟩ ⟨by omega, by omega⟩ ⟨by omega, by omega⟩
      by_cases cg : goesR r mb ph (lb + i)
      · rw [decide_eq_true cg] at hgo
        have Hgo := Lib.hid hgo; clear hgo
        have Hcg := Lib.hid cg; clear cg
        gi_wp2_with (first | (refine ⟨trivial, fun h => (by cases h), ?_⟩; gi_at_call 39; refine (callsIn_wide.2 (geom_Of.calls 1 id m u b c z s me o a l' (lb + i) st un pin mb ph true _ Hof.out)).mono ?_; rintro e w2 ⟨rfl, hb2⟩; have HBr2 := Lib.hid (blk_below HBr.out hb2); obtain ⟨p0, p1, p2, p3⟩ := cz4 (blk_alloc HBr2.out (.cells #[.int .i64 st, .int .i64 un, .int .i64 pin, .int .i64 mb, .int .i64 ph] 58))) | (refine ⟨trivial, fun h => (by cases h), ?_⟩; gi_at_call 40; refine (callsIn_wide.2 (extent_goes.calls r.f0 r.f1 r.f2 r.f3 st un pin mb ph (lb + i) true _ Hgo.out)).mono ?_; rintro e w3 ⟨rfl, hb3⟩; have HBr3 := Lib.hid (blk_below (blk_alloc HBr2.out (.cells #[.int .i64 st, .int .i64 un, .int .i64 pin, .int .i64 mb, .int .i64 ph] 58)) hb3); have HP3 := Lib.hid (blk_below (World.alloc_heap_new w2 (.cells #[.int .i64 st, .int .i64 un, .int .i64 pin, .int .i64 mb, .int .i64 ph] 58)) hb3); have hb4 := (hb2.alloc hb2.size (.cells #[.int .i64 st, .int .i64 un, .int .i64 pin, .int .i64 mb, .int .i64 ph] 58)).trans (hb3.mono (by have := hb2.size; simp; omega)); have HB4 := Lib.hid hb4; clear hb4 hb2 hb3 p0 p1 p2 p3; obtain ⟨p0, p1, p2, p3⟩ := cz4 HBr3.out; obtain ⟨f0, f1, f2, f3⟩ := fz4 HBr3.out; obtain ⟨pp0, pp1, pp2, pp3, pp4⟩ := cz5 HP3.out))
        have e2 : wrap64 (lb + (i : Int) + 1) = lb + i + 1 := by have h2 := HCB.out; exact Geo.wr ⟨by omega, by omega⟩
        have e4 : wrap64 (r.f2 + 1) = r.f2 + 1 := by have h1 := HBD.out; have h2 := HCB.out; exact Geo.wr ⟨by omega, by omega⟩
        have e3 : rs m u lb (i + 1) = ((rs m u lb i).1, ⟨r.f0, r.f1, r.f2 + 1, r.f3⟩) := by rw [rs, ← Hmb.out, ← Hph.out, ← Hr.out, if_pos Hcg.out]
        have hn3 : NotRow Bl w3 Br := notRow_of HNR.out (HB4.out.block Bl HBl.out.1)
        rw [e2, e4]
        refine ⟨⟨i + 1, by push_cast; rw [Int.add_assoc], by omega, Lib.hid ?_, Lib.hid (set_other (blk_below HC.out HB4.out) HBr3.out (by decide) _ _), Lib.hid (set_other (blk_below HA.out HB4.out) HBr3.out (by decide) _ _), Lib.hid (set_other (blk_below HN.out HB4.out) HBr3.out (by decide) _ _), Lib.hid ?_, Lib.hid (notRow_set HNe.out hn3 _ _), Lib.hid ⟨by rw [size_set]; exact Nat.lt_of_lt_of_le HBl.out.1 HB4.out.size, by rw [size_set]; exact Nat.le_trans HBl.out.2 HB4.out.size⟩⟩, ?_⟩
        · rw [e3]; exact hJi _ _ _ (abideR hJ HB4.out HJ.out) (kiR_set HBB.out HBr3.out hn3 _ _)
        · rw [e3, blk_set HBr3.out]; rfl
        · simp only [intOf]; omega
      · rw [decide_eq_false cg] at hgo
        have Hgo := Lib.hid hgo; clear hgo
        have Hcg := Lib.hid cg; clear cg
        by_cases cp : 0 < r.f2
        · have cpb : decide (0 < r.f2) = true := decide_eq_true cp
          gi_wp2_with (first | (refine ⟨trivial, fun h => (by cases h), ?_⟩; gi_at_call 39; refine (callsIn_wide.2 (geom_Of.calls 1 id m u b c z s me o a l' (lb + i) st un pin mb ph true _ Hof.out)).mono ?_; rintro e w2 ⟨rfl, hb2⟩; have HBr2 := Lib.hid (blk_below HBr.out hb2); obtain ⟨p0, p1, p2, p3⟩ := cz4 (blk_alloc HBr2.out (.cells #[.int .i64 st, .int .i64 un, .int .i64 pin, .int .i64 mb, .int .i64 ph] 58))) | (refine ⟨trivial, fun h => (by cases h), ?_⟩; gi_at_call 40; refine (callsIn_wide.2 (extent_goes.calls r.f0 r.f1 r.f2 r.f3 st un pin mb ph (lb + i) false _ Hgo.out)).mono ?_; rintro e w3 ⟨rfl, hb3⟩; have HBr3 := Lib.hid (blk_below (blk_alloc HBr2.out (.cells #[.int .i64 st, .int .i64 un, .int .i64 pin, .int .i64 mb, .int .i64 ph] 58)) hb3); have HP3 := Lib.hid (blk_below (World.alloc_heap_new w2 (.cells #[.int .i64 st, .int .i64 un, .int .i64 pin, .int .i64 mb, .int .i64 ph] 58)) hb3); have hb4 := (hb2.alloc hb2.size (.cells #[.int .i64 st, .int .i64 un, .int .i64 pin, .int .i64 mb, .int .i64 ph] 58)).trans (hb3.mono (by have := hb2.size; simp; omega)); have HB4 := Lib.hid hb4; clear hb4 hb2 hb3 p0 p1 p2 p3; obtain ⟨p0, p1, p2, p3⟩ := cz4 HBr3.out; obtain ⟨f0, f1, f2, f3⟩ := fz4 HBr3.out; obtain ⟨pp0, pp1, pp2, pp3, pp4⟩ := cz5 HP3.out))
          have hn3 : NotRow Bl w3 Br := notRow_of HNR.out (HB4.out.block Bl HBl.out.1)
          have hend : endR (rs m u lb i).1 r = (rs m u lb i).1 ++ [r] := by unfold endR; rw [if_pos cp]
          have hpre : (rs m u lb i).1 ++ [r] <+: runsL m u lb cnt := by
            have := rs_pre_of m u lb hlt (by rw [← Hmb.out, ← Hph.out, ← Hr.out]; exact Hcg.out)
            rw [← Hr.out, hend] at this; exact this
          have Hend := Lib.hid hend; have Hpre := Lib.hid hpre; clear hend hpre
          obtain ⟨fn, tmps, assign, body, hy, hRd⟩ := HY.out (rs m u lb i).1 r w3 (abideR hJ HB4.out HJ.out) (by have := Hpre.out.length_le; simp at this; omega)
          dsimp only [encR] at hy
          rw [hy]
          refine ⟨fun h => (by cases h), hRd.mono ?_⟩
          clear hy hRd
          rintro e w4 (⟨rfl, hJ4, hk4⟩ | ⟨rfl, hJx4⟩)
          · have HJ4 := Lib.hid hJ4; clear hJ4
            have HBr4 := Lib.hid (hk4.2.1 Br _ _ _ (by decide) (fun _ => hn3) HBr3.out)
            have HP4 := Lib.hid (hk4.2.1 w2.heap.size _ _ _ (by decide) (fun h => absurd h (by decide)) HP3.out)
            have HC4 := Lib.hid (hk4.2.1 Bc _ _ _ (by decide) (fun h => absurd h (by decide)) (blk_below HC.out HB4.out))
            have HA4 := Lib.hid (hk4.2.1 Ba _ _ _ (by decide) (fun h => absurd h (by decide)) (blk_below HA.out HB4.out))
            have HN4 := Lib.hid (hk4.2.1 Bn _ _ _ (by decide) (fun h => absurd h (by decide)) (blk_below HN.out HB4.out))
            have HNR4 := Lib.hid (hk4.2.2 Br (blk_lt HBr3.out) hn3)
            have HS4 := Lib.hid hk4.1
            clear hk4 p0 p1 p2 p3 f0 f1 f2 f3 pp0 pp1 pp2 pp3 pp4 hn3 q0 q1 q2 q3 q4 q5 q6 q7 q8 q9 q10 hac hcc
            obtain ⟨p0, p1, p2, p3⟩ := cz4 HBr4.out
            obtain ⟨f0, f1, f2, f3⟩ := fz4 HBr4.out
            obtain ⟨pp0, pp1, pp2, pp3, pp4⟩ := cz5 HP4.out
            gi_wp2
            have e2 : wrap64 (lb + (i : Int) + 1) = lb + i + 1 := by have h2 := HCB.out; exact Geo.wr ⟨by omega, by omega⟩
            have e3 : rs m u lb (i + 1) = (endR (rs m u lb i).1 r, ⟨mb, ph, 1, lb + i⟩) := by rw [rs, ← Hmb.out, ← Hph.out, ← Hr.out, if_neg Hcg.out]
            obtain ⟨hnew, hgr⟩ := put_run HBr4.out (.int .i64 mb) (.int .i64 ph) (.int .i64 1) (.int .i64 (lb + i))
            have hlt3 := (⟨Nat.lt_of_lt_of_le HBl.out.1 (Nat.le_trans HB4.out.size HS4.out), Nat.le_trans HBl.out.2 (Nat.le_trans HB4.out.size HS4.out)⟩ : Bl < w4.heap.size ∧ W.heap.size ≤ w4.heap.size)
            rw [e2]
            refine ⟨⟨i + 1, by push_cast; rw [Int.add_assoc], by omega, Lib.hid ?_, Lib.hid (blk_grown HC4.out hgr (ne_blk HC4.out HBr4.out (by decide))), Lib.hid (blk_grown HA4.out hgr (ne_blk HA4.out HBr4.out (by decide))), Lib.hid (blk_grown HN4.out hgr (ne_blk HN4.out HBr4.out (by decide))), Lib.hid ?_, Lib.hid (notRow_of HNR4.out (hgr.block Bl hlt3.1 (fun e => HNe.out (by injection e)))), Lib.hid ⟨Nat.lt_of_lt_of_le hlt3.1 hgr.size, Nat.le_trans hlt3.2 hgr.size⟩⟩, ?_⟩
            · rw [e3]
              refine hJi _ _ _ ?_ ⟨Br, HBB.out, hgr, ⟨_, HBr4.out⟩, ⟨_, hnew⟩, HNR4.out⟩
              show J (endR (rs m u lb i).1 r) w4; rw [Hend.out]; exact HJ4.out
            · rw [e3]; exact hnew
            · simp only [intOf]; omega
          · gi_wp2
            refine bodyPost_ret (results_none rfl _ _ _) rfl ?_
            exact ⟨⟨_, rfl⟩, .inr ⟨_, Hpre.out, hJx4⟩⟩
        · have cpb : decide (0 < r.f2) = false := decide_eq_false cp
          gi_wp2_with (first | (refine ⟨trivial, fun h => (by cases h), ?_⟩; gi_at_call 39; refine (callsIn_wide.2 (geom_Of.calls 1 id m u b c z s me o a l' (lb + i) st un pin mb ph true _ Hof.out)).mono ?_; rintro e w2 ⟨rfl, hb2⟩; have HBr2 := Lib.hid (blk_below HBr.out hb2); obtain ⟨p0, p1, p2, p3⟩ := cz4 (blk_alloc HBr2.out (.cells #[.int .i64 st, .int .i64 un, .int .i64 pin, .int .i64 mb, .int .i64 ph] 58))) | (refine ⟨trivial, fun h => (by cases h), ?_⟩; gi_at_call 40; refine (callsIn_wide.2 (extent_goes.calls r.f0 r.f1 r.f2 r.f3 st un pin mb ph (lb + i) false _ Hgo.out)).mono ?_; rintro e w3 ⟨rfl, hb3⟩; have HBr3 := Lib.hid (blk_below (blk_alloc HBr2.out (.cells #[.int .i64 st, .int .i64 un, .int .i64 pin, .int .i64 mb, .int .i64 ph] 58)) hb3); have HP3 := Lib.hid (blk_below (World.alloc_heap_new w2 (.cells #[.int .i64 st, .int .i64 un, .int .i64 pin, .int .i64 mb, .int .i64 ph] 58)) hb3); have hb4 := (hb2.alloc hb2.size (.cells #[.int .i64 st, .int .i64 un, .int .i64 pin, .int .i64 mb, .int .i64 ph] 58)).trans (hb3.mono (by have := hb2.size; simp; omega)); have HB4 := Lib.hid hb4; clear hb4 hb2 hb3 p0 p1 p2 p3; obtain ⟨p0, p1, p2, p3⟩ := cz4 HBr3.out; obtain ⟨f0, f1, f2, f3⟩ := fz4 HBr3.out; obtain ⟨pp0, pp1, pp2, pp3, pp4⟩ := cz5 HP3.out))
          refine ⟨fun f h => (by cases h), ?_⟩
          gi_wp2
          have hn3 : NotRow Bl w3 Br := notRow_of HNR.out (HB4.out.block Bl HBl.out.1)
          have hend : endR (rs m u lb i).1 r = (rs m u lb i).1 := by unfold endR; rw [if_neg (by omega)]
          have e2 : wrap64 (lb + (i : Int) + 1) = lb + i + 1 := by have h2 := HCB.out; exact Geo.wr ⟨by omega, by omega⟩
          have e3 : rs m u lb (i + 1) = (endR (rs m u lb i).1 r, ⟨mb, ph, 1, lb + i⟩) := by rw [rs, ← Hmb.out, ← Hph.out, ← Hr.out, if_neg Hcg.out]
          obtain ⟨hnew, hgr⟩ := put_run HBr3.out (.int .i64 mb) (.int .i64 ph) (.int .i64 1) (.int .i64 (lb + i))
          have hlt3 := (⟨Nat.lt_of_lt_of_le HBl.out.1 HB4.out.size, Nat.le_trans HBl.out.2 HB4.out.size⟩ : Bl < w3.heap.size ∧ W.heap.size ≤ w3.heap.size)
          rw [e2]
          refine ⟨⟨i + 1, by push_cast; rw [Int.add_assoc], by omega, Lib.hid ?_, Lib.hid (blk_grown (blk_below HC.out HB4.out) hgr (ne_blk (blk_below HC.out HB4.out) HBr3.out (by decide))), Lib.hid (blk_grown (blk_below HA.out HB4.out) hgr (ne_blk (blk_below HA.out HB4.out) HBr3.out (by decide))), Lib.hid (blk_grown (blk_below HN.out HB4.out) hgr (ne_blk (blk_below HN.out HB4.out) HBr3.out (by decide))), Lib.hid ?_, Lib.hid (notRow_of hn3 (hgr.block Bl hlt3.1 (fun e => HNe.out (by injection e)))), Lib.hid ⟨Nat.lt_of_lt_of_le hlt3.1 hgr.size, Nat.le_trans hlt3.2 hgr.size⟩⟩, ?_⟩
          · rw [e3]
            refine hJi _ _ _ ?_ ⟨Br, HBB.out, hgr, ⟨_, HBr3.out⟩, ⟨_, hnew⟩, hn3⟩
            show J (endR (rs m u lb i).1 r) w3; rw [hend]; exact abideR hJ HB4.out HJ.out
          · rw [e3]; exact hnew
          · simp only [intOf]; omega
    · obtain rfl : i = cnt := by omega
      have c1 : wrap64 (lb + (i : Int)) ≤ lb + i := by rw [E1.out]; exact Int.le_refl _
      obtain ⟨r, hr⟩ : ∃ r, r = (rs m u lb i).2 := ⟨_, rfl⟩
      rw [← hr] at HBr
      have Hr := Lib.hid hr; clear hr
      obtain ⟨p0, p1, p2, p3⟩ := cz4 HBr.out
      by_cases cp : 0 < r.f2
      · have cpb : decide (0 < r.f2) = true := decide_eq_true cp
        have hend : runsL m u lb i = (rs m u lb i).1 ++ [r] := by unfold runsL endR; rw [← Hr.out, if_pos cp]
        have Hend := Lib.hid hend; clear hend
        gi_wp2
        obtain ⟨fn, tmps, assign, body, hy, hRd⟩ := HY.out (rs m u lb i).1 r _ HJ.out (by rw [Hend.out]; simp)
        dsimp only [encR] at hy
        rw [hy]
        refine ⟨fun h => (by cases h), hRd.mono ?_⟩
        clear hy hRd
        rintro e w4 (⟨rfl, hJ4, hk4⟩ | ⟨rfl, hJx4⟩)
        · gi_wp2
          go_end0
          exact ⟨⟨_, rfl⟩, .inl ⟨_, rfl, by rw [Hend.out]; exact hJ4⟩⟩
        · gi_wp2
          go_end0
          exact ⟨⟨_, rfl⟩, .inr ⟨_, List.prefix_refl _, by rw [Hend.out]; exact hJx4⟩⟩
      · have cpb : decide (0 < r.f2) = false := decide_eq_false cp
        have hend : runsL m u lb i = (rs m u lb i).1 := by unfold runsL endR; rw [← Hr.out, if_neg cp]
        have Hend := Lib.hid hend; clear hend
        gi_wp2
        go_end0
        exact ⟨⟨_, rfl⟩, .inl (by rw [Hend.out]; exact HJ.out)⟩
end Go.Proofs.Ytbjpjddhkpnofaa
