/- plan.Steps: what it collects: for all settings and any numbers. -/
import Derived.Test.YtekihhbihnmakaaStepsIt
namespace Go.Proofs.Ytekihhbihnmakaa
open Go.RowKit Go.Shelf Go.Proofs.Ytekihhbihnmakaa.PA Go.Proofs.YtekihhbihnmakaaW.PrintWords Go.Proofs.YtekihhbihnmakaaW.PrintLast Go.Proofs.Ytekihhbihnmakaa.Geo
attribute [local go_sem] Oper.semAt_some
set_option linter.unusedVariables false
set_option linter.unusedSimpArgs false
/-- What plan.Steps hands back. -/
def stepsF (id m u b c z s me o a l : Int) (at1 n1 : Int) : List S53 := if checkC id m u b c z s me o a l = 0 ∧ 0 ≤ at1 ∧ 0 ≤ n1 ∧ at1 + n1 ≤ sizeC m u b c z s me o a l then stepsL m u at1 n1.toNat else []
set_option maxHeartbeats 1000000 in
theorem steps_in (n : Nat) (id m u b c z s me o a l : Int) (at1 n1 : Int) (w : World) :
    CallsIn Fence.wide n Try.prog 80 #[.agg #[.int .i64 id, .int .i64 m, .int .i64 u, .int .i64 b, .int .i64 c, .int .i64 z, .int .i64 s, .int .i64 me, .int .i64 o, .int .i64 a, .int .i64 l], .int .i64 at1, .int .i64 n1] w fun e w' =>
      e = .returned (.func (.func 98) #[] #[.pointer (some ⟨w.heap.size, 0, none⟩), .pointer (some ⟨w.heap.size + 1, 0, none⟩), .pointer (some ⟨w.heap.size + 1 + 1, 0, none⟩)]) ∧
      w' = ((w.alloc (.cells #[.int .i64 id, .int .i64 m, .int .i64 u, .int .i64 b, .int .i64 c, .int .i64 z, .int .i64 s, .int .i64 me, .int .i64 o, .int .i64 a, .int .i64 l] 23)).alloc (.cells #[.int .i64 at1] 3)).alloc (.cells #[.int .i64 n1] 3) := by
  refine callsIn_of_wp Try.func80 rfl trivial ?_ rfl
  simp only [Try.ntmps80, List.size_toArray, List.length_cons, List.length_nil, Nat.reduceAdd, Nat.reduceSub, Array.replicate_succ, Array.replicate_zero, List.push_toArray, List.append_toArray, List.nil_append, List.cons_append]
  gi_wp2
  go_ret
  exact ⟨rfl, rfl⟩
theorem steps_stops (n : Nat) (Bc Ba Bn : Nat) (id m u b c z s me o a l : Int) (lb : Int) (cnt : Nat) (w : World)
    (hc : w.heap[Bc]? = some (.cells #[.int .i64 id, .int .i64 m, .int .i64 u, .int .i64 b, .int .i64 c, .int .i64 z, .int .i64 s, .int .i64 me, .int .i64 o, .int .i64 a, .int .i64 l] 23 (0, 0)))
    (ha : w.heap[Ba]? = some (.cells #[.int .i64 lb] 3 (0, 0))) (hcn : w.heap[Bn]? = some (.cells #[.int .i64 cnt] 3 (0, 0)))
    (hgood : checkC id m u b c z s me o a l = 0) (h0 : 0 ≤ lb) (h2 : lb + cnt ≤ sizeC m u b c z s me o a l) :
    SeqStopsK Fence.wide n Try.prog 98 #[.pointer (some ⟨Bc, 0, none⟩), .pointer (some ⟨Ba, 0, none⟩), .pointer (some ⟨Bn, 0, none⟩)] (fun x : S53 => #[encS x]) (KpS 49 53)
      (fun ys => ys = stepsL m u lb cnt) (fun pre => pre <+: stepsL m u lb cnt) (stepsL m u lb cnt).length w := fun l1 J Jx W hW hJ _ hY hj0 =>
  steps1_in n l1 Bc Ba Bn id m u b c z s me o a l lb cnt J Jx hY W (blk_below hc hW) (blk_below ha hW) (blk_below hcn hW) hJ hgood h0 h2 hj0
theorem r_app {W w1 : World} {base : Nat} {ok : Nat → Prop} {v1 : Value} {xs : List S53} {p : S53} {inner : List Value} (hr : Reps (k53.M W base ok) k53.sz xs inner)
    (hown : w1.ownsRow base 53 5 v1 (xs.length + 1) (inner ++ [.bool p.f0, .int .i64 p.f1, .int .i64 p.f2, .int .i64 p.f3, .int .i64 p.f4])) : Kd.R k53 53 w1 base (fun _ => True) v1 (xs ++ [p]) :=
  ⟨fun _ _ => trivial, _, by rw [List.length_append, List.length_singleton]; exact hown, (hr.imp_ (fun _ _ h => by rw [k53_openM h]; exact k53_mkM _ _ _ _)).snoc (k53_mkM _ _ _ p) rfl⟩
theorem stepsL_len (m u lb : Int) (n : Nat) : (stepsL m u lb n).length ≤ 2 * n := by
  induction n with
  | zero => simp [stepsL]
  | succ n ih =>
    rw [stepsL_succ, List.length_append]
    have : (stepsAt m u (lb + n)).length ≤ 2 := by unfold stepsAt; split <;> simp
    omega
theorem right_steps (id m u b c z s me o a l : Int) (at1 n1 : Int) : plan_right.f id m u b c z s me o a l at1 n1 = some (decide (checkC id m u b c z s me o a l = 0 ∧ 0 ≤ at1 ∧ 0 ≤ n1 ∧ at1 + n1 ≤ sizeC m u b c z s me o a l)) := by
  simp only [plan_right.f, conf_Check.f, Option.bind_some]
  by_cases h : checkC id m u b c z s me o a l = 0
  · rw [if_pos h]
    obtain ⟨g, _, _, _, gsz⟩ := good h
    have h1 := g.Z2; have h2 := g.Z1; have h3 := g.R1; rw [← gsz] at h1 h2
    simp only [Geo.size_eq (h := h), Option.bind_some]
    by_cases c1 : at1 ≥ 0
    · rw [if_pos c1]
      by_cases c2 : n1 ≥ 0
      · rw [if_pos c2]
        by_cases c3 : at1 ≤ sizeC m u b c z s me o a l
        · rw [if_pos c3, Geo.wr ⟨by omega, by omega⟩]
          congr 1
          rw [decide_eq_decide]
          constructor <;> intro h <;> omega
        · rw [if_neg c3]; congr 1; symm; rw [decide_eq_false_iff_not]; omega
      · rw [if_neg c2]; congr 1; symm; rw [decide_eq_false_iff_not]; omega
    · rw [if_neg c1]; congr 1; symm; rw [decide_eq_false_iff_not]; omega
  · rw [if_neg h]; simp [h]

set_option maxRecDepth 100000 in
set_option maxHeartbeats 4000000 in
theorem steps_any (id m u b c z s me o a l : Int) (at1 n1 : Int) (w : World) :
    Calls Try.prog 40 #[.agg #[.int .i64 id, .int .i64 m, .int .i64 u, .int .i64 b, .int .i64 c, .int .i64 z, .int .i64 s, .int .i64 me, .int .i64 o, .int .i64 a, .int .i64 l], .int .i64 at1, .int .i64 n1] w fun e w' =>
      ∃ v0_ : Value, e = .returned v0_ ∧ Kd.R k53 53 w' w.heap.size (fun _ => True) v0_ (stepsF id m u b c z s me o a l at1 n1) ∧ Below w.heap.size w w' := by
  refine (callsIn_wide (n := 10)).1 ?_
  have HR := Lib.hid (right_steps id m u b c z s me o a l at1 n1)
  by_cases hg : checkC id m u b c z s me o a l = 0 ∧ 0 ≤ at1 ∧ 0 ≤ n1 ∧ at1 + n1 ≤ sizeC m u b c z s me o a l
  · have HF : Hid (stepsF id m u b c z s me o a l at1 n1 = stepsL m u at1 n1.toNat) := Lib.hid (if_pos hg)
    have HR2 : Hid (plan_right.f id m u b c z s me o a l at1 n1 = some true) := Lib.hid (by rw [HR.out]; simp [hg])
    have HG := Lib.hid hg; clear hg HR
    refine callsIn_of_wp_marks Try.func40 rfl trivial ?_ rfl
    simp only [Try.ntmps40, List.size_toArray, List.length_cons, List.length_nil, Nat.reduceAdd, Nat.reduceSub, Array.replicate_succ, Array.replicate_zero, List.push_toArray, List.append_toArray, List.nil_append, List.cons_append]
    gi_wp2_with (first | (refine ⟨trivial, ?_⟩; gi_at_call 79; refine (callsIn_wide.2 (plan_right.calls id m u b c z s me o a l at1 n1 true _ HR2.out)).mono ?_; rintro e w1 ⟨rfl, hb1⟩; have bc := blk_below (World.alloc_heap_new w (.cells #[.int .i64 id, .int .i64 m, .int .i64 u, .int .i64 b, .int .i64 c, .int .i64 z, .int .i64 s, .int .i64 me, .int .i64 o, .int .i64 a, .int .i64 l] 23)) hb1; have BC := Lib.hid bc; clear bc; obtain ⟨q0, q1, q2, q3, q4, q5, q6, q7, q8, q9, q10⟩ := cz11 (blk_alloc BC.out (.cells #[.slice none 0 0] 49))) | (refine ⟨trivial, ?_⟩; gi_at_call 80; refine (steps_in _ id m u b c z s me o a l at1 n1 _).mono ?_; rintro e w2 ⟨rfl, rfl⟩))
    obtain ⟨W0, hW0⟩ : ∃ W0, (((w1.alloc (.cells #[.slice none 0 0] 49)).alloc (.cells #[.int .i64 id, .int .i64 m, .int .i64 u, .int .i64 b, .int .i64 c, .int .i64 z, .int .i64 s, .int .i64 me, .int .i64 o, .int .i64 a, .int .i64 l] 23)).alloc (.cells #[.int .i64 at1] 3)).alloc (.cells #[.int .i64 n1] 3) = W0 := ⟨_, rfl⟩
    have hn1 : (n1.toNat : Int) = n1 := Int.toNat_of_nonneg HG.out.2.2.1
    have bL : Boxed W0 w1.heap.size 49 (.slice none 0 0) := by rw [← hW0]; exact (((Boxed.new w1 _ _).alloc _).alloc _).alloc _
    have bC : W0.heap[w1.heap.size + 1]? = some (.cells #[.int .i64 id, .int .i64 m, .int .i64 u, .int .i64 b, .int .i64 c, .int .i64 z, .int .i64 s, .int .i64 me, .int .i64 o, .int .i64 a, .int .i64 l] 23 (0, 0)) := by
      rw [← hW0]; have h := World.alloc_heap_new (w1.alloc (.cells #[.slice none 0 0] 49)) (.cells #[.int .i64 id, .int .i64 m, .int .i64 u, .int .i64 b, .int .i64 c, .int .i64 z, .int .i64 s, .int .i64 me, .int .i64 o, .int .i64 a, .int .i64 l] 23); rw [World.size_alloc] at h; exact blk_alloc (blk_alloc h _) _
    have bA : W0.heap[w1.heap.size + 1 + 1]? = some (.cells #[.int .i64 at1] 3 (0, 0)) := by
      rw [← hW0]; have h := World.alloc_heap_new ((w1.alloc (.cells #[.slice none 0 0] 49)).alloc (.cells #[.int .i64 id, .int .i64 m, .int .i64 u, .int .i64 b, .int .i64 c, .int .i64 z, .int .i64 s, .int .i64 me, .int .i64 o, .int .i64 a, .int .i64 l] 23)) (.cells #[.int .i64 at1] 3); rw [World.size_alloc, World.size_alloc] at h; exact blk_alloc h _
    have bN : W0.heap[w1.heap.size + 1 + 1 + 1]? = some (.cells #[.int .i64 n1.toNat] 3 (0, 0)) := by
      rw [← hW0, hn1]; have h := World.alloc_heap_new (((w1.alloc (.cells #[.slice none 0 0] 49)).alloc (.cells #[.int .i64 id, .int .i64 m, .int .i64 u, .int .i64 b, .int .i64 c, .int .i64 z, .int .i64 s, .int .i64 me, .int .i64 o, .int .i64 a, .int .i64 l] 23)).alloc (.cells #[.int .i64 at1] 3)) (.cells #[.int .i64 n1] 3); rw [World.size_alloc, World.size_alloc, World.size_alloc] at h; exact h
    have hw1 : Below w.heap.size w w1 := ((Below.refl _ w).alloc (Nat.le_refl _) _).trans (hb1.mono (by simp))
    have hs1 := hw1.size
    have hB0 : Below w.heap.size w W0 := by
      rw [← hW0]
      exact (((hw1.alloc (by omega) _).alloc (by simp; omega) _).alloc (by simp; omega) _).alloc (by simp; omega) _
    have hsz : W0.heap.size = w1.heap.size + 4 := by rw [← hW0]; simp
    rw [hW0]
    clear hW0 hb1 q0 q1 q2 q3 q4 q5 q6 q7 q8 q9 q10
    have hlen2 := stepsL_len m u at1 n1.toNat
    have hcnt : n1 ≤ 3932160 := by
      have h1 := HG.out.2.2.2; have h2 := HG.out.2.1
      obtain ⟨g, _, _, _, gsz⟩ := good HG.out.1
      have h3 := g.Z2; rw [← gsz] at h3; omega
    have HL2 := Lib.hid hlen2; have HCNT := Lib.hid hcnt; have HN1 := Lib.hid hn1; clear hlen2 hcnt hn1
    have HBL := Lib.hid bL; have HB0 := Lib.hid hB0; have HSZ := Lib.hid hsz; have HS1 := Lib.hid hs1; clear bL hB0 hsz hs1 hw1
    have own1 : Own (fun (pre : List S53) W => ∃ v, Boxed W w1.heap.size 49 v ∧ Kd.R k53 53 W w.heap.size (fun _ => True) v pre) := by
      rintro pre A B row ⟨v, hv, hR⟩ hg hr
      refine ⟨v, hv.kept hg ?_, Kd.R_mono (Kd.R_step (Kd.R_bound hR) ?_) (fun _ _ => trivial)⟩
      · intro e'; obtain ⟨o1, ho, hc⟩ := hr _ e'.symm; rw [show A.heap[w1.heap.size]? = _ from hv] at ho; cases ho; cases hc
      · intro k hk hlt
        refine hg.block k hlt (fun e' => ?_)
        obtain ⟨o1, ho, hc⟩ := hr k e'.symm
        obtain ⟨_, _, _, q, _, cells, hcells⟩ := hk
        rw [hcells] at ho; cases ho; cases hc
    have OWN1 := Lib.hid own1; clear own1
    refine wpIn_rangeFunc_ownH rfl (by decide) (gf := 98) (lb := #[.pointer (some ⟨w1.heap.size + 1, 0, none⟩), .pointer (some ⟨w1.heap.size + 1 + 1, 0, none⟩), .pointer (some ⟨w1.heap.size + 1 + 1 + 1, 0, none⟩)]) rfl trivial (enters_of Try.func98 (by kernel_rfl) rfl)
      (steps_stops 9 (w1.heap.size + 1) (w1.heap.size + 1 + 1) (w1.heap.size + 1 + 1 + 1) id m u b c z s me o a l at1 n1.toNat W0 bC bA bN HG.out.1 HG.out.2.1 (by rw [HN1.out]; exact HG.out.2.2.2)) kpS_t (fun W l o o' _ h hc _ => kpS_b W l o o' h hc) (Below.refl _ _) (fun _ => rfl)
      (fun pre W => (∃ v, Boxed W w1.heap.size 49 v ∧ Kd.R k53 53 W w.heap.size (fun _ => True) v pre) ∧ Below w.heap.size w W)
      (fun _ _ _ => False)
      (OwnFrom.and (Own.from OWN1.out _) (ownFrom_below (Nat.le_refl _) (by have := HSZ.out; have := HS1.out; omega)))
      (fun _ _ _ _ _ hs _ _ => hs)
      ⟨⟨_, HBL.out, Kd.R_nil _ _ _ _ _⟩, HB0.out⟩
      (fun x a' W => ∃ Bx, W.heap[Bx]? = some (.cells #[.bool x.f0, .int .i64 x.f1, .int .i64 x.f2, .int .i64 x.f3, .int .i64 x.f4] 53 (0, 0)) ∧
        a' = { tmps := #[.agg #[.int .i64 id, .int .i64 m, .int .i64 u, .int .i64 b, .int .i64 c, .int .i64 z, .int .i64 s, .int .i64 me, .int .i64 o, .int .i64 a, .int .i64 l], .int .i64 at1, .int .i64 n1, .pointer (some ⟨w.heap.size, 0, none⟩), undef, undef, .slice none 0 0, .pointer (some ⟨w1.heap.size, 0, none⟩), .pointer (some ⟨Bx, 0, none⟩), .agg #[.int .i64 id, .int .i64 m, .int .i64 u, .int .i64 b, .int .i64 c, .int .i64 z, .int .i64 s, .int .i64 me, .int .i64 o, .int .i64 a, .int .i64 l], .int .i64 at1, .int .i64 n1, .bool true, .bool false, .agg #[.int .i64 id, .int .i64 m, .int .i64 u, .int .i64 b, .int .i64 c, .int .i64 z, .int .i64 s, .int .i64 me, .int .i64 o, .int .i64 a, .int .i64 l], .int .i64 at1, .int .i64 n1, .func (.func 98) #[] #[.pointer (some ⟨w1.heap.size + 1, 0, none⟩), .pointer (some ⟨w1.heap.size + 1 + 1, 0, none⟩), .pointer (some ⟨w1.heap.size + 1 + 1 + 1, 0, none⟩)], encS x, undef, undef, undef, undef, undef], defers := [] })
      (fun x a' _ A B row hs hg hr => ?ax) ?assign ?body ?done ?stop
    case ax =>
      obtain ⟨Bx, hx, he⟩ := hs
      exact ⟨Bx, blk_grown hx hg (fun e' => by obtain ⟨_, o1, ho, hc⟩ := hr _ e'.symm; rw [hx] at ho; cases ho; cases hc), he⟩
    case assign =>
      intro l1 pre x W K hi hK
      have HI := Lib.hid hi; clear hi
      dsimp only [encS]
      gi_wp2
      refine hK _ _ ((KeepsOthers.alloc _ _).from _) (kpS_below ((Below.refl _ W).alloc (Nat.le_refl _) _)) ⟨(OWN1.out.from 0).alloc _ HI.out.1, HI.out.2.alloc HI.out.2.size _⟩ ⟨W.heap.size, World.alloc_heap_new W _, ?_⟩
      rfl
    case body =>
      rintro l1 pre x a' W hl ⟨r, hr⟩ ⟨⟨v, hv, hR⟩, hBW⟩ ⟨Bx, hx, rfl⟩ hlen
      obtain ⟨_, inner, hown, hreps⟩ := hR
      have hvc := hv.cell
      obtain ⟨x0, x1, x2, x3, x4⟩ := cz5 hx
      have HV := Lib.hid hv; have HBW := Lib.hid hBW; have HX := Lib.hid hx; have HOWN := Lib.hid hown; have HREPS := Lib.hid hreps; have HLEN := Lib.hid hlen
      clear hv hBW hx hown hreps hlen hr hl
      obtain ⟨i0, hi, hz0, hz1, hz2⟩ := info_parts info53
      have HI := Lib.hid hi; have HZ0 := Lib.hid hz0; have HZ1 := Lib.hid hz1; have HZ2 := Lib.hid hz2
      clear hi hz0 hz1 hz2
      have hk : pre.length + 1 ≤ 7864321 := by have h1 := HLEN.out; have h2 := HL2.out; have h3 := HCNT.out; have h4 := HN1.out; omega
      have HK := Lib.hid hk; clear hk
      gi_wp2_with (gi_at_builtin; refine wpListIn_append_own _ rfl _ _ 49 rfl w.heap.size 53 i0 (.agg #[(.bool false), (.int .i64 0), (.int .i64 0), (.int .i64 0), (.int .i64 0)]) 5 40 Try.underlying49 HI.out HZ0.out HZ1.out HZ2.out rfl (by decide) v pre.length inner rfl (HOWN.out.alloc _) ⟨W.heap.size, 0, none⟩ 1 1 [.bool x.f0, .int .i64 x.f1, .int .i64 x.f2, .int .i64 x.f3, .int .i64 x.f4] rfl rfl (World.news_of_block (cs := #[.bool x.f0, .int .i64 x.f1, .int .i64 x.f2, .int .i64 x.f3, .int .i64 x.f4]) (t := 53) (fr := (0, 0)) (World.alloc_heap_new W _)) (by simp [Value.oneCell']) (by have := HK.out; simp only [maxLen]; omega) (by have := HK.out; omega) (by have := HBW.out.size; simp; omega) ?_; intro v' wq hown' hgrow _; obtain ⟨g', cap', rfl⟩ := ownsRow_succ hown'; have hv1 := (HV.out.alloc (.cells #[.bool x.f0, .int .i64 x.f1, .int .i64 x.f2, .int .i64 x.f3, .int .i64 x.f4] 53)).kept hgrow (HV.out.not_row (by decide) HOWN.out); have hc1 := hv1.cell; have hf1 := hv1.frozen)
      refine ⟨(((KeepsOthers.alloc W _).trans (KeepsOthers.of_grownBy hgrow ?row)).trans (KeepsOthers.setCell _ _ _)).from _, ⟨?size, ?blocks⟩, ⟨_, hv1.set _, ?rr⟩, ?bel⟩
      case row =>
        intro j o1 hj ho
        obtain ⟨cells, hc⟩ := own_typed (HOWN.out.alloc _) j hj
        rw [hc] at ho; cases ho; rfl
      case size => exact Nat.le_trans (Nat.le_trans (by simp) hgrow.size) (KeepsOthers.setCell _ _ _).size
      case blocks =>
        intro k cs t fr h1 h2 hk
        have e1 := blk_alloc hk (.cells #[.bool x.f0, .int .i64 x.f1, .int .i64 x.f2, .int .i64 x.f3, .int .i64 x.f4] 53)
        have e2 := blk_grown e1 hgrow (fun e' => by
          obtain ⟨cells, hc⟩ := own_typed (HOWN.out.alloc (.cells #[.bool x.f0, .int .i64 x.f1, .int .i64 x.f2, .int .i64 x.f3, .int .i64 x.f4] 53)) k e'.symm
          rw [hc] at e1; injection e1 with e1; injection e1 with _ e3; exact h2 e3.symm)
        refine (Below.heap_setCell wq _ _ k ?_).trans e2
        rintro rfl
        rw [show wq.heap[w1.heap.size]? = _ from hv1] at e2; injection e2 with e2; injection e2 with _ e3; exact h1 e3.symm
      case rr => exact r_app HREPS.out (own_setCell hown' (hv1.not_row (by decide) hown') _)
      case bel =>
        exact HBW.out.trans ((((Below.refl _ W).alloc HBW.out.size _).grown hgrow (by have := HBW.out.size; simp; omega) (own_base HOWN.out)).setCell (p := ⟨w1.heap.size, 0, none⟩) HS1.out _)
    case done =>
      rintro D ys W hD rfl ⟨⟨v, hv, hR⟩, hBW⟩ hK
      have hvc := hv.cell
      have HV := Lib.hid hv; have HBW := Lib.hid hBW; have HRR := Lib.hid hR; have HK := Lib.hid hK
      clear hv hBW hR hK
      gi_wp2
      have hB := HBW.out.trans (belowK_b (w := w) (Nat.le_refl _) W D _ (.deferred none) (by have := HSZ.out; have := HS1.out; omega) HK.out rfl rfl)
      have hRR : Kd.R k53 53 (W.putObj D (.deferred none)) w.heap.size (fun _ => True) v (stepsL m u at1 n1.toNat) := by
        refine Kd.R_mono (Kd.R_step (Kd.R_bound HRR.out) ?_) (fun _ _ => trivial)
        intro k hk _
        refine World.putObj_heap_other ?_
        rintro rfl
        obtain ⟨_, _, _, q, _, cells, hcells⟩ := hk
        rw [HK.out] at hcells; cases hcells
      refine ⟨by simp, .inl ⟨_, _, rfl, run_takeDeferred HK.out, ?_⟩⟩
      exact ⟨_, results_tmp rfl _ _ _, _, rfl, by rw [HF.out]; exact hRR, hB⟩
    case stop =>
      rintro D c1 pre W _ _ h _
      exact h.elim
  · have HF : Hid (stepsF id m u b c z s me o a l at1 n1 = []) := Lib.hid (if_neg hg)
    have HR2 : Hid (plan_right.f id m u b c z s me o a l at1 n1 = some false) := Lib.hid (by rw [HR.out]; simp [hg])
    clear hg HR
    refine callsIn_of_wp_marks Try.func40 rfl trivial ?_ rfl
    simp only [Try.ntmps40, List.size_toArray, List.length_cons, List.length_nil, Nat.reduceAdd, Nat.reduceSub, Array.replicate_succ, Array.replicate_zero, List.push_toArray, List.append_toArray, List.nil_append, List.cons_append]
    gi_wp2_with (refine ⟨trivial, ?_⟩; gi_at_call 79; refine (callsIn_wide.2 (plan_right.calls id m u b c z s me o a l at1 n1 false _ HR2.out)).mono ?_; rintro e w1 ⟨rfl, hb1⟩)
    have hB : Below w.heap.size w w1 := ((Below.refl _ w).alloc (Nat.le_refl _) _).trans (hb1.mono (by simp))
    exact ⟨_, results_tmp rfl _ _ _, _, rfl, by rw [HF.out]; exact Kd.R_nil _ _ _ _ _, hB⟩
end Go.Proofs.Ytekihhbihnmakaa
