/- plan.Steps: what it collects: for all settings and any numbers. -/
/- Printed by the kit's print over stand-ins for some functions (xprint.py), with contracts of my own in their place. -/
/- What loads.Of collects, as plain lists. No program in sight. No condition. -/
import Derived.Test.YtgckcaoncjhgbaaStepsIt
set_option maxHeartbeats 4000000
set_option maxRecDepth 100000
open Go.Lib (hid)
namespace Go.Proofs.Ytgckcaoncjhgbaa
open Go.RowKit Go.Shelf Go.Proofs.Ytgckcaoncjhgbaa.PG Go.Proofs.YtgckcaoncjhgbaaW.PrintWords Go.Proofs.YtgckcaoncjhgbaaW.PrintLast Go.Proofs.Ytgckcaoncjhgbaa.Geo
attribute [local go_sem] Oper.semAt_some
set_option linter.unusedVariables false
set_option linter.unusedSimpArgs false
def kP_ (id m u b c z s me o a l : Int) (at1 n1 : Int) : List S143 := if jn_ id m u b c z s me o a l = 0 /\ 0 <= at1 /\ 0 <= n1 /\ at1 + n1 <= kg_ m u b c z s me o a l then ks_ m u at1 n1.toNat else []
theorem steps_in (n : Nat) (id m u b c z s me o a l : Int) (at1 n1 : Int) (w : World) :
    CallsIn Fence.wide n Try.prog 113 #[.agg #[.int .i64 id, .int .i64 m, .int .i64 u, .int .i64 b, .int .i64 c, .int .i64 z, .int .i64 s, .int .i64 me, .int .i64 o, .int .i64 a, .int .i64 l], .int .i64 at1, .int .i64 n1] w fun e w' =>
      e = .returned (.func (.func 122) #[] #[.pointer (some ⟨w.heap.size, 0, none⟩), .pointer (some ⟨w.heap.size + 1, 0, none⟩), .pointer (some ⟨w.heap.size + 1 + 1, 0, none⟩)]) /\
      w' = ((w.alloc (.cells #[.int .i64 id, .int .i64 m, .int .i64 u, .int .i64 b, .int .i64 c, .int .i64 z, .int .i64 s, .int .i64 me, .int .i64 o, .int .i64 a, .int .i64 l] 23)).alloc (.cells #[.int .i64 at1] 3)).alloc (.cells #[.int .i64 n1] 3) := by
  refine callsIn_of_wp Try.func113 rfl trivial ?_ rfl
  simp only [Try.ntmps113, List.size_toArray, List.length_cons, List.length_nil, Nat.reduceAdd, Nat.reduceSub, Array.replicate_succ, Array.replicate_zero, List.push_toArray, List.append_toArray, List.nil_append, List.cons_append]
  gi_wp2
  go_ret
  exact ⟨rfl, rfl⟩
theorem steps_stops (n : Nat) (Bc Ba Bn : Nat) (id m u b c z s me o a l : Int) (lb : Int) (cnt : Nat) (w : World)
    (hc : w.heap[Bc]? = some (.cells #[.int .i64 id, .int .i64 m, .int .i64 u, .int .i64 b, .int .i64 c, .int .i64 z, .int .i64 s, .int .i64 me, .int .i64 o, .int .i64 a, .int .i64 l] 23 (0, 0)))
    (ha : w.heap[Ba]? = some (.cells #[.int .i64 lb] 3 (0, 0))) (hcn : w.heap[Bn]? = some (.cells #[.int .i64 cnt] 3 (0, 0)))
    (hgood : jn_ id m u b c z s me o a l = 0) (h0 : 0 <= lb) (h2 : lb + cnt <= kg_ m u b c z s me o a l) :
    SeqStopsK Fence.wide n Try.prog 122 #[.pointer (some ⟨Bc, 0, none⟩), .pointer (some ⟨Ba, 0, none⟩), .pointer (some ⟨Bn, 0, none⟩)] (fun x : S143 => #[encS x]) (KpS 140 143)
      (fun ys => ys = ks_ m u lb cnt) (fun pre => pre <+: ks_ m u lb cnt) (ks_ m u lb cnt).length w := fun l1 J Jx W hW hJ _ hY hj0 =>
  steps1_in n l1 Bc Ba Bn id m u b c z s me o a l lb cnt J Jx hY W (jb_ hc hW) (jb_ ha hW) (jb_ hcn hW) hJ hgood h0 h2 hj0
theorem r_app {W w1 : World} {base : Nat} {ok : Nat -> Prop} {v1 : Value} {xs : List S143} {p : S143} {inner : List Value} (hr : Reps (k143.M W base ok) k143.sz xs inner)
    (hown : w1.ownsRow base 143 5 v1 (xs.length + 1) (inner ++ [.bool p.f0, .int .i64 p.f1, .int .i64 p.f2, .int .i64 p.f3, .int .i64 p.f4])) : Kd.R k143 143 w1 base (fun _ => True) v1 (xs ++ [p]) :=
  ⟨fun _ _ => trivial, _, by rw [List.length_append, List.length_singleton]; exact hown, (hr.imp_ (fun _ _ h => by rw [k143_openM h]; exact xY_ _ _ _ _)).snoc (xY_ _ _ _ p) rfl⟩
theorem stepsL_len (m u lb : Int) (n : Nat) : (ks_ m u lb n).length <= 2 * n := by
  induction n with
  | zero => simp [ks_]
  | succ n ih =>
    rw [vw_, List.length_append]
    have : (xB_ m u (lb + n)).length <= 2 := by unfold xB_; split <;> simp
    omega
theorem right_steps (id m u b c z s me o a l : Int) (at1 n1 : Int) : plan_right.f id m u b c z s me o a l at1 n1 = some (decide (jn_ id m u b c z s me o a l = 0 /\ 0 <= at1 /\ 0 <= n1 /\ at1 + n1 <= kg_ m u b c z s me o a l)) := by
  simp only [plan_right.f, conf_Check.f, Option.bind_some]
  by_cases h : jn_ id m u b c z s me o a l = 0
  · rw [if_pos h]
    obtain ⟨g, _, _, _, gsz⟩ := good h
    have h1 := g.Z2; have h2 := g.Z1; have h3 := g.R1; rw [<- gsz] at h1 h2
    simp only [Geo.size_eqG (h := h), Option.bind_some]
    by_cases c1 : at1 >= 0
    · rw [if_pos c1]
      by_cases c2 : n1 >= 0
      · rw [if_pos c2]
        by_cases c3 : at1 <= kg_ m u b c z s me o a l
        · rw [if_pos c3, Geo.wr ⟨by omega, by omega⟩]
          congr 1
          rw [decide_eq_decide]
          constructor <;> intro h <;> omega
        · rw [if_neg c3]; congr 1; symm; rw [decide_eq_false_iff_not]; omega
      · rw [if_neg c2]; congr 1; symm; rw [decide_eq_false_iff_not]; omega
    · rw [if_neg c1]; congr 1; symm; rw [decide_eq_false_iff_not]; omega
  · rw [if_neg h]; simp [h]
theorem steps_any (id m u b c z s me o a l : Int) (at1 n1 : Int) (w : World) :
    Calls Try.prog 95 #[.agg #[.int .i64 id, .int .i64 m, .int .i64 u, .int .i64 b, .int .i64 c, .int .i64 z, .int .i64 s, .int .i64 me, .int .i64 o, .int .i64 a, .int .i64 l], .int .i64 at1, .int .i64 n1] w fun e w' =>
      ∃ v0_ : Value, e = .returned v0_ /\ Kd.R k143 143 w' w.heap.size (fun _ => True) v0_ (kP_ id m u b c z s me o a l at1 n1) /\ Below w.heap.size w w' := by
  refine (callsIn_wide (n := 10)).1 ?_
  have HR := hid (right_steps id m u b c z s me o a l at1 n1)
  by_cases hg : jn_ id m u b c z s me o a l = 0 /\ 0 <= at1 /\ 0 <= n1 /\ at1 + n1 <= kg_ m u b c z s me o a l
  · have HF : Hid (kP_ id m u b c z s me o a l at1 n1 = ks_ m u at1 n1.toNat) := hid (if_pos hg)
    have HR2 : Hid (plan_right.f id m u b c z s me o a l at1 n1 = some true) := hid (by rw [HR.out]; simp [hg])
    have HG := hid hg; clear hg HR
    refine callsIn_of_wp_marks Try.func95 rfl trivial ?_ rfl
    simp only [Try.ntmps95, List.size_toArray, List.length_cons, List.length_nil, Nat.reduceAdd, Nat.reduceSub, Array.replicate_succ, Array.replicate_zero, List.push_toArray, List.append_toArray, List.nil_append, List.cons_append]
    gi_wp2_with (first | (refine ⟨trivial, ?_⟩; gi_at_call 112; refine (callsIn_wide.2 (plan_right.calls id m u b c z s me o a l at1 n1 true _ HR2.out)).mono ?_; rintro e w1 ⟨rfl, hb1⟩; have bc := jb_ (World.alloc_heap_new w (.cells #[.int .i64 id, .int .i64 m, .int .i64 u, .int .i64 b, .int .i64 c, .int .i64 z, .int .i64 s, .int .i64 me, .int .i64 o, .int .i64 a, .int .i64 l] 23)) hb1; have BC := hid bc; clear bc; obtain ⟨q0, q1, q2, q3, q4, q5, q6, q7, q8, q9, q10⟩ := cz11 (ja_ BC.out (.cells #[.slice none 0 0] 140))) | (refine ⟨trivial, ?_⟩; gi_at_call 113; refine (steps_in _ id m u b c z s me o a l at1 n1 _).mono ?_; rintro e w2 ⟨rfl, rfl⟩))
    obtain ⟨W0, hW0⟩ : ∃ W0, (((w1.alloc (.cells #[.slice none 0 0] 140)).alloc (.cells #[.int .i64 id, .int .i64 m, .int .i64 u, .int .i64 b, .int .i64 c, .int .i64 z, .int .i64 s, .int .i64 me, .int .i64 o, .int .i64 a, .int .i64 l] 23)).alloc (.cells #[.int .i64 at1] 3)).alloc (.cells #[.int .i64 n1] 3) = W0 := ⟨_, rfl⟩
    have hn1 : (n1.toNat : Int) = n1 := Int.toNat_of_nonneg HG.out.2.2.1
    have bL : Boxed W0 w1.heap.size 140 (.slice none 0 0) := by rw [<- hW0]; exact (((Boxed.new w1 _ _).alloc _).alloc _).alloc _
    have bC : W0.heap[w1.heap.size + 1]? = some (.cells #[.int .i64 id, .int .i64 m, .int .i64 u, .int .i64 b, .int .i64 c, .int .i64 z, .int .i64 s, .int .i64 me, .int .i64 o, .int .i64 a, .int .i64 l] 23 (0, 0)) := by
      rw [<- hW0]; have h := World.alloc_heap_new (w1.alloc (.cells #[.slice none 0 0] 140)) (.cells #[.int .i64 id, .int .i64 m, .int .i64 u, .int .i64 b, .int .i64 c, .int .i64 z, .int .i64 s, .int .i64 me, .int .i64 o, .int .i64 a, .int .i64 l] 23); rw [World.size_alloc] at h; exact ja_ (ja_ h _) _
    have bA : W0.heap[w1.heap.size + 1 + 1]? = some (.cells #[.int .i64 at1] 3 (0, 0)) := by
      rw [<- hW0]; have h := World.alloc_heap_new ((w1.alloc (.cells #[.slice none 0 0] 140)).alloc (.cells #[.int .i64 id, .int .i64 m, .int .i64 u, .int .i64 b, .int .i64 c, .int .i64 z, .int .i64 s, .int .i64 me, .int .i64 o, .int .i64 a, .int .i64 l] 23)) (.cells #[.int .i64 at1] 3); rw [World.size_alloc, World.size_alloc] at h; exact ja_ h _
    have bN : W0.heap[w1.heap.size + 1 + 1 + 1]? = some (.cells #[.int .i64 n1.toNat] 3 (0, 0)) := by
      rw [<- hW0, hn1]; have h := World.alloc_heap_new (((w1.alloc (.cells #[.slice none 0 0] 140)).alloc (.cells #[.int .i64 id, .int .i64 m, .int .i64 u, .int .i64 b, .int .i64 c, .int .i64 z, .int .i64 s, .int .i64 me, .int .i64 o, .int .i64 a, .int .i64 l] 23)).alloc (.cells #[.int .i64 at1] 3)) (.cells #[.int .i64 n1] 3); rw [World.size_alloc, World.size_alloc, World.size_alloc] at h; exact h
    have hw1 : Below w.heap.size w w1 := ((Below.refl _ w).alloc (Nat.le_refl _) _).trans (hb1.mono (by simp))
    have hs1 := hw1.size
    have hB0 : Below w.heap.size w W0 := by
      rw [<- hW0]
      exact (((hw1.alloc (by omega) _).alloc (by simp; omega) _).alloc (by simp; omega) _).alloc (by simp; omega) _
    have hsz : W0.heap.size = w1.heap.size + 4 := by rw [<- hW0]; simp
    rw [hW0]
    clear hW0 hb1 q0 q1 q2 q3 q4 q5 q6 q7 q8 q9 q10
    have hlen2 := stepsL_len m u at1 n1.toNat
    have hcnt : n1 <= 3932160 := by
      have h1 := HG.out.2.2.2; have h2 := HG.out.2.1
      obtain ⟨g, _, _, _, gsz⟩ := good HG.out.1
      have h3 := g.Z2; rw [<- gsz] at h3; omega
    have HL2 := hid hlen2; have HCNT := hid hcnt; have HN1 := hid hn1; clear hlen2 hcnt hn1
    have HBL := hid bL; have HB0 := hid hB0; have HSZ := hid hsz; have HS1 := hid hs1; clear bL hB0 hsz hs1 hw1
    have own1 : Own (fun (pre : List S143) W => ∃ v, Boxed W w1.heap.size 140 v /\ Kd.R k143 143 W w.heap.size (fun _ => True) v pre) := by
      rintro pre A B row ⟨v, hv, hR⟩ hg hr
      refine ⟨v, hv.kept hg ?_, Kd.R_mono (Kd.R_step (Kd.R_bound hR) ?_) (fun _ _ => trivial)⟩
      · intro e'; obtain ⟨o1, ho, hc⟩ := hr _ e'.symm; rw [show A.heap[w1.heap.size]? = _ from hv] at ho; cases ho; cases hc
      · intro k hk hlt
        refine hg.block k hlt (fun e' => ?_)
        obtain ⟨o1, ho, hc⟩ := hr k e'.symm
        obtain ⟨_, _, _, q, _, cells, hcells⟩ := hk
        rw [hcells] at ho; cases ho; cases hc
    have OWN1 := hid own1; clear own1
    refine wpIn_rangeFunc_ownH rfl (by decide) (gf := 122) (lb := #[.pointer (some ⟨w1.heap.size + 1, 0, none⟩), .pointer (some ⟨w1.heap.size + 1 + 1, 0, none⟩), .pointer (some ⟨w1.heap.size + 1 + 1 + 1, 0, none⟩)]) rfl trivial (enters_of Try.func122 (by kernel_rfl) rfl)
      (steps_stops 9 (w1.heap.size + 1) (w1.heap.size + 1 + 1) (w1.heap.size + 1 + 1 + 1) id m u b c z s me o a l at1 n1.toNat W0 bC bA bN HG.out.1 HG.out.2.1 (by rw [HN1.out]; exact HG.out.2.2.2)) kpS_t (fun W l o o' _ h hc _ => kpS_b W l o o' h hc) (Below.refl _ _) (fun _ => rfl)
      (fun pre W => (∃ v, Boxed W w1.heap.size 140 v /\ Kd.R k143 143 W w.heap.size (fun _ => True) v pre) /\ Below w.heap.size w W)
      (fun _ _ _ => False)
      (OwnFrom.and (Own.from OWN1.out _) (ownFrom_below (Nat.le_refl _) (by have := HSZ.out; have := HS1.out; omega)))
      (fun _ _ _ _ _ hs _ _ => hs)
      ⟨⟨_, HBL.out, Kd.R_nil _ _ _ _ _⟩, HB0.out⟩
      (fun x a' W => ∃ Bx, W.heap[Bx]? = some (.cells #[.bool x.f0, .int .i64 x.f1, .int .i64 x.f2, .int .i64 x.f3, .int .i64 x.f4] 143 (0, 0)) /\
        a' = { tmps := #[.agg #[.int .i64 id, .int .i64 m, .int .i64 u, .int .i64 b, .int .i64 c, .int .i64 z, .int .i64 s, .int .i64 me, .int .i64 o, .int .i64 a, .int .i64 l], .int .i64 at1, .int .i64 n1, .pointer (some ⟨w.heap.size, 0, none⟩), undef, undef, .slice none 0 0, .pointer (some ⟨w1.heap.size, 0, none⟩), .pointer (some ⟨Bx, 0, none⟩), .agg #[.int .i64 id, .int .i64 m, .int .i64 u, .int .i64 b, .int .i64 c, .int .i64 z, .int .i64 s, .int .i64 me, .int .i64 o, .int .i64 a, .int .i64 l], .int .i64 at1, .int .i64 n1, .bool true, .bool false, .agg #[.int .i64 id, .int .i64 m, .int .i64 u, .int .i64 b, .int .i64 c, .int .i64 z, .int .i64 s, .int .i64 me, .int .i64 o, .int .i64 a, .int .i64 l], .int .i64 at1, .int .i64 n1, .func (.func 122) #[] #[.pointer (some ⟨w1.heap.size + 1, 0, none⟩), .pointer (some ⟨w1.heap.size + 1 + 1, 0, none⟩), .pointer (some ⟨w1.heap.size + 1 + 1 + 1, 0, none⟩)], encS x, undef, undef, undef, undef, undef], defers := [] })
      (fun x a' _ A B row hs hg hr => ?ax) ?assign ?body ?done ?stop
    case ax =>
      obtain ⟨Bx, hx, he⟩ := hs
      exact ⟨Bx, kV_ hx hg (fun e' => by obtain ⟨_, o1, ho, hc⟩ := hr _ e'.symm; rw [hx] at ho; cases ho; cases hc), he⟩
    case assign =>
      intro l1 pre x W K hi hK
      have HI := hid hi; clear hi
      dsimp only [encS]
      gi_wp2
      refine hK _ _ ((KeepsOthers.alloc _ _).from _) (kpS_below ((Below.refl _ W).alloc (Nat.le_refl _) _)) ⟨(OWN1.out.from 0).alloc _ HI.out.1, HI.out.2.alloc HI.out.2.size _⟩ ⟨W.heap.size, World.alloc_heap_new W _, ?_⟩
      rfl
    case body =>
      rintro l1 pre x a' W hl ⟨r, hr⟩ ⟨⟨v, hv, hR⟩, hBW⟩ ⟨Bx, hx, rfl⟩ hlen
      obtain ⟨_, inner, hown, hreps⟩ := hR
      have hvc := hv.cell
      obtain ⟨x0, x1, x2, x3, x4⟩ := cz5 hx
      have HV := hid hv; have HBW := hid hBW; have HX := hid hx; have HOWN := hid hown; have HREPS := hid hreps; have HLEN := hid hlen
      clear hv hBW hx hown hreps hlen hr hl
      obtain ⟨i0, hi, hz0, hz1, hz2⟩ := info_parts zO_
      have HI := hid hi; have HZ0 := hid hz0; have HZ1 := hid hz1; have HZ2 := hid hz2
      clear hi hz0 hz1 hz2
      have hk : pre.length + 1 <= 7864321 := by have h1 := HLEN.out; have h2 := HL2.out; have h3 := HCNT.out; have h4 := HN1.out; omega
      have HK := hid hk; clear hk
      gi_wp2_with (gi_at_builtin; refine wpListIn_append_own _ rfl _ _ 140 rfl w.heap.size 143 i0 (.agg #[(.bool false), (.int .i64 0), (.int .i64 0), (.int .i64 0), (.int .i64 0)]) 5 40 Try.underlying140 HI.out HZ0.out HZ1.out HZ2.out rfl (by decide) v pre.length inner rfl (HOWN.out.alloc _) ⟨W.heap.size, 0, none⟩ 1 1 [.bool x.f0, .int .i64 x.f1, .int .i64 x.f2, .int .i64 x.f3, .int .i64 x.f4] rfl rfl (World.news_of_block (cs := #[.bool x.f0, .int .i64 x.f1, .int .i64 x.f2, .int .i64 x.f3, .int .i64 x.f4]) (t := 143) (fr := (0, 0)) (World.alloc_heap_new W _)) (by simp [Value.oneCell']) (by have := HK.out; simp only [maxLen]; omega) (by have := HK.out; omega) (by have := HBW.out.size; simp; omega) ?_; intro v' wq hown' hgrow _; obtain ⟨g', cap', rfl⟩ := ownsRow_succ hown'; have hv1 := (HV.out.alloc (.cells #[.bool x.f0, .int .i64 x.f1, .int .i64 x.f2, .int .i64 x.f3, .int .i64 x.f4] 143)).kept hgrow (HV.out.not_row (by decide) HOWN.out); have hc1 := hv1.cell; have hf1 := hv1.frozen)
      refine ⟨(((KeepsOthers.alloc W _).trans (KeepsOthers.of_grownBy hgrow ?row)).trans (KeepsOthers.setCell _ _ _)).from _, ⟨?size, ?blocks⟩, ⟨_, hv1.set _, ?rr⟩, ?bel⟩
      case row =>
        intro j o1 hj ho
        obtain ⟨cells, hc⟩ := xr_ (HOWN.out.alloc _) j hj
        rw [hc] at ho; cases ho; rfl
      case size => exact Nat.le_trans (Nat.le_trans (by simp) hgrow.size) (KeepsOthers.setCell _ _ _).size
      case blocks =>
        intro k cs t fr h1 h2 hk
        have e1 := ja_ hk (.cells #[.bool x.f0, .int .i64 x.f1, .int .i64 x.f2, .int .i64 x.f3, .int .i64 x.f4] 143)
        have e2 := kV_ e1 hgrow (fun e' => by
          obtain ⟨cells, hc⟩ := xr_ (HOWN.out.alloc (.cells #[.bool x.f0, .int .i64 x.f1, .int .i64 x.f2, .int .i64 x.f3, .int .i64 x.f4] 143)) k e'.symm
          rw [hc] at e1; injection e1 with e1; injection e1 with _ e3; exact h2 e3.symm)
        refine (Below.heap_setCell wq _ _ k ?_).trans e2
        rintro rfl
        rw [show wq.heap[w1.heap.size]? = _ from hv1] at e2; injection e2 with e2; injection e2 with _ e3; exact h1 e3.symm
      case rr => exact r_app HREPS.out (own_setCell hown' (hv1.not_row (by decide) hown') _)
      case bel =>
        exact HBW.out.trans ((((Below.refl _ W).alloc HBW.out.size _).grown hgrow (by have := HBW.out.size; simp; omega) (xW_ HOWN.out)).setCell (p := ⟨w1.heap.size, 0, none⟩) HS1.out _)
    case done =>
      rintro D ys W hD rfl ⟨⟨v, hv, hR⟩, hBW⟩ hK
      have hvc := hv.cell
      have HV := hid hv; have HBW := hid hBW; have HRR := hid hR; have HK := hid hK
      clear hv hBW hR hK
      gi_wp2
      have hB := HBW.out.trans (belowK_b (w := w) (Nat.le_refl _) W D _ (.deferred none) (by have := HSZ.out; have := HS1.out; omega) HK.out rfl rfl)
      have hRR : Kd.R k143 143 (W.putObj D (.deferred none)) w.heap.size (fun _ => True) v (ks_ m u at1 n1.toNat) := by
        refine Kd.R_mono (Kd.R_step (Kd.R_bound HRR.out) ?_) (fun _ _ => trivial)
        intro k hk _
        refine World.putObj_heap_other ?_
        rintro rfl
        obtain ⟨_, _, _, q, _, cells, hcells⟩ := hk
        rw [HK.out] at hcells; cases hcells
      refine ⟨by simp, .inl ⟨_, _, rfl, run_takeDeferred HK.out, ?_⟩⟩
      exact ⟨_, results_tmp rfl _ _ _, _, rfl, by rw [HF.out]; exact hRR, hB⟩
    case stop =>
      rintro D c1 pre W _ _ h _
      exact h.elim
  · have HF : Hid (kP_ id m u b c z s me o a l at1 n1 = []) := hid (if_neg hg)
    have HR2 : Hid (plan_right.f id m u b c z s me o a l at1 n1 = some false) := hid (by rw [HR.out]; simp [hg])
    clear hg HR
    refine callsIn_of_wp_marks Try.func95 rfl trivial ?_ rfl
    simp only [Try.ntmps95, List.size_toArray, List.length_cons, List.length_nil, Nat.reduceAdd, Nat.reduceSub, Array.replicate_succ, Array.replicate_zero, List.push_toArray, List.append_toArray, List.nil_append, List.cons_append]
    gi_wp2_with (refine ⟨trivial, ?_⟩; gi_at_call 112; refine (callsIn_wide.2 (plan_right.calls id m u b c z s me o a l at1 n1 false _ HR2.out)).mono ?_; rintro e w1 ⟨rfl, hb1⟩)
    have hB : Below w.heap.size w w1 := ((Below.refl _ w).alloc (Nat.le_refl _) _).trans (hb1.mono (by simp))
    exact ⟨_, results_tmp rfl _ _ _, _, rfl, by rw [HF.out]; exact Kd.R_nil _ _ _ _ _, hB⟩
end Go.Proofs.Ytgckcaoncjhgbaa
namespace Go.Proofs.Ytgckcaoncjhgbaa.PG
open Go.RowKit Go.Proofs.YtgckcaoncjhgbaaW.PrintWords Go.Proofs.YtgckcaoncjhgbaaW.PrintLast
set_option linter.unusedVariables false
set_option linter.unusedSimpArgs false
def plan_Steps.f (a0_0 : Int) (a0_1 : Int) (a0_2 : Int) (a0_3 : Int) (a0_4 : Int) (a0_5 : Int) (a0_6 : Int) (a0_7 : Int) (a0_8 : Int) (a0_9 : Int) (a0_10 : Int) (a1 : Int) (a2 : Int) : Option ((List (S143))) := some (kP_ a0_0 a0_1 a0_2 a0_3 a0_4 a0_5 a0_6 a0_7 a0_8 a0_9 a0_10 a1 a2)
theorem plan_Steps.calls (a0_0 : Int) (a0_1 : Int) (a0_2 : Int) (a0_3 : Int) (a0_4 : Int) (a0_5 : Int) (a0_6 : Int) (a0_7 : Int) (a0_8 : Int) (a0_9 : Int) (a0_10 : Int) (a1 : Int) (a2 : Int) (r : List (S143)) (w : World) (h : plan_Steps.f a0_0 a0_1 a0_2 a0_3 a0_4 a0_5 a0_6 a0_7 a0_8 a0_9 a0_10 a1 a2 = some r) :
  Calls Try.prog 95 #[.agg #[.int .i64 a0_0, .int .i64 a0_1, .int .i64 a0_2, .int .i64 a0_3, .int .i64 a0_4, .int .i64 a0_5, .int .i64 a0_6, .int .i64 a0_7, .int .i64 a0_8, .int .i64 a0_9, .int .i64 a0_10], .int .i64 a1, .int .i64 a2] w fun e w' => ∃ v0_ : Value, e = .returned (v0_) /\ Kd.R k143 143 w' w.heap.size (fun _ => True) v0_ r /\ Below w.heap.size w w' := by
 simp only [plan_Steps.f, Option.some.injEq] at h; subst h
 exact steps_any a0_0 a0_1 a0_2 a0_3 a0_4 a0_5 a0_6 a0_7 a0_8 a0_9 a0_10 a1 a2 w
end Go.Proofs.Ytgckcaoncjhgbaa.PG
open Go.RowKit Go.Proofs.Ytgckcaoncjhgbaa Go.Proofs.Ytgckcaoncjhgbaa.PG Go.Proofs.YtgckcaoncjhgbaaW.PrintWords Go.Proofs.YtgckcaoncjhgbaaW.PrintLast
set_option linter.unusedVariables false
set_option linter.unusedSimpArgs false
namespace Go.Proofs.Ytgckcaoncjhgbaa.Geo
def addL (L : List S134) (s : S143) : List S134 :=
  L.set s.f1.toNat (if s.f0 = true then ⟨(L.getD s.f1.toNat ⟨0, 0⟩).f0, wrap64 ((L.getD s.f1.toNat ⟨0, 0⟩).f1 + s.f4)⟩ else ⟨wrap64 ((L.getD s.f1.toNat ⟨0, 0⟩).f0 + s.f4), (L.getD s.f1.toNat ⟨0, 0⟩).f1⟩)
def loadsOf (id m u b c z s me o a l : Int) (at1 n1 : Int) : List S134 := if jn_ id m u b c z s me o a l = 0 then (kP_ id m u b c z s me o a l at1 n1).foldl addL (List.replicate m.toNat ⟨0, 0⟩) else []
def jH_ (L : List S134) : List Value := L.flatMap fun x => [.int .i64 x.f0, .int .i64 x.f1]
theorem kz_ (L : List S134) : (jH_ L).length = L.length * 2 := by
  induction L with
  | nil => rfl
  | cons x L ih => simp only [jH_, List.flatMap_cons, List.length_append, List.length_cons, List.length_nil] at ih ⊢; rw [ih]; omega
theorem xt_ (L : List S134) : ∀ i : Nat, i < L.length -> (jH_ L)[i * 2]? = some (.int .i64 (L.getD i ⟨0, 0⟩).f0) /\ (jH_ L)[i * 2 + 1]? = some (.int .i64 (L.getD i ⟨0, 0⟩).f1) := by
  induction L with
  | nil => intro i h; simp at h
  | cons x L ih =>
    intro i h
    cases i with
    | zero => simp [jH_]
    | succ i =>
      have := ih i (by simpa using h)
      simp only [jH_, List.flatMap_cons] at this ⊢
      rw [show (i + 1) * 2 = i * 2 + 2 by omega, show i * 2 + 2 + 1 = (i * 2 + 1) + 2 by omega]
      simpa using this
theorem zW_ (L : List S134) (v : Int) : ∀ i : Nat, i < L.length -> (jH_ L).set (i * 2) (.int .i64 v) = jH_ (L.set i ⟨v, (L.getD i ⟨0, 0⟩).f1⟩) := by
  induction L with
  | nil => intro i h; simp at h
  | cons x L ih =>
    intro i h
    cases i with
    | zero => simp [jH_]
    | succ i =>
      have := ih i (by simpa using h)
      simp only [jH_, List.flatMap_cons] at this ⊢
      rw [show (i + 1) * 2 = i * 2 + 2 by omega]
      simpa using this
theorem zV_ (L : List S134) (v : Int) : ∀ i : Nat, i < L.length -> (jH_ L).set (i * 2 + 1) (.int .i64 v) = jH_ (L.set i ⟨(L.getD i ⟨0, 0⟩).f0, v⟩) := by
  induction L with
  | nil => intro i h; simp at h
  | cons x L ih =>
    intro i h
    cases i with
    | zero => simp [jH_]
    | succ i =>
      have := ih i (by simpa using h)
      simp only [jH_, List.flatMap_cons] at this ⊢
      rw [show (i + 1) * 2 + 1 = (i * 2 + 1) + 2 by omega]
      simpa using this
theorem addL_len (L : List S134) (s : S143) : (addL L s).length = L.length := by simp [addL]
end Go.Proofs.Ytgckcaoncjhgbaa.Geo
