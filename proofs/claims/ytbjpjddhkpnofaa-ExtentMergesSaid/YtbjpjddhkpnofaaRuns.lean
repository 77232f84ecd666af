/- extent.All and extent.Runs: what they give, for all settings and any numbers. -/
import Derived.Maps.OwnIn
import Derived.Test.YtbjpjddhkpnofaaRunsIt
namespace Go.Proofs.Ytbjpjddhkpnofaa
open Go.RowKit Go.Shelf Go.Proofs.Ytbjpjddhkpnofaa.PA Go.Proofs.YtbjpjddhkpnofaaW.PrintWords Go.Proofs.YtbjpjddhkpnofaaW.PrintLast Go.Proofs.Ytbjpjddhkpnofaa.Geo
attribute [local go_sem] Oper.semAt_some
set_option linter.unusedVariables false
set_option linter.unusedSimpArgs false
set_option maxHeartbeats 1000000 in
theorem all_in (n : Nat) (id m u b c z s me o a l : Int) (at1 n1 : Int) (w : World) :
    CallsIn Fence.wide n Try.prog 25 #[.agg #[.int .i64 id, .int .i64 m, .int .i64 u, .int .i64 b, .int .i64 c, .int .i64 z, .int .i64 s, .int .i64 me, .int .i64 o, .int .i64 a, .int .i64 l], .int .i64 at1, .int .i64 n1] w fun e w' =>
      e = .returned (.func (.func 37) #[] #[.pointer (some ⟨w.heap.size, 0, none⟩), .pointer (some ⟨w.heap.size + 1, 0, none⟩), .pointer (some ⟨w.heap.size + 1 + 1, 0, none⟩)]) ∧
      w' = ((w.alloc (.cells #[.int .i64 id, .int .i64 m, .int .i64 u, .int .i64 b, .int .i64 c, .int .i64 z, .int .i64 s, .int .i64 me, .int .i64 o, .int .i64 a, .int .i64 l] 24)).alloc (.cells #[.int .i64 at1] 3)).alloc (.cells #[.int .i64 n1] 3) := by
  refine callsIn_of_wp Try.func25 rfl trivial ?_ rfl
  simp only [Try.ntmps25, List.size_toArray, List.length_cons, List.length_nil, Nat.reduceAdd, Nat.reduceSub, Array.replicate_succ, Array.replicate_zero, List.push_toArray, List.append_toArray, List.nil_append, List.cons_append]
  gi_wp2
  go_ret
  exact ⟨rfl, rfl⟩
set_option maxHeartbeats 1000000 in
theorem runs0_in (n : Nat) (l Bc Ba Bn : Nat) (id m u b c z s me o a l' : Int) (at1 n1 : Int) (W : World) (hc : W.heap[Bc]? = some (.cells #[.int .i64 id, .int .i64 m, .int .i64 u, .int .i64 b, .int .i64 c, .int .i64 z, .int .i64 s, .int .i64 me, .int .i64 o, .int .i64 a, .int .i64 l'] 24 (0, 0)))
    (ha : W.heap[Ba]? = some (.cells #[.int .i64 at1] 3 (0, 0))) (hcn : W.heap[Bn]? = some (.cells #[.int .i64 n1] 3 (0, 0)))
    (hg : ¬ (checkC id m u b c z s me o a l' = 0 ∧ 0 ≤ at1 ∧ 0 ≤ n1 ∧ at1 + n1 ≤ sizeC m u b c z s me o a l')) :
    CallsIn Fence.wide n Try.prog 37 #[.func (.yield l) #[] #[], .pointer (some ⟨Bc, 0, none⟩), .pointer (some ⟨Ba, 0, none⟩), .pointer (some ⟨Bn, 0, none⟩)] W fun e W' => (∃ v, e = .returned v) ∧ Below W.heap.size W W' := by
  have HR2 : Hid (extent_right.f id m u b c z s me o a l' at1 n1 = some false) := Lib.hid (by rw [right_runs]; simp [hg])
  obtain ⟨q0, q1, q2, q3, q4, q5, q6, q7, q8, q9, q10⟩ := cz11 hc
  have hac := Boxed.cell ha
  have hcc := Boxed.cell hcn
  clear hc ha hcn hg
  refine callsIn_of_wp Try.func37 rfl trivial ?_ rfl
  simp only [Try.ntmps37, List.size_toArray, List.length_cons, List.length_nil, Nat.reduceAdd, Nat.reduceSub, Array.replicate_succ, Array.replicate_zero, List.push_toArray, List.append_toArray, List.nil_append, List.cons_append]
  gi_wp2_with (refine ⟨trivial, fun h => (by cases h), ?_⟩; gi_at_call 38; refine (callsIn_wide.2 (extent_right.calls id m u b c z s me o a l' at1 n1 false _ HR2.out)).mono ?_; rintro e w1 ⟨rfl, hb1⟩)
  refine bodyPost_ret (results_none rfl _ _ _) rfl ?_
  exact ⟨⟨_, rfl⟩, hb1⟩
/-- What the iterator gives, whatever ranges over it. -/
theorem runs_stops (n : Nat) (Bl Bc Ba Bn : Nat) (id m u b c z s me o a l : Int) (at1 n1 : Int) (w : World)
    (hc : w.heap[Bc]? = some (.cells #[.int .i64 id, .int .i64 m, .int .i64 u, .int .i64 b, .int .i64 c, .int .i64 z, .int .i64 s, .int .i64 me, .int .i64 o, .int .i64 a, .int .i64 l] 24 (0, 0))) (ha : w.heap[Ba]? = some (.cells #[.int .i64 at1] 3 (0, 0))) (hcn : w.heap[Bn]? = some (.cells #[.int .i64 n1] 3 (0, 0)))
    (hbl : w.heap[Bl]? = some (.cells #[.slice none 0 0] 22 (0, 0))) :
    SeqR Fence.wide n Try.prog 37 #[.pointer (some ⟨Bc, 0, none⟩), .pointer (some ⟨Ba, 0, none⟩), .pointer (some ⟨Bn, 0, none⟩)] (fun x : S27 => #[encR x]) (KpR Bl) (KiR w.heap.size Bl)
      (fun ys => ys = runsF id m u b c z s me o a l at1 n1) (fun pre => pre <+: runsF id m u b c z s me o a l at1 n1) (runsF id m u b c z s me o a l at1 n1).length w := by
  intro l1 J Jx W hW hJ hJi hY hj0
  by_cases hg : checkC id m u b c z s me o a l = 0 ∧ 0 ≤ at1 ∧ 0 ≤ n1 ∧ at1 + n1 ≤ sizeC m u b c z s me o a l
  · have hF : runsF id m u b c z s me o a l at1 n1 = runsL m u at1 n1.toNat := if_pos hg
    have hn : (n1.toNat : Int) = n1 := Int.toNat_of_nonneg hg.2.2.1
    rw [hF] at hY ⊢
    rw [← hn] at hcn
    exact runs1_in n l1 Bl w.heap.size Bc Ba Bn id m u b c z s me o a l at1 n1.toNat J Jx hY W (blk_below hc hW) (blk_below ha hW) (blk_below hcn hW) (blk_below hbl hW) hW.size hJ hJi hg.1 hg.2.1 (by rw [hn]; exact hg.2.2.2) hj0
  · have hF : runsF id m u b c z s me o a l at1 n1 = [] := if_neg hg
    rw [hF]
    refine (runs0_in n l1 Bc Ba Bn id m u b c z s me o a l at1 n1 W (blk_below hc hW) (blk_below ha hW) (blk_below hcn hW) hg).mono ?_
    rintro e w1 ⟨he, hb⟩
    exact ⟨he, .inl ⟨[], rfl, abideR hJ hb hj0⟩⟩
theorem runsF_len (id m u b c z s me o a l : Int) (at1 n1 : Int) : (runsF id m u b c z s me o a l at1 n1).length ≤ 3932161 := by
  unfold runsF; split
  · rename_i hg
    have hn : (n1.toNat : Int) = n1 := Int.toNat_of_nonneg hg.2.2.1
    obtain ⟨g, _, _, _, gsz⟩ := good hg.1
    have h3 := g.Z2; rw [← gsz] at h3
    have := (runsL_len m u at1 n1.toNat).2
    have h4 := hg.2.2.2; have h5 := hg.2.1
    omega
  · simp
theorem rR_app {W w1 : World} {base : Nat} {ok : Nat → Prop} {v1 : Value} {xs : List S27} {p : S27} {inner : List Value} (hr : Reps (k27.M W base ok) k27.sz xs inner)
    (hown : w1.ownsRow base 27 4 v1 (xs.length + 1) (inner ++ [.int .i64 p.f0, .int .i64 p.f1, .int .i64 p.f2, .int .i64 p.f3])) : Kd.R k27 27 w1 base (fun _ => True) v1 (xs ++ [p]) :=
  ⟨fun _ _ => trivial, _, by rw [List.length_append, List.length_singleton]; exact hown, (hr.imp_ (fun _ _ h => by rw [k27_openM h]; exact k27_mkM _ _ _ _)).snoc (k27_mkM _ _ _ p) rfl⟩
/-- What an append of one run to the box's slice keeps and leaves. -/
theorem app_keeps {base Bl : Nat} {Wb W1 wq : World} {v v' : Value} {pre : List S27} {x : S27} {inner : List Value} (hb : base ≤ Bl) (hv : Boxed Wb Bl 22 v) (hown : Wb.ownsRow base 27 4 v pre.length inner) (hreps : Reps (k27.M Wb base (fun _ => True)) k27.sz pre inner)
    (h1 : W1 = Wb.alloc (.cells #[.int .i64 x.f0, .int .i64 x.f1, .int .i64 x.f2, .int .i64 x.f3] 27)) (hown' : wq.ownsRow base 27 4 v' (pre.length + 1) (inner ++ [.int .i64 x.f0, .int .i64 x.f1, .int .i64 x.f2, .int .i64 x.f3])) (hgrow : W1.grownBy wq v.ownBlock) (hat : v'.ownBlock = v.ownBlock ∨ v'.ownBlock = some W1.heap.size) :
    KpR Bl Wb (wq.setCell ⟨Bl, 0, none⟩ v') ∧ HoldsR base Bl (pre ++ [x]) (wq.setCell ⟨Bl, 0, none⟩ v') ∧ KeepsOthers Wb (wq.setCell ⟨Bl, 0, none⟩ v') ∧ Below base Wb (wq.setCell ⟨Bl, 0, none⟩ v') := by
  subst h1
  have hv1 : Boxed wq Bl 22 v := (hv.alloc _).kept hgrow (hv.not_row (by decide) hown)
  have hlt := hv.lt
  have hbase : base ≤ Wb.heap.size := by omega
  refine ⟨⟨?size, ?blocks, ?nr⟩, ⟨v', hv1.set _, rR_app hreps (own_setCell hown' (hv1.not_row (by decide) hown') _)⟩, ((KeepsOthers.alloc Wb _).trans (KeepsOthers.of_grownBy hgrow ?row)).trans (KeepsOthers.setCell _ _ _), ?bel⟩
  case size => exact Nat.le_trans (Nat.le_trans (by simp) hgrow.size) (KeepsOthers.setCell _ _ _).size
  case row =>
    intro j o1 hj ho
    obtain ⟨cells, hc⟩ := own_typed (hown.alloc _) j hj
    rw [hc] at ho; cases ho; rfl
  case blocks =>
    intro k cs t fr h1 h2 hk
    have e1 := blk_alloc hk (.cells #[.int .i64 x.f0, .int .i64 x.f1, .int .i64 x.f2, .int .i64 x.f3] 27)
    have e2 := blk_grown e1 hgrow (fun e' => by
      obtain ⟨cells, hc⟩ := own_typed hown k e'.symm
      rw [hc] at hk; injection hk with hk; injection hk with _ e3
      exact h2 e3.symm v _ hv e'.symm)
    refine (Below.heap_setCell wq _ _ k ?_).trans e2
    intro e
    rw [e, show wq.heap[Bl]? = _ from hv1] at e2; injection e2 with e2; injection e2 with _ e3; exact h1 e3.symm
  case nr =>
    intro k hk hn v2 fr hv2
    have hs := hv1.set v'
    rw [show (wq.setCell ⟨Bl, 0, none⟩ v').heap[Bl]? = _ from hs] at hv2
    injection hv2 with hv2; injection hv2 with hv3 _ _; injection hv3 with hv3; injection hv3 with hv3; subst hv3
    rcases hat with hat | hat
    · rw [hat]; exact hn v _ hv
    · rw [hat]; intro e; injection e with e; simp at e; omega
  case bel => exact (((Below.refl _ Wb).alloc hbase _).grown hgrow (by simp; omega) (own_base hown)).setCell (p := ⟨Bl, 0, none⟩) hb _

set_option maxRecDepth 100000 in
set_option maxHeartbeats 4000000 in
theorem runs_any (id m u b c z s me o a l : Int) (at1 n1 : Int) (w : World) :
    Calls Try.prog 12 #[.agg #[.int .i64 id, .int .i64 m, .int .i64 u, .int .i64 b, .int .i64 c, .int .i64 z, .int .i64 s, .int .i64 me, .int .i64 o, .int .i64 a, .int .i64 l], .int .i64 at1, .int .i64 n1] w fun e w' =>
      ∃ v0_ : Value, e = .returned v0_ ∧ Kd.R k27 27 w' w.heap.size (fun _ => True) v0_ (runsF id m u b c z s me o a l at1 n1) ∧ Below w.heap.size w w' := by
  refine (callsIn_wide (n := 10)).1 ?_
  refine callsIn_of_wp_marks Try.func12 rfl trivial ?_ rfl
  simp only [Try.ntmps12, List.size_toArray, List.length_cons, List.length_nil, Nat.reduceAdd, Nat.reduceSub, Array.replicate_succ, Array.replicate_zero, List.push_toArray, List.append_toArray, List.nil_append, List.cons_append]
  have W1C := Lib.hid (blk_alloc (World.alloc_heap_new w (.cells #[.int .i64 id, .int .i64 m, .int .i64 u, .int .i64 b, .int .i64 c, .int .i64 z, .int .i64 s, .int .i64 me, .int .i64 o, .int .i64 a, .int .i64 l] 24)) (.cells #[.slice none 0 0] 22))
  obtain ⟨q0, q1, q2, q3, q4, q5, q6, q7, q8, q9, q10⟩ := cz11 W1C.out
  gi_wp2_with (refine ⟨trivial, ?_⟩; gi_at_call 25; refine (all_in _ id m u b c z s me o a l at1 n1 _).mono ?_; rintro e w2 ⟨rfl, rfl⟩)
  obtain ⟨W0, hW0⟩ : ∃ W0, ((((w.alloc (.cells #[.int .i64 id, .int .i64 m, .int .i64 u, .int .i64 b, .int .i64 c, .int .i64 z, .int .i64 s, .int .i64 me, .int .i64 o, .int .i64 a, .int .i64 l] 24)).alloc (.cells #[.slice none 0 0] 22)).alloc (.cells #[.int .i64 id, .int .i64 m, .int .i64 u, .int .i64 b, .int .i64 c, .int .i64 z, .int .i64 s, .int .i64 me, .int .i64 o, .int .i64 a, .int .i64 l] 24)).alloc (.cells #[.int .i64 at1] 3)).alloc (.cells #[.int .i64 n1] 3) = W0 := ⟨_, rfl⟩
  obtain ⟨V1, hV1⟩ : ∃ V1, (w.alloc (.cells #[.int .i64 id, .int .i64 m, .int .i64 u, .int .i64 b, .int .i64 c, .int .i64 z, .int .i64 s, .int .i64 me, .int .i64 o, .int .i64 a, .int .i64 l] 24)).alloc (.cells #[.slice none 0 0] 22) = V1 := ⟨_, rfl⟩
  have sV : V1.heap.size = w.heap.size + 1 + 1 := by rw [← hV1]; simp
  have bL1 : V1.heap[w.heap.size + 1]? = some (.cells #[.slice none 0 0] 22 (0, 0)) := by
    rw [← hV1]; have h := World.alloc_heap_new (w.alloc (.cells #[.int .i64 id, .int .i64 m, .int .i64 u, .int .i64 b, .int .i64 c, .int .i64 z, .int .i64 s, .int .i64 me, .int .i64 o, .int .i64 a, .int .i64 l] 24)) (.cells #[.slice none 0 0] 22); rwa [World.size_alloc] at h
  have bV : Below w.heap.size w V1 := by rw [← hV1]; exact ((Below.refl _ w).alloc (Nat.le_refl _) _).alloc (by simp) _
  rw [hV1] at hW0 ⊢
  have bL : Boxed W0 (w.heap.size + 1) 22 (.slice none 0 0) := by rw [← hW0]; exact blk_alloc (blk_alloc (blk_alloc bL1 _) _) _
  have bC : W0.heap[w.heap.size + 1 + 1]? = some (.cells #[.int .i64 id, .int .i64 m, .int .i64 u, .int .i64 b, .int .i64 c, .int .i64 z, .int .i64 s, .int .i64 me, .int .i64 o, .int .i64 a, .int .i64 l] 24 (0, 0)) := by
    rw [← hW0]; have h := World.alloc_heap_new V1 (.cells #[.int .i64 id, .int .i64 m, .int .i64 u, .int .i64 b, .int .i64 c, .int .i64 z, .int .i64 s, .int .i64 me, .int .i64 o, .int .i64 a, .int .i64 l] 24); rw [sV] at h; exact blk_alloc (blk_alloc h _) _
  have bA : W0.heap[w.heap.size + 1 + 1 + 1]? = some (.cells #[.int .i64 at1] 3 (0, 0)) := by
    rw [← hW0]; have h := World.alloc_heap_new (V1.alloc (.cells #[.int .i64 id, .int .i64 m, .int .i64 u, .int .i64 b, .int .i64 c, .int .i64 z, .int .i64 s, .int .i64 me, .int .i64 o, .int .i64 a, .int .i64 l] 24)) (.cells #[.int .i64 at1] 3); rw [World.size_alloc, sV] at h; exact blk_alloc h _
  have bN : W0.heap[w.heap.size + 1 + 1 + 1 + 1]? = some (.cells #[.int .i64 n1] 3 (0, 0)) := by
    rw [← hW0]; have h := World.alloc_heap_new ((V1.alloc (.cells #[.int .i64 id, .int .i64 m, .int .i64 u, .int .i64 b, .int .i64 c, .int .i64 z, .int .i64 s, .int .i64 me, .int .i64 o, .int .i64 a, .int .i64 l] 24)).alloc (.cells #[.int .i64 at1] 3)) (.cells #[.int .i64 n1] 3); rw [World.size_alloc, World.size_alloc, sV] at h; exact h
  have hB0 : Below w.heap.size w W0 := by
    rw [← hW0]; exact ((bV.alloc (by omega) _).alloc (by simp; omega) _).alloc (by simp; omega) _
  have hsz : W0.heap.size = w.heap.size + 5 := by rw [← hW0]; simp [sV]
  rw [hW0]
  clear hW0 hV1 sV bL1 bV q0 q1 q2 q3 q4 q5 q6 q7 q8 q9 q10 W1C
  have HBL := Lib.hid bL; have HB0 := Lib.hid hB0; have HSZ := Lib.hid hsz; clear bL hB0 hsz
  have hlen := runsF_len id m u b c z s me o a l at1 n1
  have HLN := Lib.hid hlen; clear hlen
  refine range_R rfl (by decide) (gf := 37) (lb := #[.pointer (some ⟨w.heap.size + 1 + 1, 0, none⟩), .pointer (some ⟨w.heap.size + 1 + 1 + 1, 0, none⟩), .pointer (some ⟨w.heap.size + 1 + 1 + 1 + 1, 0, none⟩)]) rfl trivial (enters_of Try.func37 (by kernel_rfl) rfl)
    (runs_stops 9 (w.heap.size + 1) (w.heap.size + 1 + 1) (w.heap.size + 1 + 1 + 1) (w.heap.size + 1 + 1 + 1 + 1) id m u b c z s me o a l at1 n1 W0 bC bA bN HBL.out) kpR_t (fun W l o o' hl h hc => kpR_b W l o o' (by have := HSZ.out; omega) h hc) kiR_keeps (fun _ => rfl)
    (fun pre W => HoldsR w.heap.size (w.heap.size + 1) pre W ∧ Below w.heap.size w W) (fun _ _ _ => False)
    (OwnFrom.and (Own.from (holdsR_own _ _) _) (ownFrom_below (Nat.le_refl _) (by have := HSZ.out; omega)))
    (fun s A B hs hi => ⟨holdsR_ki hs.1 hi, by obtain ⟨k, hk, hg, _⟩ := hi; exact hs.2.grown hg hs.2.size (fun j e => by injection e with e; have := HSZ.out; omega)⟩)
    (fun _ _ _ _ _ hs _ _ => hs) ⟨⟨_, HBL.out, Kd.R_nil _ _ _ _ _⟩, HB0.out⟩ ?round ?done ?stop
  case round =>
    intro l1 pre x W hl hi hlen
    have HI := Lib.hid hi; have HLEN := Lib.hid hlen; clear hi hlen
    dsimp only [encR]
    gi_wp2
    refine ⟨(KeepsOthers.alloc _ _).from _, kpR_below (by obtain ⟨v, hv, _⟩ := HI.out.1; exact hv.lt) ((Below.refl _ W).alloc (Nat.le_refl _) _), ?_⟩
    intro r o1 ho hoc
    obtain ⟨Wb, hWb⟩ : ∃ Wb, Wb = (W.alloc (.cells #[.int .i64 x.f0, .int .i64 x.f1, .int .i64 x.f2, .int .i64 x.f3] 27)).putObj l1 (.loop r) := ⟨_, rfl⟩
    have hne : W.heap.size ≠ l1 := by
      rintro rfl; rw [World.alloc_heap_new] at ho; cases ho; cases hoc
    have hx : Wb.heap[W.heap.size]? = some (.cells #[.int .i64 x.f0, .int .i64 x.f1, .int .i64 x.f2, .int .i64 x.f3] 27 (0, 0)) := by rw [hWb]; exact (World.putObj_heap_other hne).trans (World.alloc_heap_new W _)
    have ib : HoldsR w.heap.size (w.heap.size + 1) pre Wb := by
      rw [hWb]; exact (holdsR_own _ _).putObj _ ((holdsR_own _ _).alloc _ HI.out.1) ho hoc
    have bb : Below w.heap.size w Wb := by
      rw [hWb]; exact (HI.out.2.alloc HI.out.2.size _).grown (grownBy_putObj' _ _ _) (by have := HI.out.2.size; simp; omega) (fun k e => by injection e with e; have := HSZ.out; omega)
    rw [← hWb]
    obtain ⟨v, hv, _, inner, hown, hreps⟩ := ib
    have hvc := hv.cell
    obtain ⟨x0, x1, x2, x3⟩ := cz4 hx
    have HV := Lib.hid hv; have HBB := Lib.hid bb; have HX := Lib.hid hx; have HOWN := Lib.hid hown; have HREPS := Lib.hid hreps
    clear hv bb hx hown hreps hWb ho hoc hl hne
    obtain ⟨i0, hi, hz0, hz1, hz2⟩ := info_parts info27
    have HI0 := Lib.hid hi; have HZ0 := Lib.hid hz0; have HZ1 := Lib.hid hz1; have HZ2 := Lib.hid hz2
    clear hi hz0 hz1 hz2
    have hk : pre.length + 1 ≤ 3932161 := by have h1 := HLEN.out; have h2 := HLN.out; omega
    have HK := Lib.hid hk; clear hk
    gi_wp2_with (gi_at_builtin; refine wpListIn_append_own_at _ rfl _ _ 22 rfl w.heap.size 27 i0 (.agg #[(.int .i64 0), (.int .i64 0), (.int .i64 0), (.int .i64 0)]) 4 32 Try.underlying22 HI0.out HZ0.out HZ1.out HZ2.out rfl (by decide) v pre.length inner rfl (HOWN.out.alloc _) ⟨Wb.heap.size, 0, none⟩ 1 1 [.int .i64 x.f0, .int .i64 x.f1, .int .i64 x.f2, .int .i64 x.f3] rfl rfl (World.news_of_block (cs := #[.int .i64 x.f0, .int .i64 x.f1, .int .i64 x.f2, .int .i64 x.f3]) (t := 27) (fr := (0, 0)) (World.alloc_heap_new Wb _)) (by simp [Value.oneCell']) (by have := HK.out; simp only [maxLen]; omega) (by have := HK.out; omega) (by have := HBB.out.size; simp; omega) ?_; intro v' wq hown' hgrow _ hat; obtain ⟨g', cap', rfl⟩ := ownsRow_succ hown'; have hv1 := (HV.out.alloc (.cells #[.int .i64 x.f0, .int .i64 x.f1, .int .i64 x.f2, .int .i64 x.f3] 27)).kept hgrow (HV.out.not_row (by decide) HOWN.out); have hc1 := hv1.cell; have hf1 := hv1.frozen)
    obtain ⟨k1, k2, k3, k4⟩ := app_keeps (x := x) (Nat.le_succ _) HV.out HOWN.out HREPS.out rfl hown' hgrow hat
    exact ⟨k3.from _, k1, k2, HBB.out.trans k4⟩
  case done =>
    rintro D ys W hD rfl ⟨⟨v, hv, hR⟩, hBW⟩ hK
    have hvc := hv.cell
    have HV := Lib.hid hv; have HBW := Lib.hid hBW; have HRR := Lib.hid hR; have HK := Lib.hid hK
    clear hv hBW hR hK
    gi_wp2
    have hB := HBW.out.trans (belowK_b (w := w) (Nat.le_refl _) W D _ (.deferred none) (by have := HSZ.out; omega) HK.out rfl rfl)
    have hRR : Kd.R k27 27 (W.putObj D (.deferred none)) w.heap.size (fun _ => True) v (runsF id m u b c z s me o a l at1 n1) := by
      refine Kd.R_mono (Kd.R_step (Kd.R_bound HRR.out) ?_) (fun _ _ => trivial)
      intro k hk _
      refine World.putObj_heap_other ?_
      rintro rfl
      obtain ⟨_, _, _, q, _, cells, hcells⟩ := hk
      rw [HK.out] at hcells; cases hcells
    refine ⟨by simp, .inl ⟨_, _, rfl, run_takeDeferred HK.out, ?_⟩⟩
    exact ⟨_, results_tmp rfl _ _ _, _, rfl, by exact hRR, hB⟩
  case stop =>
    rintro D c1 pre W _ _ h _
    exact h.elim
end Go.Proofs.Ytbjpjddhkpnofaa
