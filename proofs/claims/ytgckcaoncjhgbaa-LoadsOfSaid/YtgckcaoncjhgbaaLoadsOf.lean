/- loads.Of: what it collects: for all settings and any numbers. No condition. -/
import Derived.Test.YtgckcaoncjhgbaaFSt
set_option maxHeartbeats 2000000
set_option maxRecDepth 100000
open Go.Lib (hid)
namespace Go.Proofs.Ytgckcaoncjhgbaa
open Go.RowKit Go.Proofs.Ytgckcaoncjhgbaa.PG Go.Proofs.YtgckcaoncjhgbaaW.PrintWords Go.Proofs.YtgckcaoncjhgbaaW.PrintLast Go.Proofs.Ytgckcaoncjhgbaa.Geo
set_option linter.unusedVariables false
set_option linter.unusedSimpArgs false
theorem add_par (T G : Nat) (L : List S134) (c : Nat) (p2 p3 p4 : Int) (i : Nat) (w : World) (hT : w.heap[T]? = some (.cells #[.slice (some ⟨G, 0, none⟩) L.length c] 145 (0, 0))) (hG : w.heap[G]? = some (.cells (jH_ L).toArray 134 (0, 0))) (h1 : i < L.length) (hm : L.length <= 100) :
  Calls Try.prog 94 #[.pointer (some ⟨T, 0, none⟩), .agg #[.bool true, .int .i64 i, .int .i64 p2, .int .i64 p3, .int .i64 p4]] w fun e w' => (∃ v, e = .returned v) /\ w' = ((w.alloc (.cells #[.bool true, .int .i64 i, .int .i64 p2, .int .i64 p3, .int .i64 p4] 143)).drew).setCell ⟨G, i * 2 + 1, none⟩ (.int .i64 (wrap64 ((L.getD i ⟨0, 0⟩).f1 + p4))) := by
 have cT := je_ hT 0
 simp only [List.getElem?_toArray, List.getElem?_cons_zero] at cT
 have HT := hid hT
 have HG := hid hG
 clear hT hG
 generalize hv : (L.getD i ⟨0, 0⟩).f1 = v at *
 have HV := hid hv
 clear hv
 go_enter Try.func94, Try.ntmps94
 go_wp2
 obtain ⟨W, hW⟩ : ∃ W, (w.alloc (.cells #[.bool true, .int .i64 i, .int .i64 p2, .int .i64 p3, .int .i64 p4] 143)) = W := ⟨_, rfl⟩
 have bx := ju_ w (.cells #[.bool true, .int .i64 i, .int .i64 p2, .int .i64 p3, .int .i64 p4] 143)
 rw [hW] at bx
 obtain ⟨x0, x1, x2, x3, x4⟩ := cz5 bx
 have HT1 := hid (ja_ HT.out (.cells #[.bool true, .int .i64 i, .int .i64 p2, .int .i64 p3, .int .i64 p4] 143))
 have HG1 := hid (ja_ HG.out (.cells #[.bool true, .int .i64 i, .int .i64 p2, .int .i64 p3, .int .i64 p4] 143))
 rw [hW] at HT1 HG1
 have cT1 := je_ HT1.out 0
 simp only [List.getElem?_toArray, List.getElem?_cons_zero] at cT1
 have cG1 : W.cell? ⟨G, i * 2 + 1, none⟩ = some (.int .i64 v) := (je_ HG1.out _).trans (by rw [List.getElem?_toArray, (xt_ L i h1).2, HV.out])
 have fG1 := jh_ HG1.out (i * 2 + 1)
 have HW := hid hW
 rw [hW]
 clear hW cT bx
 generalize w.heap.size = BX at *
 refine wp_region_still_tail 14 (by kernel_rfl) (by kernel_rfl) ?_
 simp only [List.take_succ_cons, List.take_zero, List.drop_succ_cons, List.drop_zero]
 change wpStill _ _ W.drew (fun a' => wpList _ _ _ _ a' W.drew) _ _
 replace x0 : W.drew.cell? ⟨BX, 0, none⟩ = _ := x0
 replace x1 : W.drew.cell? ⟨BX, 1, none⟩ = _ := x1
 replace x4 : W.drew.cell? ⟨BX, 4, none⟩ = _ := x4
 replace cT1 : W.drew.cell? ⟨T, 0, none⟩ = _ := cT1
 replace cG1 : W.drew.cell? ⟨G, i * 2 + 1, none⟩ = _ := cG1
 replace fG1 : W.drew.frozen? ⟨G, i * 2 + 1, none⟩ = _ := fG1
 clear x2 x3
 have HW2 : Hid (W.drew = (w.alloc (.cells #[.bool true, .int .i64 i, .int .i64 p2, .int .i64 p3, .int .i64 p4] 143)).drew) := hid (by rw [<- HW.out])
 clear HW HT1 HG1
 generalize W.drew = W2 at *
 repeat still_step
 refine wpStill_nil ?_
 go_wp2
 refine bodyPost_ret (results_none rfl _ _ _) rfl ?_
 exact ⟨⟨_, rfl⟩, by rw [HW2.out]⟩
theorem add_data (T G : Nat) (L : List S134) (c : Nat) (p2 p3 p4 : Int) (i : Nat) (w : World) (hT : w.heap[T]? = some (.cells #[.slice (some ⟨G, 0, none⟩) L.length c] 145 (0, 0))) (hG : w.heap[G]? = some (.cells (jH_ L).toArray 134 (0, 0))) (h1 : i < L.length) (hm : L.length <= 100) :
  Calls Try.prog 94 #[.pointer (some ⟨T, 0, none⟩), .agg #[.bool false, .int .i64 i, .int .i64 p2, .int .i64 p3, .int .i64 p4]] w fun e w' => (∃ v, e = .returned v) /\ w' = ((w.alloc (.cells #[.bool false, .int .i64 i, .int .i64 p2, .int .i64 p3, .int .i64 p4] 143)).drew).setCell ⟨G, i * 2, none⟩ (.int .i64 (wrap64 ((L.getD i ⟨0, 0⟩).f0 + p4))) := by
 have cT := je_ hT 0
 simp only [List.getElem?_toArray, List.getElem?_cons_zero] at cT
 have HT := hid hT
 have HG := hid hG
 clear hT hG
 generalize hv : (L.getD i ⟨0, 0⟩).f0 = v at *
 have HV := hid hv
 clear hv
 go_enter Try.func94, Try.ntmps94
 go_wp2
 obtain ⟨W, hW⟩ : ∃ W, (w.alloc (.cells #[.bool false, .int .i64 i, .int .i64 p2, .int .i64 p3, .int .i64 p4] 143)) = W := ⟨_, rfl⟩
 have bx := ju_ w (.cells #[.bool false, .int .i64 i, .int .i64 p2, .int .i64 p3, .int .i64 p4] 143)
 rw [hW] at bx
 obtain ⟨x0, x1, x2, x3, x4⟩ := cz5 bx
 have HT1 := hid (ja_ HT.out (.cells #[.bool false, .int .i64 i, .int .i64 p2, .int .i64 p3, .int .i64 p4] 143))
 have HG1 := hid (ja_ HG.out (.cells #[.bool false, .int .i64 i, .int .i64 p2, .int .i64 p3, .int .i64 p4] 143))
 rw [hW] at HT1 HG1
 have cT1 := je_ HT1.out 0
 simp only [List.getElem?_toArray, List.getElem?_cons_zero] at cT1
 have cG1 : W.cell? ⟨G, i * 2, none⟩ = some (.int .i64 v) := (je_ HG1.out _).trans (by rw [List.getElem?_toArray, (xt_ L i h1).1, HV.out])
 have fG1 := jh_ HG1.out (i * 2)
 have HW := hid hW
 rw [hW]
 clear hW cT bx
 generalize w.heap.size = BX at *
 refine wp_region_still_tail 14 (by kernel_rfl) (by kernel_rfl) ?_
 simp only [List.take_succ_cons, List.take_zero, List.drop_succ_cons, List.drop_zero]
 change wpStill _ _ W.drew (fun a' => wpList _ _ _ _ a' W.drew) _ _
 replace x0 : W.drew.cell? ⟨BX, 0, none⟩ = _ := x0
 replace x1 : W.drew.cell? ⟨BX, 1, none⟩ = _ := x1
 replace x4 : W.drew.cell? ⟨BX, 4, none⟩ = _ := x4
 replace cT1 : W.drew.cell? ⟨T, 0, none⟩ = _ := cT1
 replace cG1 : W.drew.cell? ⟨G, i * 2, none⟩ = _ := cG1
 replace fG1 : W.drew.frozen? ⟨G, i * 2, none⟩ = _ := fG1
 clear x2 x3
 have HW2 : Hid (W.drew = (w.alloc (.cells #[.bool false, .int .i64 i, .int .i64 p2, .int .i64 p3, .int .i64 p4] 143)).drew) := hid (by rw [<- HW.out])
 clear HW HT1 HG1
 generalize W.drew = W2 at *
 repeat still_step
 refine wpStill_nil ?_
 go_wp2
 go_end0
 exact ⟨⟨_, rfl⟩, by rw [HW2.out]⟩
theorem add_any (T G : Nat) (L : List S134) (c : Nat) (s : S143) (w : World) (hT : w.heap[T]? = some (.cells #[.slice (some ⟨G, 0, none⟩) L.length c] 145 (0, 0))) (hG : w.heap[G]? = some (.cells (jH_ L).toArray 134 (0, 0))) (h0 : 0 <= s.f1) (h1 : s.f1 < L.length) (hm : L.length <= 100) (hTG : T ≠ G) {w0 : World} {B : Nat} (hB : Below B w0 w) (hBs : B <= w.heap.size) (hBG : B <= G) :
  Calls Try.prog 94 #[.pointer (some ⟨T, 0, none⟩), encS s] w fun e w' => (∃ v, e = .returned v) /\ w'.heap[T]? = some (.cells #[.slice (some ⟨G, 0, none⟩) L.length c] 145 (0, 0)) /\ w'.heap[G]? = some (.cells (jH_ (addL L s)).toArray 134 (0, 0)) /\ Below B w0 w' /\ w.heap.size <= w'.heap.size /\ (∀ g o, g ≠ G -> w.heap[g]? = some o -> w'.heap[g]? = some o) := by
 obtain ⟨p0, p1, p2, p3, p4⟩ := s
 obtain ⟨i, rfl⟩ := Int.eq_ofNat_of_zero_le h0
 have hi : i < L.length := by simpa using h1
 have key : ∀ (o : Obj) (k : Nat) (v : Value) (L2 : List S134), (jH_ L).set k v = jH_ L2 -> let w' := ((w.alloc o).drew).setCell ⟨G, k, none⟩ v;
   w'.heap[T]? = some (.cells #[.slice (some ⟨G, 0, none⟩) L.length c] 145 (0, 0)) /\ w'.heap[G]? = some (.cells (jH_ L2).toArray 134 (0, 0)) /\ Below B w0 w' /\ w.heap.size <= w'.heap.size /\ (∀ g o, g ≠ G -> w.heap[g]? = some o -> w'.heap[g]? = some o) := by
  intro o k v L2 e
  refine ⟨jv_ (jd_ (ja_ hT o)) hTG _, ?_, ((hB.alloc hBs o).drew).setCell hBG _, ?_, fun g o' hg h => ?_⟩
  ·
   refine js_ (jd_ (ja_ hG o)) k v ?_
   rw [<- e]; simp
  · simp [World.setCell]
  · exact (Below.heap_setCell _ _ _ _ hg).trans (jd_ (ja_ h o))
 cases p0 with
 | true =>
  refine (add_par T G L c p2 p3 p4 i w hT hG hi hm).mono ?_
  rintro e w' ⟨he, rfl⟩
  refine ⟨he, key _ _ _ _ ?_⟩
  rw [zV_ L _ i hi]; simp [addL]
 | false =>
  refine (add_data T G L c p2 p3 p4 i w hT hG hi hm).mono ?_
  rintro e w' ⟨he, rfl⟩
  refine ⟨he, key _ _ _ _ ?_⟩
  rw [zW_ L _ i hi]; simp [addL]
theorem made_cells (m : Nat) : madeCells (Value.agg #[.int .i64 0, .int .i64 0]).cells (m * 2) = (jH_ (List.replicate m ⟨0, 0⟩)).toArray := by
 have e : (Value.agg #[.int .i64 0, .int .i64 0]).cells = #[.int .i64 0, .int .i64 0] := by rfl
 rw [e]
 apply Array.ext
 · rw [size_madeCells, List.size_toArray, kz_, List.length_replicate]
 ·
  intro k h1 h2
  have hk : k / 2 < (List.replicate m (⟨0, 0⟩ : S134)).length := by rw [size_madeCells] at h1; simp; omega
  have := xt_ (List.replicate m ⟨0, 0⟩) (k / 2) hk
  have e1 : (List.replicate m (⟨0, 0⟩ : S134)).getD (k / 2) ⟨0, 0⟩ = ⟨0, 0⟩ := by
   rw [List.getD_eq_getElem?_getD, List.getElem?_eq_getElem hk]; simp
  rw [e1] at this
  have hl : (jH_ (List.replicate m (⟨0, 0⟩ : S134)))[k]? = some (.int .i64 0) := by
   rcases Nat.mod_two_eq_zero_or_one k with h | h
   · rw [show k = k / 2 * 2 by omega]; simpa using this.1
   · rw [show k = k / 2 * 2 + 1 by omega]; simpa using this.2
  have h3 : (jH_ (List.replicate m (⟨0, 0⟩ : S134))).toArray[k] = .int .i64 0 := by
   rw [List.getElem_toArray]
   exact (List.getElem?_eq_some_iff.1 hl).2
  rw [h3]
  simp only [madeCells, Array.getElem_map, Array.getElem_range]
  rcases Nat.mod_two_eq_zero_or_one k with h | h <;> simp [h]
theorem repsL {w : World} {base : Nat} {ok : Nat -> Prop} (L : List S134) : Reps (k134.M w base ok) 2 L (jH_ L) := by
 refine ⟨kz_ L, fun j p hj => ?_⟩
 obtain ⟨hjl, hp⟩ := List.getElem?_eq_some_iff.1 hj
 have := xt_ L j hjl
 have e : L.getD j ⟨0, 0⟩ = p := by rw [List.getD_eq_getElem?_getD, hj]; rfl
 rw [e] at this
 have e2 : ((jH_ L).drop (j * 2)).take 2 = [.int .i64 p.f0, .int .i64 p.f1] := by
  have hl := kz_ L
  apply List.ext_getElem?
  intro q
  rw [List.getElem?_take]
  match q with
  | 0 => simpa using this.1
  | 1 => simpa [List.getElem?_drop] using this.2
  | q + 2 => simp; omega
 rw [e2]
 exact xZ_ _ _ _ p
theorem row_R {w : World} {G c base : Nat} (L : List S134) (hG : w.heap[G]? = some (.cells (jH_ L).toArray 134 (0, 0))) (hb : base <= G) (hc : c = L.length) (hm : c <= maxLen) : Kd.R k134 134 w base (fun _ => True) (.slice (some ⟨G, 0, none⟩) L.length c) L := by
 subst hc
 refine ⟨fun _ _ => trivial, jH_ L, ⟨kz_ L, .inr ⟨G, L.length, (jH_ L).toArray, rfl, hb, hG, Nat.le_refl _, hm, by simp [kz_]; rfl, ?_⟩⟩, repsL L⟩
 rw [List.take_of_length_le]
 show (jH_ L).length <= L.length * 2
 rw [kz_]; exact Nat.le_refl _
def Started (m : Nat) (w : World) (e : Ending) (w' : World) : Prop := ∃ T G : Nat, e = .returned (.tuple #[.pointer (some ⟨T, 0, none⟩), .bool true]) /\ w'.heap[T]? = some (.cells #[.slice (some ⟨G, 0, none⟩) m m] 145 (0, 0)) /\ w'.heap[G]? = some (.cells (jH_ (List.replicate m ⟨0, 0⟩)).toArray 134 (0, 0)) /\ T ≠ G /\ w.heap.size <= T /\ w.heap.size <= G /\ Below w.heap.size w w'
theorem start_yes (id m u b c z s me o a l : Int) (w : World) (h : jn_ id m u b c z s me o a l = 0) : Calls Try.prog 93 #[.agg #[.int .i64 id, .int .i64 m, .int .i64 u, .int .i64 b, .int .i64 c, .int .i64 z, .int .i64 s, .int .i64 me, .int .i64 o, .int .i64 a, .int .i64 l]] w (Started m.toNat w) := by
 have hq : conf_Check.f id m u b c z s me o a l = some 0 := by unfold conf_Check.f; rw [h]
 have g := (good h).1
 have m1 := g.m1; have m2 := g.m2
 obtain ⟨i0, hi, hz0, hz1, hz2⟩ := info_parts info134
 have hmk : ∀ W : World, (Instr.makeSlice 97 (.int .i64 m) (.int .i64 m)).run Try.prog W = .ok (.slice (some ⟨W.heap.size, 0, none⟩) m.toNat m.toNat) (W.alloc (.cells (jH_ (List.replicate m.toNat ⟨0, 0⟩)).toArray 134)) := by
  intro W
  have := run_make (P := Try.prog) (w := W) 97 134 i0 _ Try.underlying97 hi hz0 .i64 .i64 m m (by omega) (by omega) (by rw [hz2]; omega) (by omega)
  rw [hz1] at this
  rw [this, made_cells]
 have HMK := hid hmk
 have HQ := hid hq
 clear h hq g m1 m2 hi hz0 hz1 hz2 hmk
 go_enter Try.func93, Try.ntmps93
 go_wp2_with fail
 refine (conf_Check.calls id m u b c z s me o a l 0 _ HQ.out).mono ?_
 rintro e w1 ⟨rfl, hb1⟩
 obtain ⟨q0, q1, q2, q3, q4, q5, q6, q7, q8, q9, q10⟩ := cz11 (jb_ (ju_ w (.cells #[.int .i64 id, .int .i64 m, .int .i64 u, .int .i64 b, .int .i64 c, .int .i64 z, .int .i64 s, .int .i64 me, .int .i64 o, .int .i64 a, .int .i64 l] 23)) hb1)
 have HB1 := hid (jc_ (jg_ (Below.refl _ w) (.cells #[.int .i64 id, .int .i64 m, .int .i64 u, .int .i64 b, .int .i64 c, .int .i64 z, .int .i64 s, .int .i64 me, .int .i64 o, .int .i64 a, .int .i64 l] 23)) hb1)
 clear hb1
 have hmk := HMK.out w1
 go_wp2
 go_ret2
 refine ⟨w1.heap.size + 1, w1.heap.size, rfl, ?_, ja_ (ju_ w1 _) _, by omega, by have := HB1.out.size; omega, HB1.out.size, jg_ (jg_ HB1.out _) _⟩
 have := ju_ (w1.alloc (.cells (jH_ (List.replicate m.toNat ⟨0, 0⟩)).toArray 134)) (.cells #[.slice (some ⟨w1.heap.size, 0, none⟩) m.toNat m.toNat] 145)
 rw [World.size_alloc] at this
 exact this
theorem start_no (id m u b c z s me o a l : Int) (w : World) (h : ¬ jn_ id m u b c z s me o a l = 0) : Calls Try.prog 93 #[.agg #[.int .i64 id, .int .i64 m, .int .i64 u, .int .i64 b, .int .i64 c, .int .i64 z, .int .i64 s, .int .i64 me, .int .i64 o, .int .i64 a, .int .i64 l]] w fun e w' => e = .returned (.tuple #[.pointer none, .bool false]) /\ Below w.heap.size w w' := by
 obtain ⟨r, hr⟩ : ∃ r, r = jn_ id m u b c z s me o a l := ⟨_, rfl⟩
 have hq : conf_Check.f id m u b c z s me o a l = some r := by unfold conf_Check.f; rw [hr]
 rw [<- hr] at h
 have e1 : (r == 0) = false := beq_eq_false_iff_ne.mpr h
 have e2 : (r != 0) = true := bne_iff_ne.mpr h
 have HQ := hid hq
 clear hq hr
 go_enter Try.func93, Try.ntmps93
 go_wp2_with fail
 refine (conf_Check.calls id m u b c z s me o a l r _ HQ.out).mono ?_
 rintro e w1 ⟨rfl, hb1⟩
 have HB1 := hid (jc_ (jg_ (Below.refl _ w) (.cells #[.int .i64 id, .int .i64 m, .int .i64 u, .int .i64 b, .int .i64 c, .int .i64 z, .int .i64 s, .int .i64 me, .int .i64 o, .int .i64 a, .int .i64 l] 23)) hb1)
 clear hb1
 go_wp2
 go_ret2
 exact ⟨rfl, HB1.out⟩
theorem addL_foldl_len (xs : List S143) : ∀ L, (xs.foldl addL L).length = L.length := by
 induction xs with
 | nil => intro L; rfl
 | cons x xs ih => intro L; rw [List.foldl_cons, ih, addL_len]
theorem vh_ {id m u b c z s me o a l : Int} (h : jn_ id m u b c z s me o a l = 0) (at1 n1 : Int) : ∀ x ∈ kP_ id m u b c z s me o a l at1 n1, 0 <= x.f1 /\ x.f1 < m := by
 have m1 := (good h).1.m1
 intro x hx
 unfold kP_ at hx
 split at hx
 ·
  unfold ks_ at hx
  rw [List.mem_flatMap] at hx
  obtain ⟨i, _, hx⟩ := hx
  have p1 : ∀ q : Int, 0 <= q % m /\ q % m < m := fun q => ⟨Int.emod_nonneg _ (by omega), Int.emod_lt_of_pos _ (by omega)⟩
  unfold xB_ at hx
  rcases List.mem_cons.1 hx with rfl | hx
  · exact p1 _
  ·
   split at hx
   · obtain rfl := List.mem_singleton.1 hx; exact p1 _
   · cases hx
 · cases hx
theorem yl_ (id m u b c z s me o a l : Int) (at1 n1 : Int) (w : World) :
  Calls Try.prog 48 #[.agg #[.int .i64 id, .int .i64 m, .int .i64 u, .int .i64 b, .int .i64 c, .int .i64 z, .int .i64 s, .int .i64 me, .int .i64 o, .int .i64 a, .int .i64 l], .int .i64 at1, .int .i64 n1] w fun e w' =>
   ∃ v0_ : Value, e = .returned v0_ /\ Kd.R k134 134 w' w.heap.size (fun _ => True) v0_ (loadsOf id m u b c z s me o a l at1 n1) /\ Below w.heap.size w w' := by
 by_cases h : jn_ id m u b c z s me o a l = 0
 ·
  have e0 : loadsOf id m u b c z s me o a l at1 n1 = (kP_ id m u b c z s me o a l at1 n1).foldl addL (List.replicate m.toNat ⟨0, 0⟩) := by unfold loadsOf; rw [if_pos h]
  have hmem := vh_ h at1 n1
  have hst := start_yes id m u b c z s me o a l
  obtain ⟨xs, hxs⟩ : ∃ xs, xs = kP_ id m u b c z s me o a l at1 n1 := ⟨_, rfl⟩
  have hq : plan_Steps.f id m u b c z s me o a l at1 n1 = some xs := by unfold plan_Steps.f; rw [hxs]
  rw [<- hxs] at e0 hmem
  have m1 := (good h).1.m1; have m2 := (good h).1.m2
  obtain ⟨M, hM⟩ : ∃ M : Nat, m = M := ⟨m.toNat, by omega⟩
  obtain ⟨L0, hL0⟩ : ∃ L0 : List S134, L0 = List.replicate m.toNat ⟨0, 0⟩ := ⟨_, rfl⟩
  have hlen0 : L0.length = M := by rw [hL0, List.length_replicate]; omega
  have hlen : ∀ k, ((xs.take k).foldl addL L0).length = M := fun k => by rw [addL_foldl_len, hlen0]
  have hsize : M <= 16 := by omega
  have HST := hid (fun w => hst w h)
  have HE := hid e0
  have HQ := hid hq
  have HL0 := hid hL0
  have HLEN := hid hlen
  have HMEM := hid hmem
  have HM := hid hM
  clear hst e0 hq hL0 hlen hmem h hxs hlen0 hM m1 m2
  go_enter Try.func48, Try.ntmps48
  go_wp2_with fail
  refine (HST.out _).mono ?_
  rintro e w1 ⟨T, G, rfl, hT, hG, hTG, hgT, hgG, hb1⟩
  have hmM : m.toNat = M := by have := HM.out; omega
  rw [<- HL0.out] at hG
  rw [hmM] at hT
  obtain ⟨q0, q1, q2, q3, q4, q5, q6, q7, q8, q9, q10⟩ := cz11 (jb_ (ju_ w (.cells #[.int .i64 id, .int .i64 m, .int .i64 u, .int .i64 b, .int .i64 c, .int .i64 z, .int .i64 s, .int .i64 me, .int .i64 o, .int .i64 a, .int .i64 l] 23)) hb1)
  have HB1 := hid (jc_ (jg_ (Below.refl _ w) (.cells #[.int .i64 id, .int .i64 m, .int .i64 u, .int .i64 b, .int .i64 c, .int .i64 z, .int .i64 s, .int .i64 me, .int .i64 o, .int .i64 a, .int .i64 l] 23)) hb1)
  have HT := hid hT
  have HG := hid hG
  have HTG := hid hTG
  have hwG : w.heap.size <= G := by have := hgG; simp at this; omega
  have HWG := hid hwG
  have HGl := hid (jX_ hG)
  clear hT hG hTG hgT hgG hb1 hwG
  go_wp2_with fail
  refine (plan_Steps.calls id m u b c z s me o a l at1 n1 xs _ HQ.out).mono ?_
  rintro e w2 ⟨v0, rfl, hR, hb2⟩
  obtain ⟨A, cA, rfl, hcA, hC⟩ := Kd.R_reads hR
  replace HT := hid (jb_ HT.out hb2)
  replace HG := hid (jb_ HG.out hb2)
  replace HB1 := hid (jc_ HB1.out hb2)
  have HR := hid (Kd.R_mono (ok' := fun k => w1.heap.size <= k) (Kd.R_bound hR) (fun k hk => hk.2.1))
  have hlx : xs.length <= 9223372036854775807 := Kd.C_max hC
  have HLX := hid hlx
  clear hR hb2 hcA hC hmM q0 q1 q2 q3 q4 q5 q6 q7 q8 q9 q10
  go_wp2
  go_loopw [26] (fun v26 wr => ∃ i : Nat, v26 = .int .i64 i /\ i <= xs.length /\ Hid (wr.heap[T]? = some (.cells #[.slice (some ⟨G, 0, none⟩) M M] 145 (0, 0))) /\ Hid (wr.heap[G]? = some (.cells (jH_ ((xs.take i).foldl addL L0)).toArray 134 (0, 0))) /\ Hid (Below w.heap.size w wr) /\ Hid (Kd.R k143 143 wr w1.heap.size (fun k => w1.heap.size <= k) (.slice A xs.length cA) xs)) (fun v26 _ => xs.length - (intOf v26).toNat)
  case atStart => exact ⟨0, rfl, by omega, HT, hid (by simpa using HG.out), HB1, HR⟩
  case round =>
   clear HT HG HB1 HR
   obtain ⟨i, rfl, hi, HT, HG, HB, HR⟩ := hrel
   by_cases hlt : i < xs.length
   ·
    obtain ⟨ad, ea, c0, c1, c2, c3, c4⟩ := xN_ (Kd.R_reads' HR.out).2.2 (i : Int) (by omega) (by omega)
    cases ea
    simp only [Int.toNat_natCast] at c0 c1 c2 c3 c4
    have HMEMi := hid (HMEM.out (kt_ xs (i : Int)) (by
     unfold kt_
     rw [Int.toNat_natCast, List.getD_eq_getElem?_getD, List.getElem?_eq_getElem hlt]
     exact List.getElem_mem _))
    have htk : xs.take (i + 1) = xs.take i ++ [kt_ xs (i : Int)] := by
     rw [List.take_succ_eq_append_getElem hlt]
     unfold kt_
     rw [Int.toNat_natCast, List.getD_eq_getElem?_getD, List.getElem?_eq_getElem hlt]; rfl
    have HTK := hid htk
    clear htk
    obtain ⟨sx, hsx⟩ : ∃ sx, sx = kt_ xs (i : Int) := ⟨_, rfl⟩
    rw [<- hsx] at c0 c1 c2 c3 c4 HMEMi HTK
    clear hsx
    go_wp2_with fail
    refine (add_any T G ((xs.take i).foldl addL L0) M sx _ (by rw [HLEN.out]; exact ja_ HT.out _) (ja_ HG.out _) HMEMi.out.1 (by rw [HLEN.out, <- HM.out]; exact HMEMi.out.2) (by rw [HLEN.out]; omega) HTG.out (jg_ HB.out _) (Nat.le_trans HB.out.size (by simp)) HWG.out).mono ?_
    rintro e w3 ⟨⟨ve, rfl⟩, hT3, hG3, hB3, hs3, hk3⟩
    rw [HLEN.out] at hT3
    have HT3 := hid hT3
    have HG3 := hid hG3
    have HB3 := hid hB3
    have hR3 : Kd.R k143 143 w3 w1.heap.size (fun k => w1.heap.size <= k) (.slice (some ad) xs.length cA) xs := by
     refine Kd.R_step (Kd.R_alloc HR.out (.cells #[.bool sx.f0, .int .i64 sx.f1, .int .i64 sx.f2, .int .i64 sx.f3, .int .i64 sx.f4] 143)) (fun k hk hlt' => ?_)
     have hne : k ≠ G := by have := HGl.out; omega
     obtain ⟨ob, hob⟩ : ∃ ob, (wr.alloc (.cells #[.bool sx.f0, .int .i64 sx.f1, .int .i64 sx.f2, .int .i64 sx.f3, .int .i64 sx.f4] 143)).heap[k]? = some ob := ⟨_, Array.getElem?_eq_getElem hlt'⟩
     rw [hob]; exact hk3 k ob hne hob
    have HR3 := hid hR3
    clear hT3 hG3 hB3 hs3 hk3 hR3 c0 c1 c2 c3 c4 HT HG HB HR
    go_wp2
    go_roundw
    case rel =>
     refine ⟨i + 1, by go_num, by omega, HT3, hid ?_, HB3, HR3⟩
     rw [HTK.out, List.foldl_append]; exact HG3.out
    case measure => simp [intOf]; omega
   ·
    obtain rfl : i = xs.length := by omega
    have cT := je_ HT.out 0
    simp only [List.getElem?_toArray, List.getElem?_cons_zero] at cT
    go_wp2
    go_ret
    refine ⟨_, rfl, ?_, HB.out⟩
    rw [HE.out, <- HL0.out]
    have hg := HG.out
    have hl := HLEN.out xs.length
    rw [List.take_of_length_le (Nat.le_refl _)] at hg hl
    rw [<- hl]
    exact row_R _ hg HWG.out rfl (by rw [hl]; unfold maxLen; omega)
 ·
  have e0 : loadsOf id m u b c z s me o a l at1 n1 = [] := by unfold loadsOf; rw [if_neg h]
  have HE := hid e0
  have HST := hid (fun w => start_no id m u b c z s me o a l w h)
  clear e0 h
  go_enter Try.func48, Try.ntmps48
  go_wp2_with fail
  refine (HST.out _).mono ?_
  rintro e w1 ⟨rfl, hb1⟩
  have HB1 := hid (jc_ (jg_ (Below.refl _ w) (.cells #[.int .i64 id, .int .i64 m, .int .i64 u, .int .i64 b, .int .i64 c, .int .i64 z, .int .i64 s, .int .i64 me, .int .i64 o, .int .i64 a, .int .i64 l] 23)) hb1)
  clear hb1
  go_wp2
  go_ret
  exact ⟨_, rfl, by rw [HE.out]; exact Kd.R_nil _ _ _ _ _, HB1.out⟩
end Go.Proofs.Ytgckcaoncjhgbaa
