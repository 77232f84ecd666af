/- plan.Steps: the iterator that it ranges over: for all settings that may be. -/
import Derived.RangeFuncNested
import Derived.RangeFuncBound
import Derived.Shelf.RegionOpen
import Derived.OwnWalkIn
import Derived.LoopNIn
import Derived.LoopIn
import Derived.Test.YtgckcaoncjhgbaaLastIn
import Derived.Test.YtgckcaoncjhgbaaGeoLaw
set_option maxHeartbeats 4000000
set_option maxRecDepth 100000
open Go.Lib (hid)
namespace Go.Proofs.Ytgckcaoncjhgbaa
open Go.RowKit Go.Shelf Go.Proofs.Ytgckcaoncjhgbaa.PG Go.Proofs.YtgckcaoncjhgbaaW.PrintWords Go.Proofs.YtgckcaoncjhgbaaW.PrintLast Go.Proofs.Ytgckcaoncjhgbaa.Geo
attribute [local go_sem] Oper.semAt_some
set_option linter.unusedVariables false
set_option linter.unusedSimpArgs false
def encS (x : S143) : Value := .agg #[.bool x.f0, .int .i64 x.f1, .int .i64 x.f2, .int .i64 x.f3, .int .i64 x.f4]
def xB_ (m u lb : Int) : List S143 :=
  ⟨false, yk_ m (lb / ((m - 1) * u)) (lb % ((m - 1) * u) / u), lb / ((m - 1) * u) * u + lb % u, lb, 1⟩ ::
    if (lb + 1) % ((m - 1) * u) = 0 then [⟨true, lb / ((m - 1) * u) % m, lb / ((m - 1) * u) * u, lb / ((m - 1) * u) * ((m - 1) * u), u⟩] else []
def ks_ (m u lb : Int) (n : Nat) : List S143 := (List.range n).flatMap (fun (i : Nat) => xB_ m u (lb + (i : Int)))
theorem vw_ (m u lb : Int) (n : Nat) : ks_ m u lb (n + 1) = ks_ m u lb n ++ xB_ m u (lb + n) := by
  simp [ks_, List.range_succ, List.flatMap_append]
theorem stepsL_pre (m u lb : Int) {i n : Nat} (h : i <= n) : ks_ m u lb i <+: ks_ m u lb n := by
  induction n with
  | zero => obtain rfl : i = 0 := by omega
            exact List.prefix_refl _
  | succ n ih =>
    by_cases h1 : i <= n
    · rw [vw_]; exact (ih h1).trans (List.prefix_append _ _)
    · obtain rfl : i = n + 1 := by omega
      exact List.prefix_refl _
theorem yp_ (m u lb : Int) {i n : Nat} (h : i < n) {ys : List S143} (hy : ys <+: xB_ m u (lb + i)) : ks_ m u lb i ++ ys <+: ks_ m u lb n :=
  (List.prefix_append_right_inj _ |>.2 hy).trans (by rw [<- vw_]; exact stepsL_pre m u lb h)
def KpS (t1 t2 : TypeId) (W W' : World) : Prop := W.heap.size <= W'.heap.size /\ ∀ (k : Nat) (cs : Array Value) (t : TypeId) (fr : Nat × Nat), t ≠ t1 -> t ≠ t2 -> W.heap[k]? = some (Obj.cells cs t fr) -> W'.heap[k]? = some (Obj.cells cs t fr)
theorem kpS_t {t1 t2 : TypeId} {A B C : World} (h : KpS t1 t2 A B) (k : KpS t1 t2 B C) : KpS t1 t2 A C := ⟨Nat.le_trans h.1 k.1, fun i cs t fr h1 h2 hi => k.2 i cs t fr h1 h2 (h.2 i cs t fr h1 h2 hi)⟩
theorem kpS_b {t1 t2 : TypeId} (W : World) (l : Nat) (o o' : Obj) (h : W.heap[l]? = some o) (hc : o.isCells = false) : KpS t1 t2 W (W.putObj l o') :=
  ⟨by simp, fun k cs t fr _ _ hk => (World.putObj_heap_other (by rintro rfl; rw [h] at hk; cases hk; cases hc)).trans hk⟩
theorem kpS_below {t1 t2 : TypeId} {W W' : World} (h : Below W.heap.size W W') : KpS t1 t2 W W' := ⟨h.size, fun k cs t fr _ _ hk => (h.block k (Array.getElem?_eq_some_iff.1 hk).1).trans hk⟩
theorem grown_of {W W' : World} (h : Below W.heap.size W W') : W.grownBy W' none := ⟨h.os, h.tape, h.output, h.size, fun k hk _ => h.block k hk⟩
theorem World.drew_below (w : World) : Below w.heap.size w w.drew := (Below.refl _ w).drew
theorem abide {β : Type} {B : Nat} {J : β -> World -> Prop} (hJ : AbidesFrom B J) {s : β} {W W' : World} (h : Below W.heap.size W W') (hs : J s W) : J s W' := hJ s W W' none hs (grown_of h) (fun r e => by cases e)
theorem steps1_in (n : Nat) (l Bc Ba Bn : Nat) (id m u b c z s me o a l' : Int) (lb : Int) (cnt : Nat) (J Jx : List S143 -> World -> Prop)
    (hY : ∀ pre x W, J pre W -> pre.length < (ks_ m u lb cnt).length -> YieldAt Fence.wide (n - 1) Try.prog l #[encS x] W fun e W' =>
      (e = .returned (.bool true) /\ J (pre ++ [x]) W' /\ KpS 140 143 W W') \/ (e = .returned (.bool false) /\ Jx (pre ++ [x]) W'))
    (W : World) (hc : W.heap[Bc]? = some (.cells #[.int .i64 id, .int .i64 m, .int .i64 u, .int .i64 b, .int .i64 c, .int .i64 z, .int .i64 s, .int .i64 me, .int .i64 o, .int .i64 a, .int .i64 l'] 23 (0, 0)))
    (ha : W.heap[Ba]? = some (.cells #[.int .i64 lb] 3 (0, 0))) (hcn : W.heap[Bn]? = some (.cells #[.int .i64 cnt] 3 (0, 0)))
    (hJ : AbidesFrom W.heap.size J)
    (hgood : jn_ id m u b c z s me o a l' = 0) (h0 : 0 <= lb) (h2 : lb + cnt <= kg_ m u b c z s me o a l') (hj0 : J [] W) :
    CallsIn Fence.wide n Try.prog 122 #[.func (.yield l) #[] #[], .pointer (some ⟨Bc, 0, none⟩), .pointer (some ⟨Ba, 0, none⟩), .pointer (some ⟨Bn, 0, none⟩)] W fun e W' => (∃ v, e = .returned v) /\
      ((∃ ys, ys = ks_ m u lb cnt /\ J ys W') \/ (∃ pre, pre <+: ks_ m u lb cnt /\ Jx pre W')) := by
  have Hgood := hid hgood
  have HY := hid hY; clear hY
  have HC := hid hc
  have HA := hid ha
  have HN := hid hcn
  have HB : Hid (Below W.heap.size W W) := hid (Below.refl _ _)
  obtain ⟨q0, q1, q2, q3, q4, q5, q6, q7, q8, q9, q10⟩ := cz11 hc
  have hac := Boxed.cell ha
  have hcc := Boxed.cell hcn
  clear hgood hc ha hcn
  refine callsIn_of_wp Try.func122 rfl trivial ?_ rfl
  simp only [Try.ntmps122, List.size_toArray, List.length_cons, List.length_nil, Nat.reduceAdd, Nat.reduceSub, Array.replicate_succ, Array.replicate_zero, List.push_toArray, List.append_toArray, List.nil_append, List.cons_append]
  gi_wp2_with (refine ⟨trivial, fun h => (by cases h), ?_⟩; gi_at_call 107; refine (callsIn_wide.2 (row_any id m u b c z s me o a l' _)).mono ?_; rintro e w1 ⟨rfl, hb1⟩; have HC1 := hid (jb_ HC.out hb1); have HA1 := hid (jb_ HA.out hb1); have HN1 := hid (jb_ HN.out hb1); clear q0 q1 q2 q3 q4 q5 q6 q7 q8 q9 q10 hac hcc; obtain ⟨q0, q1, q2, q3, q4, q5, q6, q7, q8, q9, q10⟩ := cz11 HC1.out; have hac := Boxed.cell HA1.out; have hcc := Boxed.cell HN1.out; have HJ1 := hid (abide hJ hb1 hj0))
  rw [(good Hgood.out).2.1]
  obtain ⟨R, hR⟩ : ∃ R, R = (m - 1) * u := ⟨_, rfl⟩
  rw [<- hR]
  have HR := hid hR; clear hR
  have HB1 := hid hb1; clear hb1
  clear HC HA HN q0 q1 q2 q3 q4 q5 q6 q7 q8 q9 q10 hac hcc HB hj0
  have HSz := hid h2; clear h2
  gi_loopw [6] (fun v6 wr => ∃ i : Nat, v6 = .int .i64 (lb + i) /\ i <= cnt /\ Hid (J (ks_ m u lb i) wr) /\ Hid (wr.heap[Bc]? = some (.cells #[.int .i64 id, .int .i64 m, .int .i64 u, .int .i64 b, .int .i64 c, .int .i64 z, .int .i64 s, .int .i64 me, .int .i64 o, .int .i64 a, .int .i64 l'] 23 (0, 0))) /\ Hid (wr.heap[Ba]? = some (.cells #[.int .i64 lb] 3 (0, 0))) /\ Hid (wr.heap[Bn]? = some (.cells #[.int .i64 cnt] 3 (0, 0))))
    (fun v6 _ => (lb + cnt - intOf v6).toNat)
  case atStart => exact ⟨0, by simp, by omega, hid (by simpa [ks_] using HJ1.out), HC1, HA1, HN1⟩
  case round =>
    clear HJ1 HC1 HA1 HN1
    obtain ⟨i, rfl, hi, HJ, HC, HA, HN⟩ := hrel
    obtain ⟨q0, q1, q2, q3, q4, q5, q6, q7, q8, q9, q10⟩ := cz11 HC.out
    have hac := Boxed.cell HA.out
    have hcc := Boxed.cell HN.out
    obtain ⟨g, _, _, _, gsz⟩ := good Hgood.out
    rw [<- HR.out] at g gsz
    have HG := hid g; clear g
    have HSZ := hid gsz; clear gsz
    have e1 : wrap64 (lb + (cnt : Int)) = lb + cnt := by
      have h1 := HSz.out; have h2 := HSZ.out; have h3 := HG.out.Z2
      exact Geo.wr ⟨by omega, by omega⟩
    have E1 := hid e1; clear e1
    by_cases hlt : i < cnt
    · have c1 : lb + (i : Int) < lb + cnt := by omega
      have hof := Geo.of_ok id m u b c z s me o a l' 1 (Nat.le_refl _) (lb + i) Hgood.out ⟨by omega, by have := HSz.out; omega⟩
      unfold placeP at hof
      rw [<- HR.out] at hof
      obtain ⟨st, hst⟩ : ∃ st, st = (lb + i) / R := ⟨_, rfl⟩
      obtain ⟨un, hun⟩ : ∃ un, un = (lb + i) % R / u := ⟨_, rfl⟩
      obtain ⟨pin, hin⟩ : ∃ pin, pin = (lb + i) % u := ⟨_, rfl⟩
      rw [<- hst, <- hun, <- hin] at hof
      obtain ⟨mb, hmb⟩ : ∃ mb, mb = yk_ m st un := ⟨_, rfl⟩
      obtain ⟨ph, hph⟩ : ∃ ph, ph = st * u + pin := ⟨_, rfl⟩
      rw [<- hmb, <- hph] at hof
      have Hof := hid hof; have Hst := hid hst; have Hun := hid hun; have Hin := hid hin; have Hmb := hid hmb; have Hph := hid hph
      clear hof hst hun hin hmb hph
      rw [<- E1.out] at c1
      gi_wp2_with (refine ⟨trivial, fun h => (by cases h), ?_⟩; gi_at_call 123; refine (callsIn_wide.2 (geom_Of.calls 1 id m u b c z s me o a l' (lb + i) st un pin mb ph true _ Hof.out)).mono ?_; rintro e w2 ⟨rfl, hb2⟩)
      have HB2 := hid (hb2.alloc hb2.size (.cells #[.int .i64 st, .int .i64 un, .int .i64 pin, .int .i64 mb, .int .i64 ph] 163)); clear hb2
      have hx1 : (⟨false, mb, ph, lb + i, 1⟩ : S143) :: (if (lb + i + 1) % R = 0 then [⟨true, st % m, st * u, st * R, u⟩] else []) = xB_ m u (lb + i) := by
        unfold xB_; rw [<- HR.out, <- Hst.out, <- Hun.out, <- Hin.out, <- Hmb.out, <- Hph.out]
      have HX := hid hx1; clear hx1
      have hp1 : ks_ m u lb i ++ [(⟨false, mb, ph, lb + i, 1⟩ : S143)] <+: ks_ m u lb cnt := yp_ m u lb hlt (by rw [<- HX.out]; exact ⟨_, rfl⟩)
      have HP1 := hid hp1; clear hp1
      obtain ⟨fn, tmps, assign, body, hy, hRd⟩ := HY.out (ks_ m u lb i) ⟨false, mb, ph, lb + i, 1⟩ (w2.alloc (.cells #[.int .i64 st, .int .i64 un, .int .i64 pin, .int .i64 mb, .int .i64 ph] 163)) (abide hJ HB2.out HJ.out) (by have := HP1.out.length_le; simp at this; omega)
      dsimp only [encS] at hy
      rw [hy]
      refine ⟨fun h => (by cases h), hRd.mono ?_⟩
      clear hy hRd
      rintro e w3 (⟨rfl, hJ3, hk3⟩ | ⟨rfl, hJx3⟩)
      · have HJ3 := hid hJ3; clear hJ3
        have HP3 := hid (hk3.2 w2.heap.size _ 163 _ (by decide) (by decide) (World.alloc_heap_new w2 _))
        have HC3 := hid (hk3.2 Bc _ _ _ (by decide) (by decide) (jb_ HC.out HB2.out))
        have HA3 := hid (hk3.2 Ba _ _ _ (by decide) (by decide) (jb_ HA.out HB2.out))
        have HN3 := hid (hk3.2 Bn _ _ _ (by decide) (by decide) (jb_ HN.out HB2.out))
        clear hk3
        have e2 : wrap64 (lb + (i : Int) + 1) = lb + i + 1 := by
          have h1 := HSz.out; have h2 := HSZ.out; have h3 := HG.out.Z2
          exact Geo.wr ⟨by omega, by omega⟩
        have hRpos : 0 < R := by have := HG.out.R1; omega
        have e3 : Int.tmod (lb + (i : Int) + 1) R = (lb + i + 1) % R := Int.tmod_eq_emod_of_nonneg (by omega)
        have E2 := hid e2; clear e2; have E3 := hid e3; clear e3
        have hR0 : ¬ R = 0 := by omega
        clear q0 q1 q2 q3 q4 q5 q6 q7 q8 q9 q10 hac hcc c1 hRpos
        gi_wp2
        · rename_i hdiv
          have hne : ¬ (lb + (i : Int) + 1) % R = 0 := by rw [E2.out, E3.out] at hdiv; simpa using hdiv
          refine ⟨⟨i + 1, by rw [E2.out]; push_cast; rw [Int.add_assoc], by omega, hid ?_, HC3, HA3, HN3⟩, ?_⟩
          · rw [vw_, <- HX.out, if_neg hne]; exact HJ3.out
          · rw [E2.out]; simp only [intOf]; omega
        · rename_i hdiv _ _
          have Hdiv := hid hdiv; clear hdiv
          have HS : Hid (w3.drew.heap[Bc]? = some (.cells #[.int .i64 id, .int .i64 m, .int .i64 u, .int .i64 b, .int .i64 c, .int .i64 z, .int .i64 s, .int .i64 me, .int .i64 o, .int .i64 a, .int .i64 l'] 23 (0, 0)) /\ w3.drew.heap[w2.heap.size]? = some (.cells #[.int .i64 st, .int .i64 un, .int .i64 pin, .int .i64 mb, .int .i64 ph] 163 (0, 0))) := hid ⟨HC3.out, HP3.out⟩
          have hpar : geom_Parity.f id m u b c z s me o a l' st = some (st % m) := by
            rw [Geo.parity_eq, if_pos]
            refine ⟨Hgood.out, ?_⟩
            rw [Hst.out]
            have hb := yw_ HG.out (lb := lb + i) (by omega) (by have := HSz.out; rw [HSZ.out] at this; omega)
            exact ⟨hb.1, hb.2.1⟩
          have Hpar := hid hpar; clear hpar
          have hp2 : (ks_ m u lb i ++ [(⟨false, mb, ph, lb + i, 1⟩ : S143)]) ++ [⟨true, st % m, st * u, st * R, u⟩] <+: ks_ m u lb cnt := by
            have he : (lb + (i : Int) + 1) % R = 0 := by have h := Hdiv.out; rw [E2.out, E3.out] at h; simpa using h
            rw [List.append_assoc]
            refine yp_ m u lb hlt ?_
            rw [<- HX.out, if_pos he]
            exact List.prefix_refl _
          have HP2 := hid hp2; clear hp2
          have hb := yw_ HG.out (lb := lb + i) (by omega) (by have := HSz.out; rw [HSZ.out] at this; omega)
          rw [<- Hst.out] at hb
          have E4 : Hid (wrap64 (st * u) = st * u) := hid (Geo.wr ⟨by have := hb.2.2.2.2.2.2.2.2.2.2.2.1; omega, by have := hb.2.2.2.2.2.2.2.2.2.2.2.2.1; omega⟩)
          have E5 : Hid (wrap64 (st * R) = st * R) := hid (Geo.wr ⟨by have := hb.2.2.2.2.2.2.2.2.2.2.2.2.2.1; omega, by have h1 := hb.2.2.2.2.2.2.2.2.2.2.2.2.2.2; have h2 := HSz.out; have h3 := HSZ.out; have h4 := HG.out.Z2; omega⟩)
          clear hb
          refine jE_.start (S := fun w' => w'.heap[Bc]? = some (.cells #[.int .i64 id, .int .i64 m, .int .i64 u, .int .i64 b, .int .i64 c, .int .i64 z, .int .i64 s, .int .i64 me, .int .i64 o, .int .i64 a, .int .i64 l'] 23 (0, 0)) /\ w'.heap[w2.heap.size]? = some (.cells #[.int .i64 st, .int .i64 un, .int .i64 pin, .int .i64 mb, .int .i64 ph] 163 (0, 0))) (ds := [17, 18]) (m := 19) _ (by kernel_rfl) rfl rfl ?_
          refine jE_.take (i := 0) (N := some 39) (v := ?_) (a' := ?_) #[true, false, false, false, false, false, false, false, false, false, false, false, false, false, false, false, false, false, false] rfl rfl rfl (by kernel_rfl) (fun _ _ _ h => h) ⟨Or.inl ⟨by rfl, ?_⟩, fun _ => rfl⟩ HS.out ?_ ?_
          rotate_left
          · rintro w' ⟨s1, s2⟩; obtain ⟨a0, a1, a2, a3, a4, a5, a6, a7, a8, a9, a10⟩ := cz11 s1; obtain ⟨p0, p1, p2, p3, p4⟩ := cz5 s2; go_simp; with_reducible rfl
          rotate_left
          · simp only [Act.put, List.setIfInBounds_toArray, List.set_cons_zero, List.set_cons_succ, kq_]; rfl
          refine jE_.take (i := 1) (N := some 40) (v := ?_) (a' := ?_) #[true, true, false, false, false, false, false, false, false, false, false, false, false, false, false, false, false, false, false] rfl rfl rfl (by kernel_rfl) (fun _ _ _ h => h) ⟨Or.inl ⟨by rfl, ?_⟩, fun _ => rfl⟩ HS.out ?_ ?_
          rotate_left
          · rintro w' ⟨s1, s2⟩; obtain ⟨a0, a1, a2, a3, a4, a5, a6, a7, a8, a9, a10⟩ := cz11 s1; obtain ⟨p0, p1, p2, p3, p4⟩ := cz5 s2; go_simp; with_reducible rfl
          rotate_left
          · simp only [Act.put, List.setIfInBounds_toArray, List.set_cons_zero, List.set_cons_succ, kq_]; rfl
          refine jE_.take (i := 2) (N := some 41) (v := ?_) (a' := ?_) #[true, true, true, false, false, false, false, false, false, false, false, false, false, false, false, false, false, false, false] rfl rfl rfl (by kernel_rfl) (fun _ _ _ h => h) ⟨Or.inl ⟨by rfl, ?_⟩, fun _ => rfl⟩ HS.out ?_ ?_
          rotate_left
          · rintro w' ⟨s1, s2⟩; obtain ⟨a0, a1, a2, a3, a4, a5, a6, a7, a8, a9, a10⟩ := cz11 s1; obtain ⟨p0, p1, p2, p3, p4⟩ := cz5 s2; go_simp; with_reducible rfl
          rotate_left
          · simp only [Act.put, List.setIfInBounds_toArray, List.set_cons_zero, List.set_cons_succ, kq_]; rfl
          refine jE_.take (i := 3) (N := some 42) (v := ?_) (a' := ?_) #[true, true, true, true, false, false, false, false, false, false, false, false, false, false, false, false, false, false, false] rfl rfl rfl (by kernel_rfl) (fun _ _ _ h => h) ⟨Or.inl ⟨by rfl, ?_⟩, fun _ => rfl⟩ HS.out ?_ ?_
          rotate_left
          · rintro w' ⟨s1, s2⟩; obtain ⟨a0, a1, a2, a3, a4, a5, a6, a7, a8, a9, a10⟩ := cz11 s1; obtain ⟨p0, p1, p2, p3, p4⟩ := cz5 s2; go_simp; with_reducible rfl
          rotate_left
          · simp only [Act.put, List.setIfInBounds_toArray, List.set_cons_zero, List.set_cons_succ, kq_]; rfl
          refine jE_.take (i := 5) (N := some 44) (v := ?_) (a' := ?_) #[true, true, true, true, false, true, false, false, false, false, false, false, false, false, false, false, false, false, false] rfl rfl rfl (by kernel_rfl) (fun _ _ _ h => h) ⟨Or.inl ⟨by rfl, ?_⟩, fun _ => rfl⟩ HS.out ?_ ?_
          rotate_left
          · rintro w' ⟨s1, s2⟩; obtain ⟨a0, a1, a2, a3, a4, a5, a6, a7, a8, a9, a10⟩ := cz11 s1; obtain ⟨p0, p1, p2, p3, p4⟩ := cz5 s2; go_simp; with_reducible rfl
          rotate_left
          · simp only [Act.put, List.setIfInBounds_toArray, List.set_cons_zero, List.set_cons_succ, kq_]; rfl
          refine jE_.take (i := 6) (N := some 45) (v := ?_) (a' := ?_) #[true, true, true, true, false, true, true, false, false, false, false, false, false, false, false, false, false, false, false] rfl rfl rfl (by kernel_rfl) (fun _ _ _ h => h) ⟨Or.inl ⟨by rfl, ?_⟩, fun _ => rfl⟩ HS.out ?_ ?_
          rotate_left
          · rintro w' ⟨s1, s2⟩; obtain ⟨a0, a1, a2, a3, a4, a5, a6, a7, a8, a9, a10⟩ := cz11 s1; obtain ⟨p0, p1, p2, p3, p4⟩ := cz5 s2; go_simp; with_reducible rfl
          rotate_left
          · simp only [Act.put, List.setIfInBounds_toArray, List.set_cons_zero, List.set_cons_succ, kq_]; rfl
          refine jE_.take (i := 7) (N := some 46) (v := ?_) (a' := ?_) #[true, true, true, true, false, true, true, true, false, false, false, false, false, false, false, false, false, false, false] rfl rfl rfl (by kernel_rfl) (fun _ _ _ h => h) ⟨Or.inl ⟨by rfl, ?_⟩, fun _ => rfl⟩ HS.out ?_ ?_
          rotate_left
          · rintro w' ⟨s1, s2⟩; obtain ⟨a0, a1, a2, a3, a4, a5, a6, a7, a8, a9, a10⟩ := cz11 s1; obtain ⟨p0, p1, p2, p3, p4⟩ := cz5 s2; go_simp; with_reducible rfl
          rotate_left
          · simp only [Act.put, List.setIfInBounds_toArray, List.set_cons_zero, List.set_cons_succ, kq_]; rfl
          refine jE_.take (i := 8) (N := some 47) (v := ?_) (a' := ?_) #[true, true, true, true, false, true, true, true, true, false, false, false, false, false, false, false, false, false, false] rfl rfl rfl (by kernel_rfl) (fun _ _ _ h => h) ⟨Or.inl ⟨by rfl, ?_⟩, fun _ => rfl⟩ HS.out ?_ ?_
          rotate_left
          · rintro w' ⟨s1, s2⟩; obtain ⟨a0, a1, a2, a3, a4, a5, a6, a7, a8, a9, a10⟩ := cz11 s1; obtain ⟨p0, p1, p2, p3, p4⟩ := cz5 s2; go_simp; with_reducible rfl
          rotate_left
          · simp only [Act.put, List.setIfInBounds_toArray, List.set_cons_zero, List.set_cons_succ, kq_]; rfl
          refine jE_.take (i := 9) (N := some 48) (v := ?_) (a' := ?_) #[true, true, true, true, false, true, true, true, true, true, false, false, false, false, false, false, false, false, false] rfl rfl rfl (by kernel_rfl) (fun _ _ _ h => h) ⟨Or.inl ⟨by rfl, ?_⟩, fun _ => rfl⟩ HS.out ?_ ?_
          rotate_left
          · rintro w' ⟨s1, s2⟩; obtain ⟨a0, a1, a2, a3, a4, a5, a6, a7, a8, a9, a10⟩ := cz11 s1; obtain ⟨p0, p1, p2, p3, p4⟩ := cz5 s2; go_simp; with_reducible rfl
          rotate_left
          · simp only [Act.put, List.setIfInBounds_toArray, List.set_cons_zero, List.set_cons_succ, kq_]; rfl
          refine jE_.take (i := 10) (N := some 49) (v := ?_) (a' := ?_) #[true, true, true, true, false, true, true, true, true, true, true, false, false, false, false, false, false, false, false] rfl rfl rfl (by kernel_rfl) (fun _ _ _ h => h) ⟨Or.inl ⟨by rfl, ?_⟩, fun _ => rfl⟩ HS.out ?_ ?_
          rotate_left
          · rintro w' ⟨s1, s2⟩; obtain ⟨a0, a1, a2, a3, a4, a5, a6, a7, a8, a9, a10⟩ := cz11 s1; obtain ⟨p0, p1, p2, p3, p4⟩ := cz5 s2; go_simp; with_reducible rfl
          rotate_left
          · simp only [Act.put, List.setIfInBounds_toArray, List.set_cons_zero, List.set_cons_succ, kq_]; rfl
          refine jE_.take (i := 11) (N := some 50) (v := ?_) (a' := ?_) #[true, true, true, true, false, true, true, true, true, true, true, true, false, false, false, false, false, false, false] rfl rfl rfl (by kernel_rfl) (fun _ _ _ h => h) ⟨Or.inl ⟨by rfl, ?_⟩, fun _ => rfl⟩ HS.out ?_ ?_
          rotate_left
          · rintro w' ⟨s1, s2⟩; obtain ⟨a0, a1, a2, a3, a4, a5, a6, a7, a8, a9, a10⟩ := cz11 s1; obtain ⟨p0, p1, p2, p3, p4⟩ := cz5 s2; go_simp; with_reducible rfl
          rotate_left
          · simp only [Act.put, List.setIfInBounds_toArray, List.set_cons_zero, List.set_cons_succ, kq_]; rfl
          refine jE_.take (i := 12) (N := some 51) (v := ?_) (a' := ?_) #[true, true, true, true, false, true, true, true, true, true, true, true, true, false, false, false, false, false, false] rfl rfl rfl (by kernel_rfl) (fun _ _ _ h => h) ⟨Or.inl ⟨by rfl, ?_⟩, fun _ => rfl⟩ HS.out ?_ ?_
          rotate_left
          · rintro w' ⟨s1, s2⟩; obtain ⟨a0, a1, a2, a3, a4, a5, a6, a7, a8, a9, a10⟩ := cz11 s1; obtain ⟨p0, p1, p2, p3, p4⟩ := cz5 s2; go_simp; with_reducible rfl
          rotate_left
          · simp only [Act.put, List.setIfInBounds_toArray, List.set_cons_zero, List.set_cons_succ, kq_]; rfl
          refine jE_.take (i := 13) (N := some 52) (v := ?_) (a' := ?_) #[true, true, true, true, false, true, true, true, true, true, true, true, true, true, false, false, false, false, false] rfl rfl rfl (by kernel_rfl) (fun _ _ _ h => h) ⟨Or.inl ⟨by rfl, ?_⟩, fun _ => rfl⟩ HS.out ?_ ?_
          rotate_left
          · rintro w' ⟨s1, s2⟩; obtain ⟨a0, a1, a2, a3, a4, a5, a6, a7, a8, a9, a10⟩ := cz11 s1; obtain ⟨p0, p1, p2, p3, p4⟩ := cz5 s2; go_simp; with_reducible rfl
          rotate_left
          · simp only [Act.put, List.setIfInBounds_toArray, List.set_cons_zero, List.set_cons_succ, kq_]; rfl
          refine jE_.take (i := 14) (N := some 53) (v := ?_) (a' := ?_) #[true, true, true, true, false, true, true, true, true, true, true, true, true, true, true, false, false, false, false] rfl rfl rfl (by kernel_rfl) (fun _ _ _ h => h) ⟨Or.inl ⟨by rfl, ?_⟩, fun _ => rfl⟩ HS.out ?_ ?_
          rotate_left
          · rintro w' ⟨s1, s2⟩; obtain ⟨a0, a1, a2, a3, a4, a5, a6, a7, a8, a9, a10⟩ := cz11 s1; obtain ⟨p0, p1, p2, p3, p4⟩ := cz5 s2; go_simp; with_reducible rfl
          rotate_left
          · simp only [Act.put, List.setIfInBounds_toArray, List.set_cons_zero, List.set_cons_succ, kq_]; rfl
          refine jE_.take (i := 15) (N := some 54) (v := ?_) (a' := ?_) #[true, true, true, true, false, true, true, true, true, true, true, true, true, true, true, true, false, false, false] rfl rfl rfl (by kernel_rfl) (fun _ _ _ h => h) ⟨Or.inl ⟨by rfl, ?_⟩, fun _ => rfl⟩ HS.out ?_ ?_
          rotate_left
          · rintro w' ⟨s1, s2⟩; obtain ⟨a0, a1, a2, a3, a4, a5, a6, a7, a8, a9, a10⟩ := cz11 s1; obtain ⟨p0, p1, p2, p3, p4⟩ := cz5 s2; go_simp; with_reducible rfl
          rotate_left
          · simp only [Act.put, List.setIfInBounds_toArray, List.set_cons_zero, List.set_cons_succ, kq_]; rfl
          refine jE_.one (i := 4) #[true, true, true, true, true, true, true, true, true, true, true, true, true, true, true, true, false, false, false] rfl (by kernel_rfl) (by rfl) (fun K hK => ?_)
          refine ⟨fun _ _ => trivial, ?_⟩
          go_simp
          refine ⟨fun h => (by cases h), (callsIn_wide.2 (geom_Parity.calls id m u b c z s me o a l' st (st % m) _ Hpar.out)).mono ?_⟩
          rintro e w4 ⟨rfl, hb4⟩
          refine hK _ _ (fun _ hs => ⟨jb_ hs.1 hb4, jb_ hs.2 hb4⟩) ?_
          clear hK K
          have HS4 := hid (show _ /\ _ from ⟨jb_ HS.out.1 hb4, jb_ HS.out.2 hb4⟩)
          refine jE_.take (i := 16) (N := some 55) (v := ?_) (a' := ?_) #[true, true, true, true, true, true, true, true, true, true, true, true, true, true, true, true, true, false, false] rfl rfl rfl (by kernel_rfl) (fun _ _ _ h => h) ⟨Or.inl ⟨by rfl, ?_⟩, fun _ => rfl⟩ HS4.out ?_ ?_
          rotate_left
          · intro w' _; go_simp; with_reducible rfl
          rotate_left
          · simp only [Act.put, List.setIfInBounds_toArray, List.set_cons_zero, List.set_cons_succ, kq_]; rfl
          have HJ4 := hid (abide hJ ((World.drew_below w3).trans hb4) HJ3.out)
          obtain ⟨fn2, tmps2, assign2, body2, hy2, hRd2⟩ := HY.out (ks_ m u lb i ++ [⟨false, mb, ph, lb + i, 1⟩]) ⟨true, st % m, st * u, st * R, u⟩ w4 HJ4.out (by have := HP2.out.length_le; simp at this ⊢; omega)
          dsimp only [encS] at hy2
          rw [<- E4.out, <- E5.out] at hy2
          refine jE_.one (i := 17) #[true, true, true, true, true, true, true, true, true, true, true, true, true, true, true, true, true, true, false] rfl (by kernel_rfl) (by rfl) (fun K hK => ?_)
          refine ⟨fun _ _ => trivial, ?_⟩
          go_simp
          refine ⟨fun h => (by cases h), hRd2.mono ?_⟩
          clear hy2 hRd2
          rintro e w5 (⟨rfl, hJ5, hk5⟩ | ⟨rfl, hJx5⟩)
          · refine hK _ _ (fun h => absurd (by decide) h) ?_
            refine jE_.one (i := 18) #[true, true, true, true, true, true, true, true, true, true, true, true, true, true, true, true, true, true, true] rfl (by kernel_rfl) (by rfl) (fun K hK => ?_)
            refine ⟨fun _ _ => trivial, ?_⟩
            go_simp
            refine hK _ _ (fun h => absurd (by decide) h) ?_
            refine jE_.done (by kernel_rfl) ?_
            dsimp only [Exit.then]
            gi_wp2
            have he : (lb + (i : Int) + 1) % R = 0 := by have h := Hdiv.out; rw [E2.out, E3.out] at h; simpa using h
            refine ⟨⟨i + 1, by rw [E2.out]; push_cast; rw [Int.add_assoc], by omega, hid ?_, hid (hk5.2 Bc _ _ _ (by decide) (by decide) HS4.out.1), hid (hk5.2 Ba _ _ _ (by decide) (by decide) (jb_ (w := w3.drew) HA3.out hb4)), hid (hk5.2 Bn _ _ _ (by decide) (by decide) (jb_ (w := w3.drew) HN3.out hb4))⟩, ?_⟩
            · rw [vw_, <- HX.out, if_pos he]; simpa using hJ5
            · rw [E2.out]; simp only [intOf]; omega
          · refine hK _ _ (fun h => absurd (by decide) h) ?_
            refine jE_.one (i := 18) #[true, true, true, true, true, true, true, true, true, true, true, true, true, true, true, true, true, true, true] rfl (by kernel_rfl) (by rfl) (fun K hK => ?_)
            refine ⟨fun _ _ => trivial, ?_⟩
            go_simp
            refine hK _ _ (fun h => absurd (by decide) h) ?_
            refine jE_.done (by kernel_rfl) ?_
            dsimp only [Exit.then]
            gi_wp2
            refine bodyPost_ret (results_none rfl _ _ _) rfl ?_
            exact ⟨⟨_, rfl⟩, .inr ⟨_, HP2.out, hJx5⟩⟩
      · gi_wp2
        refine bodyPost_ret (results_none rfl _ _ _) rfl ?_
        exact ⟨⟨_, rfl⟩, .inr ⟨_, HP1.out, hJx3⟩⟩
    · obtain rfl : i = cnt := by omega
      have c1 : wrap64 (lb + (i : Int)) <= lb + i := by rw [E1.out]; exact Int.le_refl _
      gi_wp2
      go_end0
      exact ⟨⟨_, rfl⟩, .inl ⟨_, rfl, HJ.out⟩⟩
end Go.Proofs.Ytgckcaoncjhgbaa
