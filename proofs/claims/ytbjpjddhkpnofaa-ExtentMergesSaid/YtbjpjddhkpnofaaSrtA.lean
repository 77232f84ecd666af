/- The rows that a sort turns: the world about them, and one exchange, one comparison. -/
import Derived.Shelf.SlSortFuncK.RowK2
import Derived.Shelf.SlSortCmp.QuietGrown
import Derived.Deep.LoopGhost
import Derived.Below
import Derived.Lib.Hide
import Derived.Deep.CutBlock
import Derived.Sort.WalkA
import Derived.Test.YtbjpjddhkpnofaaProg
import Derived.Test.YtbjpjddhkpnofaaStab
namespace Go.Proofs.Ytbjpjddhkpnofaa
open Go.Shelf Go.RowKit Go.Lib Go.Sort Go.Proofs.Stab
set_option linter.unusedVariables false
set_option linter.unusedSimpArgs false
set_option linter.unusedSectionVars false
variable {P : Program} {α : Type} [Inhabited α] {enc : α → List Value} {k : Nat} {w0 W : World} {blk off : Nat} {d : Array α}
/-- w0 with the row's cells turned to d, and with more behind it. -/
structure SW (enc : α → List Value) (k : Nat) (w0 : World) (blk off : Nat) (d : Array α) (W : World) : Prop where
  os : W.os = w0.os
  tape : W.tape = w0.tape
  output : W.output = w0.output
  size : w0.heap.size ≤ W.heap.size
  block : ∀ b, b < w0.heap.size → b ≠ blk → W.heap[b]? = w0.heap[b]?
  own : ∃ cs cs' t fr, w0.heap[blk]? = some (Obj.cells cs t fr) ∧ W.heap[blk]? = some (.cells cs' t fr) ∧ cs'.size = cs.size
  holds : HoldsK enc k W blk off d
structure RK (enc : α → List Value) (k : Nat) : Prop where
  hk : ∀ x, (enc x).length = k
  h1 : ∀ x, ∀ v ∈ enc x, v.oneCell' = true
theorem SW.lt (S : SW enc k w0 blk off d W) : blk < W.heap.size := by
  obtain ⟨_, _, _, _, _, h, _⟩ := S.own
  exact (Array.getElem?_eq_some_iff.1 h).1
theorem cell_blk {w w' : World} {a : Addr} (h : w'.heap[a.block]? = w.heap[a.block]?) : w'.cell? a = w.cell? a := by simp only [World.cell?, h]
theorem frozen_blk {w w' : World} {a : Addr} (h : w'.heap[a.block]? = w.heap[a.block]?) : w'.frozen? a = w.frozen? a := by simp only [World.frozen?, h]
theorem holds_blk {w w' : World} (h : w'.heap[blk]? = w.heap[blk]?) (hH : HoldsK enc k w blk off d) : HoldsK enc k w' blk off d := fun j hj => by
  rw [cell_blk (a := ⟨blk, off + j, none⟩) h, frozen_blk (a := ⟨blk, off + j, none⟩) h]; exact hH j hj
/-- A world that has W below it. -/
structure Bel (W : World) where
  v : World
  h : Below W.heap.size W v
instance : Inhabited (Bel W) := ⟨⟨W, Below.refl _ W⟩⟩
theorem SW.bel (S : SW enc k w0 blk off d W) (p : Bel W) : SW enc k w0 blk off d p.v := by
  have hb := p.h.block blk S.lt
  obtain ⟨cs, cs', t, fr, h1, h2, h3⟩ := S.own
  exact ⟨p.h.os.trans S.os, p.h.tape.trans S.tape, p.h.output.trans S.output, Nat.le_trans S.size p.h.size, fun b hb hne => (p.h.block b (Nat.lt_of_lt_of_le hb S.size)).trans (S.block b hb hne), ⟨cs, cs', t, fr, h1, hb.trans h2, h3⟩, holds_blk hb S.holds⟩
theorem SW.below {w' : World} (S : SW enc k w0 blk off d W) (h : Below W.heap.size W w') : SW enc k w0 blk off d w' := S.bel ⟨w', h⟩
theorem SW.drew (S : SW enc k w0 blk off d W) : SW enc k w0 blk off d W.drew := S.below (Below.refl _ W).drew
theorem wp_region_bel {id : Nat} {Q : Exit → Act → World → Prop} {a : Act} {l : List Oper} (hm : P.follows .mixedOrders = true) (hB : Region.lexB .any l.toArray = true)
    (h : wpQuiet P l.toArray (fun w' => ∃ p : Bel W, w' = p.v) (fun a' => ∀ w', (∃ p : Bel W, w' = p.v) → Q .normal a' w') l a) : (Code.region id l.toArray true).wp P Q a W :=
  wp_region_quiet (C := fun w' => ∃ p : Bel W, w' = p.v) hm hB ⟨⟨W.drew, (Below.refl _ W).drew⟩, rfl⟩ (by simpa using h)
theorem Calls.bel_of {f : FuncId} {args : Array Value} {v : Value} {p : Bel W} (h : Calls P f args p.v fun e w' => e = .returned v ∧ Below p.v.heap.size p.v w') :
    Calls P f args p.v fun e w'' => e = .returned v ∧ ∃ q : Bel W, w'' = q.v := h.mono fun _ w' ⟨he, hb⟩ => ⟨he, ⟨w', p.h.trans (hb.mono p.h.size)⟩, rfl⟩
theorem row_bnd (d : Array α) (k x : Nat) (hx : x < d.size) : x * k + k ≤ d.size * k := by
  have := Nat.mul_le_mul_right k (show x + 1 ≤ d.size from hx); rwa [Nat.add_mul, Nat.one_mul] at this
theorem SW.load (S : SW enc k w0 blk off d W) (R : RK enc k) (P : Program) (i : Nat) (hi : i < d.size) :
    Sem.run P (loadCellsFrom ⟨blk, off + i * k, none⟩ 0 k #[]) W = .ok (enc d[i]!).toArray W := by
  have := run_loadCells_list (P := P) (w := W) ⟨blk, off + i * k, none⟩ (enc d[i]!) (fun c v hv => by
    have hc : c < k := by have := (List.getElem?_eq_some_iff.1 hv).1; rwa [R.hk] at this
    rw [Addr.add_lit, (S.holds.cell hi hc).1, getElem!_pos (enc d[i]!) c (by rw [R.hk]; exact hc)]
    rw [List.getElem?_eq_getElem (by rw [R.hk]; exact hc)] at hv
    exact hv)
  rw [R.hk] at this
  simpa [loadCells] using this
theorem SW.ld (S : SW enc k w0 blk off d W) (R : RK enc k) (P : Program) (i : Nat) (hi : i < d.size) (p : Bel W) :
    Sem.run P (loadCellsFrom ⟨blk, off + i * k, none⟩ 0 k #[]) p.v = .ok (enc d[i]!).toArray p.v := (S.bel p).load R P i hi
theorem setCells_os (b : Nat) : ∀ (vs : List Value) (o : Nat) (w : World), (w.setCells b o vs).os = w.os ∧ (w.setCells b o vs).tape = w.tape ∧ (w.setCells b o vs).output = w.output ∧ (w.setCells b o vs).heap.size = w.heap.size ∧ ∀ c, c ≠ b → (w.setCells b o vs).heap[c]? = w.heap[c]?
  | [], _, _ => ⟨rfl, rfl, rfl, rfl, fun _ _ => rfl⟩
  | v :: r, o, w => by
    obtain ⟨h1, h2, h3, h4, h5⟩ := setCells_os b r (o + 1) (w.setCell ⟨b, o, none⟩ v)
    refine ⟨h1.trans rfl, h2.trans rfl, h3.trans rfl, h4.trans (by simp), fun c hc => (h5 c hc).trans ?_⟩
    simp [World.setCell, Array.getElem?_modify, Ne.symm hc]
theorem setCells_own (b : Nat) : ∀ (vs : List Value) (o : Nat) (w : World) (cs : Array Value) (t : TypeId) (fr : Nat × Nat), w.heap[b]? = some (.cells cs t fr) → ∃ cs', (w.setCells b o vs).heap[b]? = some (.cells cs' t fr) ∧ cs'.size = cs.size
  | [], _, _, cs, _, _, h => ⟨cs, h, rfl⟩
  | v :: r, o, w, cs, t, fr, h => by
    obtain ⟨cs', h1, h2⟩ := setCells_own b r (o + 1) (w.setCell ⟨b, o, none⟩ v) (cs.setIfInBounds o v) t fr (by simp [World.setCell, Array.getElem?_modify, h])
    exact ⟨cs', h1, h2.trans (by simp)⟩
theorem holds_setCells {F : Array Value} (h : Holds id W blk off F) (s : Nat) (vs : List Value) (hs : s + vs.length ≤ F.size) : Holds id (W.setCells blk (off + s) vs) blk off (setMany F s vs) := by
  have e : W.setCells blk (off + s) vs = putRow id W blk off (setMany F s vs) := by
    rw [← setCells_putRow W blk off vs s F hs, putRow_self id W blk off F h]
  rw [e]; exact holds_putRow id W blk off F _ h (by simp)
theorem store_holds (P : Program) {F : Array Value} (h : Holds id W blk off F) (s : Nat) (vs : List Value) (hs : s + vs.length ≤ F.size) (h1 : ∀ v ∈ vs, v.oneCell' = true) :
    Sem.run P (storeCells ⟨blk, off + s, none⟩ vs 0) W = .ok () (W.setCells blk (off + s) vs) := by
  have := run_storeCells_cells (P := P) blk (off + s) vs 0 W (fun c hc => by rw [Nat.add_zero, Nat.add_assoc, (h (s + c) (by omega)).1]; rfl) (fun c hc => by rw [Nat.add_zero, Nat.add_assoc]; exact (h (s + c) (by omega)).2) h1
  rwa [Nat.add_zero] at this
theorem SW.st1 (S : SW enc k w0 blk off d W) (R : RK enc k) (P : Program) (i : Nat) (hi : i < d.size) (y : α) :
    Sem.run P (storeCells ⟨blk, off + i * k, none⟩ (enc y) 0) W = .ok () (W.setCells blk (off + i * k) (enc y)) :=
  store_holds P S.holds (i * k) _ (by rw [R.hk, size_flatK]; exact row_bnd d k i hi) (R.h1 _)
theorem SW.st2 (S : SW enc k w0 blk off d W) (R : RK enc k) (P : Program) (i j : Nat) (hi : i < d.size) (hj : j < d.size) (y x : α) :
    Sem.run P (storeCells ⟨blk, off + j * k, none⟩ (enc x) 0) (W.setCells blk (off + i * k) (enc y)) = .ok () ((W.setCells blk (off + i * k) (enc y)).setCells blk (off + j * k) (enc x)) :=
  store_holds P (holds_setCells S.holds (i * k) _ (by rw [R.hk, size_flatK]; exact row_bnd d k i hi)) (j * k) _ (by rw [R.hk, size_setMany, size_flatK]; exact row_bnd d k j hj) (R.h1 _)
theorem SW.put {d' : Array α} (S : SW enc k w0 blk off d W) (o : Nat) (vs : List Value) (h : HoldsK enc k (W.setCells blk o vs) blk off d') : SW enc k w0 blk off d' (W.setCells blk o vs) := by
  obtain ⟨h1, h2, h3, h4, h5⟩ := setCells_os blk vs o W
  obtain ⟨cs, cs', t, fr, e1, e2, e3⟩ := S.own
  obtain ⟨c2, e4, e5⟩ := setCells_own blk vs o W cs' t fr e2
  exact ⟨h1.trans S.os, h2.trans S.tape, h3.trans S.output, by rw [h4]; exact S.size, fun b hb hne => (h5 b hne).trans (S.block b hb hne), ⟨cs, c2, t, fr, e1, e4, e5.trans e3⟩, h⟩
theorem setMany_set (R : RK enc k) (d : Array α) (i : Nat) (x : α) (hi : i < d.size) : setMany (flatK enc k d) (i * k) (enc x) = flatK enc k (d.setIfInBounds i x) := by
  refine ext_get! (by simp) fun t ht => ?_
  have ht' : t < d.size * k := by simpa using ht
  have k0 : 0 < k := by rcases Nat.eq_zero_or_pos k with h | h
                        · subst h; simp at ht'
                        · exact h
  rw [get_setMany _ _ _ t (by simpa using ht'), get_flatK _ _ _ t ht', get_flatK _ _ _ t (by simpa using ht'), R.hk]
  by_cases b : t / k = i
  · rw [if_pos ((blk_iff k i t k0).2 b), show t - i * k = t % k by subst b; rw [Nat.mod_eq_sub_div_mul], b, getElem!_set_same _ _ _ hi]
  · rw [if_neg (fun h => b ((blk_iff k i t k0).1 h)), getElem!_set_other _ _ _ _ b]
theorem SW.set (S : SW enc k w0 blk off d W) (R : RK enc k) (i : Nat) (hi : i < d.size) (x : α) : SW enc k w0 blk off (d.setIfInBounds i x) (W.setCells blk (off + i * k) (enc x)) := by
  refine S.put _ _ ?_
  unfold HoldsK
  rw [← setMany_set R d i x hi]
  exact holds_setCells S.holds (i * k) _ (by rw [R.hk, size_flatK]; exact row_bnd d k i hi)
theorem SW.swapped (S : SW enc k w0 blk off d W) (R : RK enc k) (i j : Nat) (hi : i < d.size) (hj : j < d.size) :
    SW enc k w0 blk off (swp d i j) ((W.setCells blk (off + i * k) (enc d[j]!)).setCells blk (off + j * k) (enc d[i]!)) := by
  have := (S.set R i hi d[j]!).set R j (by simpa using hj) d[i]!
  exact this
def ltOf (cf : α → α → Int) (x y : α) : Bool := decide (cf x y < 0)
/-- What is asked of 'cmp'. -/
def CmpOk (P : Program) (g : Nat) (cb : Array Value) (enc : α → List Value) (cf : α → α → Int) : Prop :=
  ∀ (W : World) (x y : α), Calls P g (#[.agg (enc x).toArray, .agg (enc y).toArray] ++ cb) W fun e w' => e = .returned (.int .i64 (cf x y)) ∧ Below W.heap.size W w'
/-- What the walks want of a program that bears these functions. -/
structure Lays (P : Program) (k : Nat) : Prop where
  mixed : P.follows .mixedOrders = true
  aE : ∀ w, (isAgg 27).run P w = .ok true w
  zE : ∀ w, (Go.sizeOf 27).run P w = .ok k w
  f47 : P.funcs[47]? = some Try.f47
  f48 : P.funcs[48]? = some Try.f48
  f54 : P.funcs[54]? = some Try.f54
  f56 : P.funcs[56]? = some Try.f56
  f34 : P.funcs[34]? = some Try.f34
  f22 : P.funcs[22]? = some Try.f22
  t0 : P.underlying 0 = some (TypeDesc.tuple #[])
  a0 : ∀ w, (isAgg 0).run P w = .ok false w
  z0 : ∀ w, (Go.sizeOf 0).run P w = .ok 1 w
  v0 : ∀ w, (zeroValue 0).run P w = .ok (Value.tuple #[]) w
  t3 : P.underlying 3 = some (TypeDesc.int IntKind.i64)
  a3 : ∀ w, (isAgg 3).run P w = .ok false w
  z3 : ∀ w, (Go.sizeOf 3).run P w = .ok 1 w
  v3 : ∀ w, (zeroValue 3).run P w = .ok (Value.int IntKind.i64 0) w
  t4 : P.underlying 4 = some (TypeDesc.bool)
  a4 : ∀ w, (isAgg 4).run P w = .ok false w
  z4 : ∀ w, (Go.sizeOf 4).run P w = .ok 1 w
  v4 : ∀ w, (zeroValue 4).run P w = .ok (Value.bool false) w
  t22 : P.underlying 22 = some (TypeDesc.slice 27)
  a22 : ∀ w, (isAgg 22).run P w = .ok false w
  z22 : ∀ w, (Go.sizeOf 22).run P w = .ok 1 w
  v22 : ∀ w, (zeroValue 22).run P w = .ok (Value.slice none 0 0) w
  t43 : P.underlying 43 = some (TypeDesc.func #[27, 27] #[3] false)
  a43 : ∀ w, (isAgg 43).run P w = .ok false w
  z43 : ∀ w, (Go.sizeOf 43).run P w = .ok 1 w
  v43 : ∀ w, (zeroValue 43).run P w = .ok (Value.nilFunc) w
  t75 : P.underlying 75 = some (TypeDesc.int IntKind.u64)
  a75 : ∀ w, (isAgg 75).run P w = .ok false w
  z75 : ∀ w, (Go.sizeOf 75).run P w = .ok 1 w
  v75 : ∀ w, (zeroValue 75).run P w = .ok (Value.int IntKind.u64 0) w
set_option maxHeartbeats 4000000 in
set_option maxRecDepth 1000000 in
theorem swapRange_any (L : Lays P k) (R : RK enc k) (g : Nat) (cb : Array Value) (cap a b n : Nat) (S : SW enc k w0 blk off d W) (ha : a + n ≤ d.size) (hb : b + n ≤ d.size) (hsz : d.size < 1000000) :
    Calls P 56 #[.slice (some ⟨blk, off, none⟩) d.size cap, .int .i64 a, .int .i64 b, .int .i64 n, .func (.func g) #[] cb] W fun e w' => e = .returned (.tuple #[]) ∧ SW enc k w0 blk off (swpN d a b n) w' := by
  have mixed := L.mixed; have aE := L.aE; have zE := L.zE; have t0 := L.t0; have a0 := L.a0; have z0 := L.z0; have v0 := L.v0; have t3 := L.t3; have a3 := L.a3; have z3 := L.z3; have v3 := L.v3; have t4 := L.t4; have a4 := L.a4; have z4 := L.z4; have v4 := L.v4; have t22 := L.t22; have a22 := L.a22; have z22 := L.z22; have v22 := L.v22; have t43 := L.t43; have a43 := L.a43; have z43 := L.z43; have v43 := L.v43; have t75 := L.t75; have a75 := L.a75; have z75 := L.z75; have v75 := L.v75
  have S0 : Aside (SW enc k w0 blk off d W) := S
  clear S
  go_enter L.f56, Try.ntmps56
  go_wp2
  go_loopg [10] n (fun kx v10 wr => ∃ (i : Nat) (dk : Array α), v10 = .int .i64 i ∧ i ≤ n ∧ n - i ≤ kx ∧ dk.size = d.size ∧ Aside (SW enc k w0 blk off dk wr) ∧ Hid (dk = swpN d a b i))
  case atStart => exact ⟨0, d, rfl, by omega, by omega, rfl, S0, rfl⟩
  case round =>
    clear S0
    obtain ⟨i, dk, rfl, hin, hkx, hds, S1, HE⟩ := hrel
    by_cases hlt : i < n
    · have hltz : (i : Int) < (n : Int) := by omega
      go_wp2_with fail
      have ea1 : ((a : Int) + (i : Int)).toNat = a + i := by omega
      have pa1 : (0 : Int) ≤ (a : Int) + (i : Int) := by omega
      have ba1 : (a : Int) + (i : Int) < (d.size : Int) := by omega
      have ra1 : IntKind.i64.wrap ((a : Int) + (i : Int)) = (a : Int) + (i : Int) := by rw [IntKind.wrap_i64]; omega
      have ec1 : ((b : Int) + (i : Int)).toNat = b + i := by omega
      have pc1 : (0 : Int) ≤ (b : Int) + (i : Int) := by omega
      have bc1 : (b : Int) + (i : Int) < (d.size : Int) := by omega
      have rc1 : IntKind.i64.wrap ((b : Int) + (i : Int)) = (b : Int) + (i : Int) := by rw [IntKind.wrap_i64]; omega
      have S2 : Aside (SW enc k w0 blk off (swp dk (a + i) (b + i)) ((wr.drew.setCells blk (off + (a + i) * k) (enc dk[b + i]!)).setCells blk (off + (b + i) * k) (enc dk[a + i]!))) := S1.out.drew.swapped R (a + i) (b + i) (by omega) (by omega)
      have la1 := S1.out.drew.load R P (a + i) (by omega)
      have lb1 := S1.out.drew.load R P (b + i) (by omega)
      have sa1 := S1.out.drew.st1 R P (a + i) (by omega) dk[b + i]!
      have sb1 := S1.out.drew.st2 R P (a + i) (b + i) (by omega) (by omega) dk[b + i]! dk[a + i]!
      have na1 : (enc dk[a + i]!).length = k := R.hk _
      have nb1 : (enc dk[b + i]!).length = k := R.hk _
      generalize enc dk[a + i]! = cI1 at S2 la1 sb1 na1
      generalize enc dk[b + i]! = cJ1 at S2 lb1 sa1 sb1 nb1
      clear S1
      go_wp2_with fail
      go_big_region_o
      clear la1 lb1 sa1 sb1
      generalize (wr.drew.setCells blk (off + (a + i) * k) cJ1).setCells blk (off + (b + i) * k) cI1 = w2 at S2 ⊢
      go_wp2
      go_roundg (n - (i + 1))
      case measure => omega
      case rel => exact ⟨i + 1, _, by go_num, by omega, Nat.le_refl _, by rw [size_swp]; exact hds, S2, show _ = _ by rw [HE.out]; rfl⟩
    · have hltz : ¬ (i : Int) < (n : Int) := by omega
      go_wp2
      go_end0
      refine ⟨rfl, ?_⟩
      rw [show n = i by omega, ← HE.out]; exact S1.out
set_option maxHeartbeats 4000000 in
set_option maxRecDepth 1000000 in
theorem insertion_any (L : Lays P k) (R : RK enc k) (cf : α → α → Int) (g : Nat) (cb : Array Value) (eg : ∀ args w, (callFunc g args).run P w = .ok (.enter g args) w) (hcmp : CmpOk P g cb enc cf) (cap a b : Nat) (S : SW enc k w0 blk off d W) (hab : a ≤ b) (hb : b ≤ d.size) (hsz : d.size < 1000000) :
    Calls P 47 #[.slice (some ⟨blk, off, none⟩) d.size cap, .int .i64 a, .int .i64 b, .func (.func g) #[] cb] W fun e w' => e = .returned (.tuple #[]) ∧ SW enc k w0 blk off (insertionSort (ltOf cf) d a b) w' := by
  have mixed := L.mixed; have aE := L.aE; have zE := L.zE; have t0 := L.t0; have a0 := L.a0; have z0 := L.z0; have v0 := L.v0; have t3 := L.t3; have a3 := L.a3; have z3 := L.z3; have v3 := L.v3; have t4 := L.t4; have a4 := L.a4; have z4 := L.z4; have v4 := L.v4; have t22 := L.t22; have a22 := L.a22; have z22 := L.z22; have v22 := L.v22; have t43 := L.t43; have a43 := L.a43; have z43 := L.z43; have v43 := L.v43; have t75 := L.t75; have a75 := L.a75; have z75 := L.z75; have v75 := L.v75
  have S0 : Aside (SW enc k w0 blk off d W) := S
  have HC : Aside _ := hcmp
  clear S hcmp
  go_enter L.f47, Try.ntmps47
  go_wp2
  go_loopg [8] (b - a) (fun kx v8 wr0 => ∃ (i : Nat) (dk0 : Array α), v8 = .int .i64 i ∧ a < i ∧ i ≤ b + 1 ∧ b + 1 - i ≤ kx + 1 ∧ dk0.size = d.size ∧ Aside (SW enc k w0 blk off dk0 wr0) ∧ Hid (insOuter (ltOf cf) a b i dk0 = insOuter (ltOf cf) a b (a + 1) d))
  case atStart => exact ⟨a + 1, d, by go_num, by omega, by omega, by omega, rfl, S0, rfl⟩
  case round =>
    clear S0
    obtain ⟨i, dk0, rfl, hai, hib, hkx, hds0, S1, HO⟩ := hrel
    by_cases hlt : i < b
    · have hltz : (i : Int) < (b : Int) := by omega
      go_wp2
      go_loopg [9] i (fun ky v9 wr => ∃ (j : Nat) (dk : Array α), v9 = .int .i64 j ∧ a ≤ j ∧ j ≤ i ∧ j ≤ ky ∧ dk.size = d.size ∧ Aside (SW enc k w0 blk off dk wr) ∧ Hid (insInner (ltOf cf) a j dk = insInner (ltOf cf) a i dk0))
      case atStart => exact ⟨i, dk0, rfl, by omega, Nat.le_refl _, Nat.le_refl _, hds0, S1, rfl⟩
      case round =>
        clear S1
        obtain ⟨j, dk, rfl, haj, hji, hky, hds, S2, HI⟩ := hrel
        have out : (j ≤ a ∨ ltOf cf dk[j]! dk[j - 1]! = false) → Hid (insOuter (ltOf cf) a b (i + 1) dk = insOuter (ltOf cf) a b (a + 1) d) := fun hs => by
          show _ = _
          rw [← HO.out, insOuter_go _ _ _ _ _ hlt, ← HI.out, insInner_stop _ _ _ _ hs]
        have OUT : Aside _ := out
        clear out
        by_cases hja : a < j
        · have hjaz : (a : Int) < (j : Int) := by omega
          obtain ⟨jp, rfl⟩ : ∃ jp, j = jp + 1 := ⟨j - 1, by omega⟩
          have hjaz' : (a : Int) < (jp : Int) + 1 := by omega
          cases hL : ltOf cf dk[jp + 1]! dk[jp]! with
          | true =>
            have ea2 : ((jp : Int) + 1).toNat = jp + 1 := by omega
            have pa2 : (0 : Int) ≤ (jp : Int) + 1 := by omega
            have ba2 : (jp : Int) + 1 < (d.size : Int) := by omega
            have ra2 : IntKind.i64.wrap ((jp : Int) + 1) = (jp : Int) + 1 := by rw [IntKind.wrap_i64]; omega
            have ec2 : ((jp : Int)).toNat = jp := by omega
            have pc2 : (0 : Int) ≤ (jp : Int) := by omega
            have bc2 : (jp : Int) < (d.size : Int) := by omega
            have rc2 : IntKind.i64.wrap ((jp : Int)) = (jp : Int) := by rw [IntKind.wrap_i64]; omega
            obtain ⟨x2, hx2⟩ : ∃ x, x = dk[jp + 1]! := ⟨_, rfl⟩
            obtain ⟨y2, hy2⟩ : ∃ x, x = dk[jp]! := ⟨_, rfl⟩
            have la2 := S2.out.ld R P (jp + 1) (by omega)
            have lb2 := S2.out.ld R P (jp) (by omega)
            rw [← hx2] at la2
            rw [← hy2] at lb2
            have hc2 := fun p : Bel wr => HC.out p.v x2 y2
            have hd2 : decide (cf x2 y2 < 0) = true := by rw [hx2, hy2]; exact hL
            have hv2 : (cf x2 y2 < 0) := of_decide_eq_true hd2
            clear hx2 hy2
            go_wp2_with fail
            refine wp_region_bel (by assumption) (by kernel_rfl) ?_
            repeat (quiet_step (first | (go_at_fn g; refine Calls.bel_of (hc2 _))))
            refine wpQuiet_nil ?_
            intro _ hw'
            obtain ⟨pq, hw''⟩ := hw'
            subst hw''
            have S3 : Aside (SW enc k w0 blk off dk pq.v) := S2.out.bel pq
            clear la2 lb2 hc2 S2
            generalize pq.v = w3 at S3 ⊢
            clear pq
            go_wp2_with fail
            have ea3 : ((jp : Int) + 1).toNat = jp + 1 := by omega
            have pa3 : (0 : Int) ≤ (jp : Int) + 1 := by omega
            have ba3 : (jp : Int) + 1 < (d.size : Int) := by omega
            have ra3 : IntKind.i64.wrap ((jp : Int) + 1) = (jp : Int) + 1 := by rw [IntKind.wrap_i64]; omega
            have ec3 : ((jp : Int)).toNat = jp := by omega
            have pc3 : (0 : Int) ≤ (jp : Int) := by omega
            have bc3 : (jp : Int) < (d.size : Int) := by omega
            have rc3 : IntKind.i64.wrap ((jp : Int)) = (jp : Int) := by rw [IntKind.wrap_i64]; omega
            have S4 : Aside (SW enc k w0 blk off (swp dk (jp + 1) (jp)) ((w3.drew.setCells blk (off + (jp + 1) * k) (enc dk[jp]!)).setCells blk (off + (jp) * k) (enc dk[jp + 1]!))) := S3.out.drew.swapped R (jp + 1) (jp) (by omega) (by omega)
            have la3 := S3.out.drew.load R P (jp + 1) (by omega)
            have lb3 := S3.out.drew.load R P (jp) (by omega)
            have sa3 := S3.out.drew.st1 R P (jp + 1) (by omega) dk[jp]!
            have sb3 := S3.out.drew.st2 R P (jp + 1) (jp) (by omega) (by omega) dk[jp]! dk[jp + 1]!
            have na3 : (enc dk[jp + 1]!).length = k := R.hk _
            have nb3 : (enc dk[jp]!).length = k := R.hk _
            generalize enc dk[jp + 1]! = cI3 at S4 la3 sb3 na3
            generalize enc dk[jp]! = cJ3 at S4 lb3 sa3 sb3 nb3
            clear S3
            go_wp2_with fail
            go_big_region_o
            clear la3 lb3 sa3 sb3
            generalize (w3.drew.setCells blk (off + (jp + 1) * k) cJ3).setCells blk (off + (jp) * k) cI3 = w4 at S4 ⊢
            go_wp2
            go_roundg jp
            case measure => omega
            case rel =>
              refine ⟨jp, _, by first | rfl | go_num | (congr 1; omega), by omega, by omega, Nat.le_refl _, by rw [size_swp]; exact hds, S4, (show Hid _ from ?_)⟩
              show _ = _
              have := insInner_go (ltOf cf) a (jp + 1) dk hja (by simp only [Nat.add_sub_cancel]; exact hL)
              simp only [Nat.add_sub_cancel] at this
              rw [← HI.out, this]
          | false =>
            have ea2 : ((jp : Int) + 1).toNat = jp + 1 := by omega
            have pa2 : (0 : Int) ≤ (jp : Int) + 1 := by omega
            have ba2 : (jp : Int) + 1 < (d.size : Int) := by omega
            have ra2 : IntKind.i64.wrap ((jp : Int) + 1) = (jp : Int) + 1 := by rw [IntKind.wrap_i64]; omega
            have ec2 : ((jp : Int)).toNat = jp := by omega
            have pc2 : (0 : Int) ≤ (jp : Int) := by omega
            have bc2 : (jp : Int) < (d.size : Int) := by omega
            have rc2 : IntKind.i64.wrap ((jp : Int)) = (jp : Int) := by rw [IntKind.wrap_i64]; omega
            obtain ⟨x2, hx2⟩ : ∃ x, x = dk[jp + 1]! := ⟨_, rfl⟩
            obtain ⟨y2, hy2⟩ : ∃ x, x = dk[jp]! := ⟨_, rfl⟩
            have la2 := S2.out.ld R P (jp + 1) (by omega)
            have lb2 := S2.out.ld R P (jp) (by omega)
            rw [← hx2] at la2
            rw [← hy2] at lb2
            have hc2 := fun p : Bel wr => HC.out p.v x2 y2
            have hd2 : decide (cf x2 y2 < 0) = false := by rw [hx2, hy2]; exact hL
            have hv2 : ¬ (cf x2 y2 < 0) := of_decide_eq_false hd2
            clear hx2 hy2
            go_wp2_with fail
            refine wp_region_bel (by assumption) (by kernel_rfl) ?_
            repeat (quiet_step (first | (go_at_fn g; refine Calls.bel_of (hc2 _))))
            refine wpQuiet_nil ?_
            intro _ hw'
            obtain ⟨pq, hw''⟩ := hw'
            subst hw''
            have S3 : Aside (SW enc k w0 blk off dk pq.v) := S2.out.bel pq
            clear la2 lb2 hc2 S2
            generalize pq.v = w3 at S3 ⊢
            clear pq
            go_wp2
            go_roundg (b - (i + 1))
            case measure => omega
            case rel => exact ⟨i + 1, dk, by go_num, by omega, by omega, by omega, hds, S3, OUT.out (Or.inr (by simp only [Nat.add_sub_cancel]; exact hL))⟩
        · have hjaz : decide ((j : Int) > (a : Int)) = false := decide_eq_false (by omega)
          have hjaz' : ¬ (a : Int) < (j : Int) := by omega
          have S3 : Aside (SW enc k w0 blk off dk wr.drew) := S2.out.drew
          go_wp2_with fail
          go_big_region_o
          all_goals go_wp2
          go_roundg (b - (i + 1))
          case measure => omega
          case rel => exact ⟨i + 1, dk, by go_num, by omega, by omega, by omega, hds, S3, OUT.out (Or.inl (by omega))⟩
    · have hltz : ¬ (i : Int) < (b : Int) := by omega
      go_wp2
      go_end0
      exact ⟨rfl, by unfold insertionSort; rw [← HO.out, insOuter_stop _ _ _ _ _ hlt]; exact S1.out⟩
set_option maxHeartbeats 4000000 in
set_option maxRecDepth 1000000 in
theorem rotate_any (L : Lays P k) (R : RK enc k) (g : Nat) (cb : Array Value) (cap a m b : Nat) (S : SW enc k w0 blk off d W) (ha : a < m) (hb : m < b) (hbd : b ≤ d.size) (hsz : d.size < 1000000) :
    Calls P 54 #[.slice (some ⟨blk, off, none⟩) d.size cap, .int .i64 a, .int .i64 m, .int .i64 b, .func (.func g) #[] cb] W fun e w' => e = .returned (.tuple #[]) ∧ SW enc k w0 blk off (rotL m (m - a) (b - m) d) w' := by
  have mixed := L.mixed; have aE := L.aE; have zE := L.zE; have t0 := L.t0; have a0 := L.a0; have z0 := L.z0; have v0 := L.v0; have t3 := L.t3; have a3 := L.a3; have z3 := L.z3; have v3 := L.v3; have t4 := L.t4; have a4 := L.a4; have z4 := L.z4; have v4 := L.v4; have t22 := L.t22; have a22 := L.a22; have z22 := L.z22; have v22 := L.v22; have t43 := L.t43; have a43 := L.a43; have z43 := L.z43; have v43 := L.v43; have t75 := L.t75; have a75 := L.a75; have z75 := L.z75; have v75 := L.v75
  have S0 : Aside (SW enc k w0 blk off d W) := S
  have e56 : ∀ args w, (callFunc 56 args).run P w = .ok (.enter 56 args) w := enters_of L.f56 (by kernel_rfl) rfl
  clear S
  go_enter L.f54, Try.ntmps54
  go_wp2
  go_loopg [10, 11] (b - a) (fun kx v10 v11 wr => ∃ (i j : Nat) (dk : Array α), v10 = .int .i64 i ∧ v11 = .int .i64 j ∧ 0 < i ∧ 0 < j ∧ i ≤ m ∧ m + j ≤ d.size ∧ i + j ≤ kx ∧ dk.size = d.size ∧ Aside (SW enc k w0 blk off dk wr) ∧ Hid (rotL m i j dk = rotL m (m - a) (b - m) d))
  case atStart => exact ⟨m - a, b - m, d, by first | rfl | (congr 1; omega), by first | rfl | (congr 1; omega), by omega, by omega, by omega, by omega, by omega, rfl, S0, rfl⟩
  case round =>
    clear S0
    obtain ⟨i, j, dk, rfl, rfl, hi, hj, him, hjd, hkx, hds, S1, HE⟩ := hrel
    have e1 : (m : Int) - (i : Int) = ((m - i : Nat) : Int) := by omega
    by_cases hij : i = j
    · subst hij
      have hq : ((i : Int) != (i : Int)) = false := by simp
      have hc := swapRange_any L R g cb cap (m - i) m i S1.out (by omega) (by omega) (by omega)
      rw [hds] at hc
      go_wp2_with (go_at_fn 56; rw [e1])
      refine hc.mono ?_
      rintro e w2 ⟨rfl, S2⟩
      go_wp2
      go_end0
      refine ⟨rfl, ?_⟩
      rw [← HE.out]; unfold rotL; rw [if_neg (by omega)]; exact S2
    · have hq : ((i : Int) != (j : Int)) = true := by simp only [bne_iff_ne, ne_eq]; omega
      by_cases hlt : j < i
      · have hltz : (j : Int) < (i : Int) := by omega
        have hc := swapRange_any L R g cb cap (m - i) m j S1.out (by omega) (by omega) (by omega)
        rw [hds] at hc
        go_wp2_with (go_at_fn 56; rw [e1])
        refine hc.mono ?_
        rintro e w2 ⟨rfl, S2⟩
        go_wp2
        go_roundg (i - j + j)
        case measure => omega
        case rel => exact ⟨i - j, j, _, by first | rfl | (congr 1; omega), rfl, by omega, hj, by omega, hjd, Nat.le_refl _, by rw [size_swpN]; exact hds, S2, show _ = _ by rw [← HE.out]; conv => rhs; unfold rotL; rw [if_pos ⟨hi, hj, hij⟩, if_pos hlt]⟩
      · have hltz : ¬ ((j : Int) < (i : Int)) := by omega
        have e2 : (m : Int) + (j : Int) - (i : Int) = ((m + j - i : Nat) : Int) := by omega
        have hc := swapRange_any L R g cb cap (m - i) (m + j - i) i S1.out (by omega) (by omega) (by omega)
        rw [hds] at hc
        go_wp2_with (go_at_fn 56; rw [e1, e2])
        refine hc.mono ?_
        rintro e w2 ⟨rfl, S2⟩
        go_wp2
        go_roundg (i + (j - i))
        case measure => omega
        case rel => exact ⟨i, j - i, _, rfl, by first | rfl | (congr 1; omega), hi, by omega, him, by omega, Nat.le_refl _, by rw [size_swpN]; exact hds, S2, show _ = _ by rw [← HE.out]; conv => rhs; unfold rotL; rw [if_pos ⟨hi, hj, hij⟩, if_neg hlt]⟩
set_option maxHeartbeats 4000000 in
set_option maxRecDepth 1000000 in
theorem sym1_any (L : Lays P k) (R : RK enc k) (cf : α → α → Int) (g : Nat) (cb : Array Value) (eg : ∀ args w, (callFunc g args).run P w = .ok (.enter g args) w) (hcmp : CmpOk P g cb enc cf) (cap a m b : Nat) (hm : m = a + 1) (S : SW enc k w0 blk off d W) (hmb : m < b) (hb : b ≤ d.size) (hsz : d.size < 1000000) :
    Calls P 48 #[.slice (some ⟨blk, off, none⟩) d.size cap, .int .i64 a, .int .i64 m, .int .i64 b, .func (.func g) #[] cb] W fun e w' => e = .returned (.tuple #[]) ∧ SW enc k w0 blk off (shUp d a (bs (fun h => ltOf cf d[h]! d[a]!) m b - 1 - a)) w' := by
  have mixed := L.mixed; have aE := L.aE; have zE := L.zE; have t0 := L.t0; have a0 := L.a0; have z0 := L.z0; have v0 := L.v0; have t3 := L.t3; have a3 := L.a3; have z3 := L.z3; have v3 := L.v3; have t4 := L.t4; have a4 := L.a4; have z4 := L.z4; have v4 := L.v4; have t22 := L.t22; have a22 := L.a22; have z22 := L.z22; have v22 := L.v22; have t43 := L.t43; have a43 := L.a43; have z43 := L.z43; have v43 := L.v43; have t75 := L.t75; have a75 := L.a75; have z75 := L.z75; have v75 := L.v75
  have S0 : Aside (SW enc k w0 blk off d W) := S
  have HC : Aside _ := hcmp
  clear S hcmp
  have hm1 : (m : Int) - (a : Int) = 1 := by omega
  have ham : a < m := by omega
  have HM := Lib.hid hm
  clear hm
  go_enter L.f48, Try.ntmps48
  go_wp2
  go_loopg [10, 11] b (fun kx v10 v11 wr => ∃ (i j : Nat), v10 = .int .i64 i ∧ v11 = .int .i64 j ∧ m ≤ i ∧ i ≤ j ∧ j ≤ b ∧ j - i ≤ kx ∧ Aside (SW enc k w0 blk off d wr) ∧ Hid (bs (fun h => ltOf cf d[h]! d[a]!) i j = bs (fun h => ltOf cf d[h]! d[a]!) m b))
  case atStart => exact ⟨m, b, rfl, rfl, by omega, by omega, by omega, by omega, S0, rfl⟩
  case round =>
    clear S0
    obtain ⟨i, j, rfl, rfl, hai, hij, hjb, hkx, S1, HE⟩ := hrel
    by_cases hlt : i < j
    · have hltz : (i : Int) < (j : Int) := by omega
      obtain ⟨h, hh⟩ : ∃ h, h = (i + j) / 2 := ⟨_, rfl⟩
      go_wp2_with fail
      have hz : ((i : Int) + (j : Int)) / 2 = (h : Int) := by omega
      rw [hz]
      have hih : i ≤ h := by omega
      have hhj : h < j := by omega
      have HH := Lib.hid hh
      clear hz hh
      cases hL : ltOf cf d[h]! d[a]! with
      | true =>
        have ea1 : ((h : Int)).toNat = h := by omega
        have pa1 : (0 : Int) ≤ (h : Int) := by omega
        have ba1 : (h : Int) < (d.size : Int) := by omega
        have ra1 : IntKind.i64.wrap ((h : Int)) = (h : Int) := by rw [IntKind.wrap_i64]; omega
        have ec1 : ((a : Int)).toNat = a := by omega
        have pc1 : (0 : Int) ≤ (a : Int) := by omega
        have bc1 : (a : Int) < (d.size : Int) := by omega
        have rc1 : IntKind.i64.wrap ((a : Int)) = (a : Int) := by rw [IntKind.wrap_i64]; omega
        obtain ⟨x1, hx1⟩ : ∃ x, x = d[h]! := ⟨_, rfl⟩
        obtain ⟨y1, hy1⟩ : ∃ x, x = d[a]! := ⟨_, rfl⟩
        have la1 := S1.out.ld R P (h) (by omega)
        have lb1 := S1.out.ld R P (a) (by omega)
        rw [← hx1] at la1
        rw [← hy1] at lb1
        have hc1 := fun p : Bel wr => HC.out p.v x1 y1
        have hd1 : decide (cf x1 y1 < 0) = true := by rw [hx1, hy1]; exact hL
        have hv1 : (cf x1 y1 < 0) := of_decide_eq_true hd1
        clear hx1 hy1
        go_wp2_with fail
        refine wp_region_bel (by assumption) (by kernel_rfl) ?_
        repeat (quiet_step (first | (go_at_fn g; refine Calls.bel_of (hc1 _))))
        refine wpQuiet_nil ?_
        intro _ hw'
        obtain ⟨pq, hw''⟩ := hw'
        subst hw''
        have S2 : Aside (SW enc k w0 blk off d pq.v) := S1.out.bel pq
        clear la1 lb1 hc1 S1
        generalize pq.v = w2 at S2 ⊢
        clear pq
        go_wp2
        go_roundg (j - (h + 1))
        case measure => omega
        case rel => exact ⟨h + 1, j, by first | go_num | (congr 1; omega), rfl, by omega, by omega, by omega, Nat.le_refl _, S2, show _ = _ by rw [← HE.out]; conv => rhs; unfold bs; rw [if_pos hlt, ← HH.out, hL, if_pos rfl]⟩
      | false =>
        have ea1 : ((h : Int)).toNat = h := by omega
        have pa1 : (0 : Int) ≤ (h : Int) := by omega
        have ba1 : (h : Int) < (d.size : Int) := by omega
        have ra1 : IntKind.i64.wrap ((h : Int)) = (h : Int) := by rw [IntKind.wrap_i64]; omega
        have ec1 : ((a : Int)).toNat = a := by omega
        have pc1 : (0 : Int) ≤ (a : Int) := by omega
        have bc1 : (a : Int) < (d.size : Int) := by omega
        have rc1 : IntKind.i64.wrap ((a : Int)) = (a : Int) := by rw [IntKind.wrap_i64]; omega
        obtain ⟨x1, hx1⟩ : ∃ x, x = d[h]! := ⟨_, rfl⟩
        obtain ⟨y1, hy1⟩ : ∃ x, x = d[a]! := ⟨_, rfl⟩
        have la1 := S1.out.ld R P (h) (by omega)
        have lb1 := S1.out.ld R P (a) (by omega)
        rw [← hx1] at la1
        rw [← hy1] at lb1
        have hc1 := fun p : Bel wr => HC.out p.v x1 y1
        have hd1 : decide (cf x1 y1 < 0) = false := by rw [hx1, hy1]; exact hL
        have hv1 : ¬ (cf x1 y1 < 0) := of_decide_eq_false hd1
        clear hx1 hy1
        go_wp2_with fail
        refine wp_region_bel (by assumption) (by kernel_rfl) ?_
        repeat (quiet_step (first | (go_at_fn g; refine Calls.bel_of (hc1 _))))
        refine wpQuiet_nil ?_
        intro _ hw'
        obtain ⟨pq, hw''⟩ := hw'
        subst hw''
        have S2 : Aside (SW enc k w0 blk off d pq.v) := S1.out.bel pq
        clear la1 lb1 hc1 S1
        generalize pq.v = w2 at S2 ⊢
        clear pq
        go_wp2
        go_roundg (h - i)
        case measure => omega
        case rel => exact ⟨i, h, rfl, by first | go_num | (congr 1; omega), by omega, by omega, by omega, Nat.le_refl _, S2, show _ = _ by rw [← HE.out]; conv => rhs; unfold bs; rw [if_pos hlt, ← HH.out, hL, if_neg (by simp)]⟩
    · have hltz : ¬ (i : Int) < (j : Int) := by omega
      have hr : bs (fun h => ltOf cf d[h]! d[a]!) m b = i := by rw [← HE.out]; unfold bs; rw [if_neg hlt]
      have HR := Lib.hid hr
      clear hr HE
      go_wp2
      go_loopg [13] b (fun kx v13 wr => ∃ (t : Nat) (dk : Array α), v13 = .int .i64 ((a : Int) + (t : Int)) ∧ t ≤ i - 1 - a ∧ i - 1 - a - t ≤ kx ∧ dk.size = d.size ∧ Aside (SW enc k w0 blk off dk wr) ∧ Hid (dk = shUp d a t))
      case atStart => exact ⟨0, d, by first | rfl | go_num | (congr 1; omega), by omega, by omega, rfl, S1, rfl⟩
      case round =>
        clear S1
        obtain ⟨t, dk, rfl, htt, hkt, hds, S2, HT⟩ := hrel
        by_cases hl2 : t < i - 1 - a
        · have hl2z : (a : Int) + (t : Int) < (i : Int) - 1 := by omega
          go_wp2_with fail
          have ea2 : ((a : Int) + (t : Int)).toNat = a + t := by omega
          have pa2 : (0 : Int) ≤ (a : Int) + (t : Int) := by omega
          have ba2 : (a : Int) + (t : Int) < (d.size : Int) := by omega
          have ra2 : IntKind.i64.wrap ((a : Int) + (t : Int)) = (a : Int) + (t : Int) := by rw [IntKind.wrap_i64]; omega
          have ec2 : ((a : Int) + (t : Int) + 1).toNat = a + t + 1 := by omega
          have pc2 : (0 : Int) ≤ (a : Int) + (t : Int) + 1 := by omega
          have bc2 : (a : Int) + (t : Int) + 1 < (d.size : Int) := by omega
          have rc2 : IntKind.i64.wrap ((a : Int) + (t : Int) + 1) = (a : Int) + (t : Int) + 1 := by rw [IntKind.wrap_i64]; omega
          have S3 : Aside (SW enc k w0 blk off (swp dk (a + t) (a + t + 1)) ((wr.drew.setCells blk (off + (a + t) * k) (enc dk[a + t + 1]!)).setCells blk (off + (a + t + 1) * k) (enc dk[a + t]!))) := S2.out.drew.swapped R (a + t) (a + t + 1) (by omega) (by omega)
          have la2 := S2.out.drew.load R P (a + t) (by omega)
          have lb2 := S2.out.drew.load R P (a + t + 1) (by omega)
          have sa2 := S2.out.drew.st1 R P (a + t) (by omega) dk[a + t + 1]!
          have sb2 := S2.out.drew.st2 R P (a + t) (a + t + 1) (by omega) (by omega) dk[a + t + 1]! dk[a + t]!
          have na2 : (enc dk[a + t]!).length = k := R.hk _
          have nb2 : (enc dk[a + t + 1]!).length = k := R.hk _
          generalize enc dk[a + t]! = cI2 at S3 la2 sb2 na2
          generalize enc dk[a + t + 1]! = cJ2 at S3 lb2 sa2 sb2 nb2
          clear S2
          go_wp2_with fail
          go_big_region_o
          clear la2 lb2 sa2 sb2
          generalize (wr.drew.setCells blk (off + (a + t) * k) cJ2).setCells blk (off + (a + t + 1) * k) cI2 = w3 at S3 ⊢
          go_wp2
          go_roundg (i - 1 - a - (t + 1))
          case measure => omega
          case rel => exact ⟨t + 1, _, by first | rfl | go_num | (congr 1; omega), by omega, Nat.le_refl _, by rw [size_swp]; exact hds, S3, show _ = _ by rw [HT.out]; rfl⟩
        · have hl2z : ¬ ((a : Int) + (t : Int) < (i : Int) - 1) := by omega
          go_wp2
          (try simp only [Exit.inBlock, Exit.then]); refine bodyPost_ret (results_none rfl _ _ _) rfl ?_
          refine ⟨rfl, ?_⟩
          rw [HR.out, show i - 1 - a = t by omega, ← HT.out]; exact S2.out
set_option maxHeartbeats 4000000 in
set_option maxRecDepth 1000000 in
theorem sym2_any (L : Lays P k) (R : RK enc k) (cf : α → α → Int) (g : Nat) (cb : Array Value) (eg : ∀ args w, (callFunc g args).run P w = .ok (.enter g args) w) (hcmp : CmpOk P g cb enc cf) (cap a m b : Nat) (hm : b = m + 1) (S : SW enc k w0 blk off d W) (ham : a + 1 < m) (hb : b ≤ d.size) (hsz : d.size < 1000000) :
    Calls P 48 #[.slice (some ⟨blk, off, none⟩) d.size cap, .int .i64 a, .int .i64 m, .int .i64 b, .func (.func g) #[] cb] W fun e w' => e = .returned (.tuple #[]) ∧ SW enc k w0 blk off (shDn d m (m - bs (fun h => !ltOf cf d[m]! d[h]!) a m)) w' := by
  have mixed := L.mixed; have aE := L.aE; have zE := L.zE; have t0 := L.t0; have a0 := L.a0; have z0 := L.z0; have v0 := L.v0; have t3 := L.t3; have a3 := L.a3; have z3 := L.z3; have v3 := L.v3; have t4 := L.t4; have a4 := L.a4; have z4 := L.z4; have v4 := L.v4; have t22 := L.t22; have a22 := L.a22; have z22 := L.z22; have v22 := L.v22; have t43 := L.t43; have a43 := L.a43; have z43 := L.z43; have v43 := L.v43; have t75 := L.t75; have a75 := L.a75; have z75 := L.z75; have v75 := L.v75
  have S0 : Aside (SW enc k w0 blk off d W) := S
  have HC : Aside _ := hcmp
  clear S hcmp
  have hm1 : (((m : Int) - (a : Int)) == 1) = false := by simp only [beq_eq_false_iff_ne, ne_eq]; omega
  have hm2 : (b : Int) - (m : Int) = 1 := by omega
  have hmb : m < b := by omega
  have HM := Lib.hid hm
  clear hm
  go_enter L.f48, Try.ntmps48
  go_wp2
  go_loopg [14, 15] m (fun kx v14 v15 wr => ∃ (i j : Nat), v14 = .int .i64 i ∧ v15 = .int .i64 j ∧ a ≤ i ∧ i ≤ j ∧ j ≤ m ∧ j - i ≤ kx ∧ Aside (SW enc k w0 blk off d wr) ∧ Hid (bs (fun h => !ltOf cf d[m]! d[h]!) i j = bs (fun h => !ltOf cf d[m]! d[h]!) a m))
  case atStart => exact ⟨a, m, rfl, rfl, by omega, by omega, by omega, by omega, S0, rfl⟩
  case round =>
    clear S0
    obtain ⟨i, j, rfl, rfl, hai, hij, hjb, hkx, S1, HE⟩ := hrel
    by_cases hlt : i < j
    · have hltz : (i : Int) < (j : Int) := by omega
      obtain ⟨h, hh⟩ : ∃ h, h = (i + j) / 2 := ⟨_, rfl⟩
      go_wp2_with fail
      have hz : ((i : Int) + (j : Int)) / 2 = (h : Int) := by omega
      rw [hz]
      have hih : i ≤ h := by omega
      have hhj : h < j := by omega
      have HH := Lib.hid hh
      clear hz hh
      cases hL : ltOf cf d[m]! d[h]! with
      | true =>
        have ea1 : ((m : Int)).toNat = m := by omega
        have pa1 : (0 : Int) ≤ (m : Int) := by omega
        have ba1 : (m : Int) < (d.size : Int) := by omega
        have ra1 : IntKind.i64.wrap ((m : Int)) = (m : Int) := by rw [IntKind.wrap_i64]; omega
        have ec1 : ((h : Int)).toNat = h := by omega
        have pc1 : (0 : Int) ≤ (h : Int) := by omega
        have bc1 : (h : Int) < (d.size : Int) := by omega
        have rc1 : IntKind.i64.wrap ((h : Int)) = (h : Int) := by rw [IntKind.wrap_i64]; omega
        obtain ⟨x1, hx1⟩ : ∃ x, x = d[m]! := ⟨_, rfl⟩
        obtain ⟨y1, hy1⟩ : ∃ x, x = d[h]! := ⟨_, rfl⟩
        have la1 := S1.out.ld R P (m) (by omega)
        have lb1 := S1.out.ld R P (h) (by omega)
        rw [← hx1] at la1
        rw [← hy1] at lb1
        have hc1 := fun p : Bel wr => HC.out p.v x1 y1
        have hd1 : decide (cf x1 y1 < 0) = true := by rw [hx1, hy1]; exact hL
        have hv1 : (cf x1 y1 < 0) := of_decide_eq_true hd1
        clear hx1 hy1
        go_wp2_with fail
        refine wp_region_bel (by assumption) (by kernel_rfl) ?_
        repeat (quiet_step (first | (go_at_fn g; refine Calls.bel_of (hc1 _))))
        refine wpQuiet_nil ?_
        intro _ hw'
        obtain ⟨pq, hw''⟩ := hw'
        subst hw''
        have S2 : Aside (SW enc k w0 blk off d pq.v) := S1.out.bel pq
        clear la1 lb1 hc1 S1
        generalize pq.v = w2 at S2 ⊢
        clear pq
        go_wp2
        go_roundg (h - i)
        case measure => omega
        case rel => exact ⟨i, h, rfl, by first | go_num | (congr 1; omega), by omega, by omega, by omega, Nat.le_refl _, S2, show _ = _ by rw [← HE.out]; conv => rhs; unfold bs; rw [if_pos hlt, ← HH.out, hL, if_neg (by simp)]⟩
      | false =>
        have ea1 : ((m : Int)).toNat = m := by omega
        have pa1 : (0 : Int) ≤ (m : Int) := by omega
        have ba1 : (m : Int) < (d.size : Int) := by omega
        have ra1 : IntKind.i64.wrap ((m : Int)) = (m : Int) := by rw [IntKind.wrap_i64]; omega
        have ec1 : ((h : Int)).toNat = h := by omega
        have pc1 : (0 : Int) ≤ (h : Int) := by omega
        have bc1 : (h : Int) < (d.size : Int) := by omega
        have rc1 : IntKind.i64.wrap ((h : Int)) = (h : Int) := by rw [IntKind.wrap_i64]; omega
        obtain ⟨x1, hx1⟩ : ∃ x, x = d[m]! := ⟨_, rfl⟩
        obtain ⟨y1, hy1⟩ : ∃ x, x = d[h]! := ⟨_, rfl⟩
        have la1 := S1.out.ld R P (m) (by omega)
        have lb1 := S1.out.ld R P (h) (by omega)
        rw [← hx1] at la1
        rw [← hy1] at lb1
        have hc1 := fun p : Bel wr => HC.out p.v x1 y1
        have hd1 : decide (cf x1 y1 < 0) = false := by rw [hx1, hy1]; exact hL
        have hv1 : ¬ (cf x1 y1 < 0) := of_decide_eq_false hd1
        clear hx1 hy1
        go_wp2_with fail
        refine wp_region_bel (by assumption) (by kernel_rfl) ?_
        repeat (quiet_step (first | (go_at_fn g; refine Calls.bel_of (hc1 _))))
        refine wpQuiet_nil ?_
        intro _ hw'
        obtain ⟨pq, hw''⟩ := hw'
        subst hw''
        have S2 : Aside (SW enc k w0 blk off d pq.v) := S1.out.bel pq
        clear la1 lb1 hc1 S1
        generalize pq.v = w2 at S2 ⊢
        clear pq
        go_wp2
        go_roundg (j - (h + 1))
        case measure => omega
        case rel => exact ⟨h + 1, j, by first | go_num | (congr 1; omega), rfl, by omega, by omega, by omega, Nat.le_refl _, S2, show _ = _ by rw [← HE.out]; conv => rhs; unfold bs; rw [if_pos hlt, ← HH.out, hL, if_pos (by simp)]⟩
    · have hltz : ¬ (i : Int) < (j : Int) := by omega
      have hr : bs (fun h => !ltOf cf d[m]! d[h]!) a m = i := by rw [← HE.out]; unfold bs; rw [if_neg hlt]
      have HR := Lib.hid hr
      clear hr HE
      go_wp2
      go_loopg [17] m (fun kx v17 wr => ∃ (t : Nat) (dk : Array α), v17 = .int .i64 ((m : Int) - (t : Int)) ∧ t ≤ m - i ∧ m - i - t ≤ kx ∧ dk.size = d.size ∧ Aside (SW enc k w0 blk off dk wr) ∧ Hid (dk = shDn d m t))
      case atStart => exact ⟨0, d, by first | rfl | go_num | (congr 1; omega), by omega, by omega, rfl, S1, rfl⟩
      case round =>
        clear S1
        obtain ⟨t, dk, rfl, htt, hkt, hds, S2, HT⟩ := hrel
        by_cases hl2 : t < m - i
        · have hl2z : (i : Int) < (m : Int) - (t : Int) := by omega
          go_wp2_with fail
          have ea2 : ((m : Int) - (t : Int)).toNat = m - t := by omega
          have pa2 : (0 : Int) ≤ (m : Int) - (t : Int) := by omega
          have ba2 : (m : Int) - (t : Int) < (d.size : Int) := by omega
          have ra2 : IntKind.i64.wrap ((m : Int) - (t : Int)) = (m : Int) - (t : Int) := by rw [IntKind.wrap_i64]; omega
          have ec2 : ((m : Int) - (t : Int) - 1).toNat = m - t - 1 := by omega
          have pc2 : (0 : Int) ≤ (m : Int) - (t : Int) - 1 := by omega
          have bc2 : (m : Int) - (t : Int) - 1 < (d.size : Int) := by omega
          have rc2 : IntKind.i64.wrap ((m : Int) - (t : Int) - 1) = (m : Int) - (t : Int) - 1 := by rw [IntKind.wrap_i64]; omega
          have S3 : Aside (SW enc k w0 blk off (swp dk (m - t) (m - t - 1)) ((wr.drew.setCells blk (off + (m - t) * k) (enc dk[m - t - 1]!)).setCells blk (off + (m - t - 1) * k) (enc dk[m - t]!))) := S2.out.drew.swapped R (m - t) (m - t - 1) (by omega) (by omega)
          have la2 := S2.out.drew.load R P (m - t) (by omega)
          have lb2 := S2.out.drew.load R P (m - t - 1) (by omega)
          have sa2 := S2.out.drew.st1 R P (m - t) (by omega) dk[m - t - 1]!
          have sb2 := S2.out.drew.st2 R P (m - t) (m - t - 1) (by omega) (by omega) dk[m - t - 1]! dk[m - t]!
          have na2 : (enc dk[m - t]!).length = k := R.hk _
          have nb2 : (enc dk[m - t - 1]!).length = k := R.hk _
          generalize enc dk[m - t]! = cI2 at S3 la2 sb2 na2
          generalize enc dk[m - t - 1]! = cJ2 at S3 lb2 sa2 sb2 nb2
          clear S2
          go_wp2_with fail
          go_big_region_o
          clear la2 lb2 sa2 sb2
          generalize (wr.drew.setCells blk (off + (m - t) * k) cJ2).setCells blk (off + (m - t - 1) * k) cI2 = w3 at S3 ⊢
          go_wp2
          go_roundg (m - i - (t + 1))
          case measure => omega
          case rel => exact ⟨t + 1, _, by first | rfl | go_num | (congr 1; omega), by omega, Nat.le_refl _, by rw [size_swp]; exact hds, S3, show _ = _ by rw [HT.out]; rfl⟩
        · have hl2z : ¬ ((i : Int) < (m : Int) - (t : Int)) := by omega
          go_wp2
          (try simp only [Exit.inBlock, Exit.then]); refine bodyPost_ret (results_none rfl _ _ _) rfl ?_
          refine ⟨rfl, ?_⟩
          rw [HR.out, show m - i = t by omega, ← HT.out]; exact S2.out

end Go.Proofs.Ytbjpjddhkpnofaa
