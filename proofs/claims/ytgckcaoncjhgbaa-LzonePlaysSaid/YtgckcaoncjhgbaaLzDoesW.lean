/- Words for revetmentlaw17.does: tables that are answers, carried on. -/
import Derived.Test.YtgckcaoncjhgbaaLzTab
namespace Go.Proofs.Ytgckcaoncjhgbaa
open Go.RowKit Go.Proofs.Ytgckcaoncjhgbaa.PL Go.Proofs.YtgckcaoncjhgbaaW.PrintWords Go.Proofs.YtgckcaoncjhgbaaW.PrintLast
set_option linter.unusedVariables false
set_option linter.unusedSimpArgs false
namespace PL
-- the type of a call (as the kit's print writes a struct type)
structure S40 where
  f0 : Int
  f1 : Int
  f2 : Int
  f3 : Int
def z40 : S40 := ⟨(0 : Int), (0 : Int), (0 : Int), (0 : Int)⟩
def k40 : Kd S40 := Kd.iso (Kd.pair (Kd.int .i64) (Kd.pair (Kd.int .i64) (Kd.pair (Kd.int .i64) (Kd.int .i64)))) (fun x : S40 => (x.f0, x.f1, x.f2, x.f3))
theorem k40_open {w : World} {x : S40} {cs : List Value} (h : k40.K w x cs) : cs = [.int .i64 x.f0, .int .i64 x.f1, .int .i64 x.f2, .int .i64 x.f3] := by
 obtain ⟨_, _, rfl, rfl, ⟨_, _, rfl, rfl, ⟨_, _, rfl, rfl, rfl⟩⟩⟩ := h
 exact rfl
theorem k40_openM {w : World} {base : Nat} {ok : Nat → Prop} {x : S40} {cs : List Value} (h : k40.M w base ok x cs) : cs = [.int .i64 x.f0, .int .i64 x.f1, .int .i64 x.f2, .int .i64 x.f3] := by
 obtain ⟨_, _, rfl, rfl, ⟨_, _, rfl, rfl, ⟨_, _, rfl, rfl, rfl⟩⟩⟩ := h
 exact rfl
theorem k40_mk (w : World) (x : S40)  : k40.K w x [.int .i64 x.f0, .int .i64 x.f1, .int .i64 x.f2, .int .i64 x.f3] := ⟨[.int .i64 x.f0], [.int .i64 x.f1, .int .i64 x.f2, .int .i64 x.f3], rfl, rfl, ⟨[.int .i64 x.f1], [.int .i64 x.f2, .int .i64 x.f3], rfl, rfl, ⟨[.int .i64 x.f2], [.int .i64 x.f3], rfl, rfl, rfl⟩⟩⟩
theorem k40_mkM (w : World) (base : Nat) (ok : Nat → Prop) (x : S40)  : k40.M w base ok x [.int .i64 x.f0, .int .i64 x.f1, .int .i64 x.f2, .int .i64 x.f3] := ⟨[.int .i64 x.f0], [.int .i64 x.f1, .int .i64 x.f2, .int .i64 x.f3], rfl, rfl, ⟨[.int .i64 x.f1], [.int .i64 x.f2, .int .i64 x.f3], rfl, rfl, ⟨[.int .i64 x.f2], [.int .i64 x.f3], rfl, rfl, rfl⟩⟩⟩
def rd_T40 (xs : List S40) (i : Int) : S40 := xs.getD i.toNat z40
theorem at_T40 {w : World} {A : Option Addr} {n : Nat} {xs : List S40} (h : Kd.C k40 w A n xs) (i : Int) (h0 : 0 ≤ i) (h1 : i < n) : ∃ ad , A = some ad ∧ w.cell? (ad.add (i.toNat * 4)) = some (.int .i64 (rd_T40 xs i).f0) ∧ w.cell? ⟨(ad.add (i.toNat * 4)).block, (ad.add (i.toNat * 4)).off + 1, none⟩ = some (.int .i64 (rd_T40 xs i).f1) ∧ w.cell? ⟨(ad.add (i.toNat * 4)).block, (ad.add (i.toNat * 4)).off + 2, none⟩ = some (.int .i64 (rd_T40 xs i).f2) ∧ w.cell? ⟨(ad.add (i.toNat * 4)).block, (ad.add (i.toNat * 4)).off + 3, none⟩ = some (.int .i64 (rd_T40 xs i).f3) := by
 obtain ⟨ad, c, e, _, hK, hc0⟩ := Kd.C_get h z40 i h0 h1
 have hc : ∀ j u, c[j]? = some u → w.cell? (ad.add (i.toNat * 4 + j)) = some u := hc0
 obtain rfl := k40_open hK
 exact ⟨ad, e, hc 0 _ rfl, by rw [← add_field _ _ 1 (by omega)]; exact hc 1 _ rfl, by rw [← add_field _ _ 2 (by omega)]; exact hc 2 _ rfl, by rw [← add_field _ _ 3 (by omega)]; exact hc 3 _ rfl⟩
end PL
/-- The value of a table that is an answer: none, or these zones, in cells that can be read. -/
def TabC (id m u b c z s me o a l : Int) (r : Option (List S59)) (W : World) (v : Value) : Prop :=
  (r = none ∧ v = tabV 0 0 0 0 0 0 0 0 0 0 0 (.slice none 0 0)) ∨ ∃ (L : List S59) (A : Option Addr) (k : Nat), r = some L ∧ v = tabV id m u b c z s me o a l (.slice A L.length k) ∧ L.length ≤ k ∧ Kd.C k59 W A L.length L
/-- The value of a table that is an answer: none, or zones in a row of its own; or the table that came in. -/
def TabD (id m u b c z s me o a l : Int) (r : Option (List S59)) (L : List S59) (sl : Value) (base : Nat) (W : World) (v : Value) : Prop := TabR id m u b c z s me o a l r base W v ∨ (r = some L ∧ v = tabV id m u b c z s me o a l sl)
section
variable {id m u b c z s me o a l : Int} {r : Option (List S59)} {base g : Nat} {W W' : World} {v : Value}
theorem TabR_open (h : TabR id m u b c z s me o a l r base W v) : ∃ (q0 q1 q2 q3 q4 q5 q6 q7 q8 q9 q10 : Int) (A : Option Addr) (n k : Nat), v = tabV q0 q1 q2 q3 q4 q5 q6 q7 q8 q9 q10 (.slice A n k) := by
  rcases h with ⟨_, rfl⟩ | ⟨L, y, _, rfl, hR⟩
  · exact ⟨_, _, _, _, _, _, _, _, _, _, _, _, _, _, rfl⟩
  · obtain ⟨A, k, rfl⟩ := Kd.R_slice hR
    exact ⟨_, _, _, _, _, _, _, _, _, _, _, _, _, _, rfl⟩
theorem TabR_below (h : TabR id m u b c z s me o a l r base W v) (hb : Below W.heap.size W W') : TabR id m u b c z s me o a l r base W' v := by
  rcases h with h | ⟨L, y, h1, h2, hR⟩
  · exact .inl h
  · exact .inr ⟨L, y, h1, h2, Kd.R_below hR hb⟩
theorem TabR_lower {base' : Nat} (h : TabR id m u b c z s me o a l r base W v) (hb : base' ≤ base) : TabR id m u b c z s me o a l r base' W v := by
  rcases h with h | ⟨L, y, h1, h2, hR⟩
  · exact .inl h
  · exact .inr ⟨L, y, h1, h2, Kd.R_lower hR hb⟩
theorem TabR_drew (h : TabR id m u b c z s me o a l r base W v) : TabR id m u b c z s me o a l r base W.drew v := TabR_below h (below_drew1 (Below.refl _ _))
theorem TabR12 {cs : Array Value} {y0 y1 y2 y3 y4 y5 y6 y7 y8 y9 y10 y11 : Value} (h : TabR id m u b c z s me o a l r base W v) (hb : W.heap[g]? = some (.cells cs 27 (0, 0))) : TabR id m u b c z s me o a l r base ((((((((((((W.setCell ⟨g, 0, none⟩ y0).setCell ⟨g, 1, none⟩ y1).setCell ⟨g, 2, none⟩ y2).setCell ⟨g, 3, none⟩ y3).setCell ⟨g, 4, none⟩ y4).setCell ⟨g, 5, none⟩ y5).setCell ⟨g, 6, none⟩ y6).setCell ⟨g, 7, none⟩ y7).setCell ⟨g, 8, none⟩ y8).setCell ⟨g, 9, none⟩ y9).setCell ⟨g, 10, none⟩ y10).setCell ⟨g, 11, none⟩ y11) v := by
  rcases h with h | ⟨L, y, h1, h2, hR⟩
  · exact .inl h
  · exact .inr ⟨L, y, h1, h2, R12 hR hb (by decide)⟩
theorem TabR_C (h : TabR id m u b c z s me o a l r base W v) : TabC id m u b c z s me o a l r W v := by
  rcases h with h | ⟨L, y, rfl, rfl, hR⟩
  · exact .inl h
  · obtain ⟨A, k, rfl, hle, hC⟩ := Kd.R_reads hR
    exact .inr ⟨L, A, k, rfl, rfl, hle, hC⟩
theorem TabC_below (h : TabC id m u b c z s me o a l r W v) (hb : Below W.heap.size W W') : TabC id m u b c z s me o a l r W' v := by
  rcases h with h | ⟨L, A, k, h1, h2, hle, hC⟩
  · exact .inl h
  · exact .inr ⟨L, A, k, h1, h2, hle, Kd.C_below hC hb⟩
theorem TabC_open (h : TabC id m u b c z s me o a l r W v) : ∃ (q0 q1 q2 q3 q4 q5 q6 q7 q8 q9 q10 : Int) (A : Option Addr) (n k : Nat), v = tabV q0 q1 q2 q3 q4 q5 q6 q7 q8 q9 q10 (.slice A n k) := by
  rcases h with ⟨_, rfl⟩ | ⟨L, A, k, _, rfl, _, _⟩ <;> exact ⟨_, _, _, _, _, _, _, _, _, _, _, _, _, _, rfl⟩
theorem TabD_open {L : List S59} {A : Option Addr} {n k : Nat} (h : TabD id m u b c z s me o a l r L (.slice A n k) base W v) : ∃ (q0 q1 q2 q3 q4 q5 q6 q7 q8 q9 q10 : Int) (A : Option Addr) (n k : Nat), v = tabV q0 q1 q2 q3 q4 q5 q6 q7 q8 q9 q10 (.slice A n k) := by
  rcases h with h | ⟨_, rfl⟩
  · exact TabR_open h
  · exact ⟨_, _, _, _, _, _, _, _, _, _, _, _, _, _, rfl⟩
theorem TabD_some {L L' : List S59} {A : Option Addr} {k : Nat} (h : TabD id m u b c z s me o a l (some L') L (.slice A L.length k) base W v) (hR : Kd.R k59 59 W base (fun _ => True) (.slice A L.length k) L) :
    ∃ (A' : Option Addr) (k' : Nat), v = tabV id m u b c z s me o a l (.slice A' L'.length k') ∧ Kd.R k59 59 W base (fun _ => True) (.slice A' L'.length k') L' := by
  rcases h with (⟨h, _⟩ | ⟨L1, y, h1, rfl, h2⟩) | ⟨h1, rfl⟩
  · cases h
  · cases h1
    obtain ⟨A', k', rfl⟩ := Kd.R_slice h2
    exact ⟨A', k', rfl, h2⟩
  · cases h1
    exact ⟨A, k, rfl, hR⟩
theorem TabD_below {L : List S59} {sl : Value} (h : TabD id m u b c z s me o a l r L sl base W v) (hb : Below W.heap.size W W') : TabD id m u b c z s me o a l r L sl base W' v := h.imp (fun h => TabR_below h hb) (fun h => h)
theorem TabD_lower {L : List S59} {sl : Value} {base' : Nat} (h : TabD id m u b c z s me o a l r L sl base W v) (hb : base' ≤ base) : TabD id m u b c z s me o a l r L sl base' W v := h.imp (fun h => TabR_lower h hb) (fun h => h)
theorem TabD12 {L : List S59} {sl : Value} {cs : Array Value} {y0 y1 y2 y3 y4 y5 y6 y7 y8 y9 y10 y11 : Value} (h : TabD id m u b c z s me o a l r L sl base W v) (hb : W.heap[g]? = some (.cells cs 27 (0, 0))) : TabD id m u b c z s me o a l r L sl base ((((((((((((W.setCell ⟨g, 0, none⟩ y0).setCell ⟨g, 1, none⟩ y1).setCell ⟨g, 2, none⟩ y2).setCell ⟨g, 3, none⟩ y3).setCell ⟨g, 4, none⟩ y4).setCell ⟨g, 5, none⟩ y5).setCell ⟨g, 6, none⟩ y6).setCell ⟨g, 7, none⟩ y7).setCell ⟨g, 8, none⟩ y8).setCell ⟨g, 9, none⟩ y9).setCell ⟨g, 10, none⟩ y10).setCell ⟨g, 11, none⟩ y11) v := h.imp (fun h => TabR12 h hb) (fun h => h)
end
theorem al4 (w : World) (o o' o2 o3 : Obj) : ((((w.alloc o).alloc o').alloc o2).alloc o3).heap[w.heap.size]? = some o ∧ ((((w.alloc o).alloc o').alloc o2).alloc o3).heap[w.heap.size + 1]? = some o' ∧ ((((w.alloc o).alloc o').alloc o2).alloc o3).heap[w.heap.size + 1 + 1]? = some o2 ∧ ((((w.alloc o).alloc o').alloc o2).alloc o3).heap[w.heap.size + 1 + 1 + 1]? = some o3 ∧ Below w.heap.size w ((((w.alloc o).alloc o').alloc o2).alloc o3) := by
  have h := blk_new (((w.alloc o).alloc o').alloc o2) o3
  rw [sz3] at h
  have k := al3 w o o' o2
  exact ⟨blk_alloc k.1 o3, blk_alloc k.2.1 o3, blk_alloc k.2.2.1 o3, h, below_alloc k.2.2.2 o3⟩
theorem sz4 (w : World) (o o' o2 o3 : Obj) : ((((w.alloc o).alloc o').alloc o2).alloc o3).heap.size = w.heap.size + 1 + 1 + 1 + 1 := (Array.size_push (xs := (((w.alloc o).alloc o').alloc o2).heap) o3).trans (congrArg (· + 1) (sz3 w o o' o2))
/-- What a table's block holds. -/
abbrev tcT (g : Nat) (q0 q1 q2 q3 q4 q5 q6 q7 q8 q9 q10 : Int) (v : Value) (W : World) : Prop := W.cell? ⟨g, 0, none⟩ = some (.int .i64 q0) ∧ W.cell? ⟨g, 1, none⟩ = some (.int .i64 q1) ∧ W.cell? ⟨g, 2, none⟩ = some (.int .i64 q2) ∧ W.cell? ⟨g, 3, none⟩ = some (.int .i64 q3) ∧ W.cell? ⟨g, 4, none⟩ = some (.int .i64 q4) ∧ W.cell? ⟨g, 5, none⟩ = some (.int .i64 q5) ∧ W.cell? ⟨g, 6, none⟩ = some (.int .i64 q6) ∧ W.cell? ⟨g, 7, none⟩ = some (.int .i64 q7) ∧ W.cell? ⟨g, 8, none⟩ = some (.int .i64 q8) ∧ W.cell? ⟨g, 9, none⟩ = some (.int .i64 q9) ∧ W.cell? ⟨g, 10, none⟩ = some (.int .i64 q10) ∧ W.cell? ⟨g, 11, none⟩ = some v
theorem tcT_of {g : Nat} {q0 q1 q2 q3 q4 q5 q6 q7 q8 q9 q10 : Int} {v : Value} {W : World} (h : W.heap[g]? = some (tabO q0 q1 q2 q3 q4 q5 q6 q7 q8 q9 q10 v)) : tcT g q0 q1 q2 q3 q4 q5 q6 q7 q8 q9 q10 v W := cz12 h
abbrev actO (d i p k : Int) : Obj := .cells #[.int .i64 d, .int .i64 i, .int .i64 p, .int .i64 k] 40
abbrev actV (x : S40) : Value := .agg #[.int .i64 x.f0, .int .i64 x.f1, .int .i64 x.f2, .int .i64 x.f3]
end Go.Proofs.Ytgckcaoncjhgbaa
