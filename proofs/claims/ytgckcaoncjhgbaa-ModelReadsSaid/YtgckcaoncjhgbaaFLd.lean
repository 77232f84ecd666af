/- Words for revetmentlaw17.does: tables that are answers, carried on. -/
/- revetmentlaw17.live: the page's example. -/
/- revetmentlaw17.does: a call of package lzone, by its number. -/
/- revetmentlaw17.does: Read, no call; all calls. -/
import Derived.Test.YtgckcaoncjhgbaaFLa
import Derived.WalkKit
import Derived.WalkSpells
import Derived.WalkLawsBesides
import Derived.Lib.Hide
import Derived.Test.YtgckcaoncjhgbaaLzWrite
import Derived.Test.YtgckcaoncjhgbaaPLx10
import Derived.Test.YtgckcaoncjhgbaaPLx2
import Derived.Test.YtgckcaoncjhgbaaPLx3
import Derived.Test.YtgckcaoncjhgbaaPLx4
import Derived.Test.YtgckcaoncjhgbaaLzOps
namespace Go.Proofs.Ytgckcaoncjhgbaa
open Go.RowKit Go.Proofs.Ytgckcaoncjhgbaa.PL Go.Proofs.YtgckcaoncjhgbaaW.PrintWords Go.Proofs.YtgckcaoncjhgbaaW.PrintLast
set_option linter.unusedVariables false
set_option linter.unusedSimpArgs false
namespace PL
-- the type of a call (as the kit's print writes a struct type)
structure S40 where
  f0 : Int
  f1 : Int
  f2 : Int
  f3 : Int
def z40 : S40 := ⟨(0 : Int), (0 : Int), (0 : Int), (0 : Int)⟩
def k40 : Kd S40 := Kd.iso (Kd.pair (Kd.int .i64) (Kd.pair (Kd.int .i64) (Kd.pair (Kd.int .i64) (Kd.int .i64)))) (fun x : S40 => (x.f0, x.f1, x.f2, x.f3))
theorem k40_open {w : World} {x : S40} {cs : List Value} (h : k40.K w x cs) : cs = [.int .i64 x.f0, .int .i64 x.f1, .int .i64 x.f2, .int .i64 x.f3] := by
 obtain ⟨_, _, rfl, rfl, ⟨_, _, rfl, rfl, ⟨_, _, rfl, rfl, rfl⟩⟩⟩ := h
 exact rfl
theorem k40_openM {w : World} {base : Nat} {ok : Nat → Prop} {x : S40} {cs : List Value} (h : k40.M w base ok x cs) : cs = [.int .i64 x.f0, .int .i64 x.f1, .int .i64 x.f2, .int .i64 x.f3] := by
 obtain ⟨_, _, rfl, rfl, ⟨_, _, rfl, rfl, ⟨_, _, rfl, rfl, rfl⟩⟩⟩ := h
 exact rfl
theorem k40_mk (w : World) (x : S40)  : k40.K w x [.int .i64 x.f0, .int .i64 x.f1, .int .i64 x.f2, .int .i64 x.f3] := ⟨[.int .i64 x.f0], [.int .i64 x.f1, .int .i64 x.f2, .int .i64 x.f3], rfl, rfl, ⟨[.int .i64 x.f1], [.int .i64 x.f2, .int .i64 x.f3], rfl, rfl, ⟨[.int .i64 x.f2], [.int .i64 x.f3], rfl, rfl, rfl⟩⟩⟩
theorem k40_mkM (w : World) (base : Nat) (ok : Nat → Prop) (x : S40)  : k40.M w base ok x [.int .i64 x.f0, .int .i64 x.f1, .int .i64 x.f2, .int .i64 x.f3] := ⟨[.int .i64 x.f0], [.int .i64 x.f1, .int .i64 x.f2, .int .i64 x.f3], rfl, rfl, ⟨[.int .i64 x.f1], [.int .i64 x.f2, .int .i64 x.f3], rfl, rfl, ⟨[.int .i64 x.f2], [.int .i64 x.f3], rfl, rfl, rfl⟩⟩⟩
def rd_T40 (xs : List S40) (i : Int) : S40 := xs.getD i.toNat z40
theorem at_T40 {w : World} {A : Option Addr} {n : Nat} {xs : List S40} (h : Kd.C k40 w A n xs) (i : Int) (h0 : 0 ≤ i) (h1 : i < n) : ∃ ad , A = some ad ∧ w.cell? (ad.add (i.toNat * 4)) = some (.int .i64 (rd_T40 xs i).f0) ∧ w.cell? ⟨(ad.add (i.toNat * 4)).block, (ad.add (i.toNat * 4)).off + 1, none⟩ = some (.int .i64 (rd_T40 xs i).f1) ∧ w.cell? ⟨(ad.add (i.toNat * 4)).block, (ad.add (i.toNat * 4)).off + 2, none⟩ = some (.int .i64 (rd_T40 xs i).f2) ∧ w.cell? ⟨(ad.add (i.toNat * 4)).block, (ad.add (i.toNat * 4)).off + 3, none⟩ = some (.int .i64 (rd_T40 xs i).f3) := by
 obtain ⟨ad, c, e, _, hK, hc0⟩ := Kd.C_get h z40 i h0 h1
 have hc : ∀ j u, c[j]? = some u → w.cell? (ad.add (i.toNat * 4 + j)) = some u := hc0
 obtain rfl := k40_open hK
 exact ⟨ad, e, hc 0 _ rfl, by rw [← add_field _ _ 1 (by omega)]; exact hc 1 _ rfl, by rw [← add_field _ _ 2 (by omega)]; exact hc 2 _ rfl, by rw [← add_field _ _ 3 (by omega)]; exact hc 3 _ rfl⟩
end PL
/-- The value of a table that is an answer: none, or these zones, in cells that can be read. -/
def TabC (id m u b c z s me o a l : Int) (r : Option (List S59)) (W : World) (v : Value) : Prop :=
  (r = none ∧ v = tabV 0 0 0 0 0 0 0 0 0 0 0 (.slice none 0 0)) ∨ ∃ (L : List S59) (A : Option Addr) (k : Nat), r = some L ∧ v = tabV id m u b c z s me o a l (.slice A L.length k) ∧ L.length ≤ k ∧ Kd.C k59 W A L.length L
/-- The value of a table that is an answer: none, or zones in a row of its own; or the table that came in. -/
def TabD (id m u b c z s me o a l : Int) (r : Option (List S59)) (L : List S59) (sl : Value) (base : Nat) (W : World) (v : Value) : Prop := TabR id m u b c z s me o a l r base W v ∨ (r = some L ∧ v = tabV id m u b c z s me o a l sl)
section
variable {id m u b c z s me o a l : Int} {r : Option (List S59)} {base g : Nat} {W W' : World} {v : Value}
theorem TabR_open (h : TabR id m u b c z s me o a l r base W v) : ∃ (q0 q1 q2 q3 q4 q5 q6 q7 q8 q9 q10 : Int) (A : Option Addr) (n k : Nat), v = tabV q0 q1 q2 q3 q4 q5 q6 q7 q8 q9 q10 (.slice A n k) := by
  rcases h with ⟨_, rfl⟩ | ⟨L, y, _, rfl, hR⟩
  · exact ⟨_, _, _, _, _, _, _, _, _, _, _, _, _, _, rfl⟩
  · obtain ⟨A, k, rfl⟩ := Kd.R_slice hR
    exact ⟨_, _, _, _, _, _, _, _, _, _, _, _, _, _, rfl⟩
theorem TabR_below (h : TabR id m u b c z s me o a l r base W v) (hb : Below W.heap.size W W') : TabR id m u b c z s me o a l r base W' v := by
  rcases h with h | ⟨L, y, h1, h2, hR⟩
  · exact .inl h
  · exact .inr ⟨L, y, h1, h2, Kd.R_below hR hb⟩
theorem TabR_lower {base' : Nat} (h : TabR id m u b c z s me o a l r base W v) (hb : base' ≤ base) : TabR id m u b c z s me o a l r base' W v := by
  rcases h with h | ⟨L, y, h1, h2, hR⟩
  · exact .inl h
  · exact .inr ⟨L, y, h1, h2, Kd.R_lower hR hb⟩
theorem TabR_drew (h : TabR id m u b c z s me o a l r base W v) : TabR id m u b c z s me o a l r base W.drew v := TabR_below h (below_drew1 (Below.refl _ _))
theorem TabR12 {cs : Array Value} {y0 y1 y2 y3 y4 y5 y6 y7 y8 y9 y10 y11 : Value} (h : TabR id m u b c z s me o a l r base W v) (hb : W.heap[g]? = some (.cells cs 27 (0, 0))) : TabR id m u b c z s me o a l r base ((((((((((((W.setCell ⟨g, 0, none⟩ y0).setCell ⟨g, 1, none⟩ y1).setCell ⟨g, 2, none⟩ y2).setCell ⟨g, 3, none⟩ y3).setCell ⟨g, 4, none⟩ y4).setCell ⟨g, 5, none⟩ y5).setCell ⟨g, 6, none⟩ y6).setCell ⟨g, 7, none⟩ y7).setCell ⟨g, 8, none⟩ y8).setCell ⟨g, 9, none⟩ y9).setCell ⟨g, 10, none⟩ y10).setCell ⟨g, 11, none⟩ y11) v := by
  rcases h with h | ⟨L, y, h1, h2, hR⟩
  · exact .inl h
  · exact .inr ⟨L, y, h1, h2, R12 hR hb (by decide)⟩
theorem TabR_C (h : TabR id m u b c z s me o a l r base W v) : TabC id m u b c z s me o a l r W v := by
  rcases h with h | ⟨L, y, rfl, rfl, hR⟩
  · exact .inl h
  · obtain ⟨A, k, rfl, hle, hC⟩ := Kd.R_reads hR
    exact .inr ⟨L, A, k, rfl, rfl, hle, hC⟩
theorem TabC_below (h : TabC id m u b c z s me o a l r W v) (hb : Below W.heap.size W W') : TabC id m u b c z s me o a l r W' v := by
  rcases h with h | ⟨L, A, k, h1, h2, hle, hC⟩
  · exact .inl h
  · exact .inr ⟨L, A, k, h1, h2, hle, Kd.C_below hC hb⟩
theorem TabC_open (h : TabC id m u b c z s me o a l r W v) : ∃ (q0 q1 q2 q3 q4 q5 q6 q7 q8 q9 q10 : Int) (A : Option Addr) (n k : Nat), v = tabV q0 q1 q2 q3 q4 q5 q6 q7 q8 q9 q10 (.slice A n k) := by
  rcases h with ⟨_, rfl⟩ | ⟨L, A, k, _, rfl, _, _⟩ <;> exact ⟨_, _, _, _, _, _, _, _, _, _, _, _, _, _, rfl⟩
theorem TabD_open {L : List S59} {A : Option Addr} {n k : Nat} (h : TabD id m u b c z s me o a l r L (.slice A n k) base W v) : ∃ (q0 q1 q2 q3 q4 q5 q6 q7 q8 q9 q10 : Int) (A : Option Addr) (n k : Nat), v = tabV q0 q1 q2 q3 q4 q5 q6 q7 q8 q9 q10 (.slice A n k) := by
  rcases h with h | ⟨_, rfl⟩
  · exact TabR_open h
  · exact ⟨_, _, _, _, _, _, _, _, _, _, _, _, _, _, rfl⟩
theorem TabD_some {L L' : List S59} {A : Option Addr} {k : Nat} (h : TabD id m u b c z s me o a l (some L') L (.slice A L.length k) base W v) (hR : Kd.R k59 59 W base (fun _ => True) (.slice A L.length k) L) :
    ∃ (A' : Option Addr) (k' : Nat), v = tabV id m u b c z s me o a l (.slice A' L'.length k') ∧ Kd.R k59 59 W base (fun _ => True) (.slice A' L'.length k') L' := by
  rcases h with (⟨h, _⟩ | ⟨L1, y, h1, rfl, h2⟩) | ⟨h1, rfl⟩
  · cases h
  · cases h1
    obtain ⟨A', k', rfl⟩ := Kd.R_slice h2
    exact ⟨A', k', rfl, h2⟩
  · cases h1
    exact ⟨A, k, rfl, hR⟩
theorem TabD_below {L : List S59} {sl : Value} (h : TabD id m u b c z s me o a l r L sl base W v) (hb : Below W.heap.size W W') : TabD id m u b c z s me o a l r L sl base W' v := h.imp (fun h => TabR_below h hb) (fun h => h)
theorem TabD_lower {L : List S59} {sl : Value} {base' : Nat} (h : TabD id m u b c z s me o a l r L sl base W v) (hb : base' ≤ base) : TabD id m u b c z s me o a l r L sl base' W v := h.imp (fun h => TabR_lower h hb) (fun h => h)
theorem TabD12 {L : List S59} {sl : Value} {cs : Array Value} {y0 y1 y2 y3 y4 y5 y6 y7 y8 y9 y10 y11 : Value} (h : TabD id m u b c z s me o a l r L sl base W v) (hb : W.heap[g]? = some (.cells cs 27 (0, 0))) : TabD id m u b c z s me o a l r L sl base ((((((((((((W.setCell ⟨g, 0, none⟩ y0).setCell ⟨g, 1, none⟩ y1).setCell ⟨g, 2, none⟩ y2).setCell ⟨g, 3, none⟩ y3).setCell ⟨g, 4, none⟩ y4).setCell ⟨g, 5, none⟩ y5).setCell ⟨g, 6, none⟩ y6).setCell ⟨g, 7, none⟩ y7).setCell ⟨g, 8, none⟩ y8).setCell ⟨g, 9, none⟩ y9).setCell ⟨g, 10, none⟩ y10).setCell ⟨g, 11, none⟩ y11) v := h.imp (fun h => TabR12 h hb) (fun h => h)
end
theorem al4 (w : World) (o o' o2 o3 : Obj) : ((((w.alloc o).alloc o').alloc o2).alloc o3).heap[w.heap.size]? = some o ∧ ((((w.alloc o).alloc o').alloc o2).alloc o3).heap[w.heap.size + 1]? = some o' ∧ ((((w.alloc o).alloc o').alloc o2).alloc o3).heap[w.heap.size + 1 + 1]? = some o2 ∧ ((((w.alloc o).alloc o').alloc o2).alloc o3).heap[w.heap.size + 1 + 1 + 1]? = some o3 ∧ Below w.heap.size w ((((w.alloc o).alloc o').alloc o2).alloc o3) := by
  have h := blk_new (((w.alloc o).alloc o').alloc o2) o3
  rw [sz3] at h
  have k := al3 w o o' o2
  exact ⟨blk_alloc k.1 o3, blk_alloc k.2.1 o3, blk_alloc k.2.2.1 o3, h, below_alloc k.2.2.2 o3⟩
theorem sz4 (w : World) (o o' o2 o3 : Obj) : ((((w.alloc o).alloc o').alloc o2).alloc o3).heap.size = w.heap.size + 1 + 1 + 1 + 1 := (Array.size_push (xs := (((w.alloc o).alloc o').alloc o2).heap) o3).trans (congrArg (· + 1) (sz3 w o o' o2))
/-- What a table's block holds. -/
abbrev tcT (g : Nat) (q0 q1 q2 q3 q4 q5 q6 q7 q8 q9 q10 : Int) (v : Value) (W : World) : Prop := W.cell? ⟨g, 0, none⟩ = some (.int .i64 q0) ∧ W.cell? ⟨g, 1, none⟩ = some (.int .i64 q1) ∧ W.cell? ⟨g, 2, none⟩ = some (.int .i64 q2) ∧ W.cell? ⟨g, 3, none⟩ = some (.int .i64 q3) ∧ W.cell? ⟨g, 4, none⟩ = some (.int .i64 q4) ∧ W.cell? ⟨g, 5, none⟩ = some (.int .i64 q5) ∧ W.cell? ⟨g, 6, none⟩ = some (.int .i64 q6) ∧ W.cell? ⟨g, 7, none⟩ = some (.int .i64 q7) ∧ W.cell? ⟨g, 8, none⟩ = some (.int .i64 q8) ∧ W.cell? ⟨g, 9, none⟩ = some (.int .i64 q9) ∧ W.cell? ⟨g, 10, none⟩ = some (.int .i64 q10) ∧ W.cell? ⟨g, 11, none⟩ = some v
theorem tcT_of {g : Nat} {q0 q1 q2 q3 q4 q5 q6 q7 q8 q9 q10 : Int} {v : Value} {W : World} (h : W.heap[g]? = some (tabO q0 q1 q2 q3 q4 q5 q6 q7 q8 q9 q10 v)) : tcT g q0 q1 q2 q3 q4 q5 q6 q7 q8 q9 q10 v W := cz12 h
abbrev actO (d i p k : Int) : Obj := .cells #[.int .i64 d, .int .i64 i, .int .i64 p, .int .i64 k] 40
abbrev actV (x : S40) : Value := .agg #[.int .i64 x.f0, .int .i64 x.f1, .int .i64 x.f2, .int .i64 x.f3]
end Go.Proofs.Ytgckcaoncjhgbaa
namespace Go.Proofs.Ytgckcaoncjhgbaa
open Go.RowKit Go.Proofs.Ytgckcaoncjhgbaa.PL Go.Proofs.YtgckcaoncjhgbaaW.PrintWords Go.Proofs.YtgckcaoncjhgbaaW.PrintLast
set_option linter.unusedVariables false
set_option linter.unusedSimpArgs false
-- conf_Plain.calls lzone_New.calls revetmentlaw17_code.calls
theorem code_any (x : Int) (W : World) : Calls Try.prog 12 #[.int .i64 x] W fun e w' => e = .returned (.int .i64 x) ∧ Below W.heap.size W w' := by
  refine (revetmentlaw17_code.calls x x W rfl).mono ?_
  rintro e w' ⟨rfl, nd, rfl⟩
  exact ⟨rfl, pw_below_drewN (Below.refl _ _) nd⟩
theorem live_new : lzone_New.f 7 4 2 64 24 3 1 3 2 3 7 = some (7, 4, 2, 64, 24, 3, 1, 3, 2, 3, 7, [⟨0, 0, 0⟩, ⟨0, 0, 0⟩, ⟨0, 0, 0⟩], 0) := by
  have h : checkC 7 4 2 64 24 3 1 3 2 3 7 = 0 := by decide
  unfold lzone_New.f conf_Check.f
  rw [Option.bind_some, h]
  rfl
theorem live_w1 : writeZ 7 4 2 64 24 3 1 3 2 3 7 [⟨0, 0, 0⟩, ⟨0, 0, 0⟩, ⟨0, 0, 0⟩] 0 0 72 = (some [⟨3, 72, 0⟩, ⟨0, 0, 0⟩, ⟨0, 0, 0⟩], 0) := by kernel_rfl
theorem live_w2 : writeZ 7 4 2 64 24 3 1 3 2 3 7 [⟨3, 72, 0⟩, ⟨0, 0, 0⟩, ⟨0, 0, 0⟩] 0 72 1 = (none, 6) := by kernel_rfl
set_option maxHeartbeats 4000000 in
set_option maxRecDepth 100000 in
theorem live_any (w : World) : Calls Try.prog 14 #[] w fun e w' => e = .returned (.bool true) ∧ Below w.heap.size w w' := by
  have hw1 : ∀ (W : World) (A : Option Addr) (c : Nat), Kd.C k59 W A 3 ([⟨0, 0, 0⟩, ⟨0, 0, 0⟩, ⟨0, 0, 0⟩] : List S59) → 3 ≤ c → Calls Try.prog 56 #[tabV 7 4 2 64 24 3 1 3 2 3 7 (.slice A 3 c), .int .i64 0, .int .i64 0, .int .i64 72] W fun e w' => ∃ y, e = .returned (.tuple #[tabV 7 4 2 64 24 3 1 3 2 3 7 y, .int .i64 0]) ∧ Kd.R k59 59 w' W.heap.size (fun _ => True) y ([⟨3, 72, 0⟩, ⟨0, 0, 0⟩, ⟨0, 0, 0⟩] : List S59) ∧ Below W.heap.size W w' := by
    intro W A c hC hc
    refine (write_any 7 4 2 64 24 3 1 3 2 3 7 A c [⟨0, 0, 0⟩, ⟨0, 0, 0⟩, ⟨0, 0, 0⟩] 0 0 72 W hC hc).mono ?_
    rintro e w' ⟨v, rfl, hT, hb⟩
    rw [live_w1] at hT ⊢
    rcases hT with ⟨h, _⟩ | ⟨L, y, h, rfl, hR⟩
    · cases h
    · cases h; exact ⟨y, rfl, hR, hb⟩
  have hw2 : ∀ (W : World) (A : Option Addr) (c : Nat), Kd.C k59 W A 3 ([⟨3, 72, 0⟩, ⟨0, 0, 0⟩, ⟨0, 0, 0⟩] : List S59) → 3 ≤ c → Calls Try.prog 56 #[tabV 7 4 2 64 24 3 1 3 2 3 7 (.slice A 3 c), .int .i64 0, .int .i64 72, .int .i64 1] W fun e w' => e = .returned (.tuple #[tabV 0 0 0 0 0 0 0 0 0 0 0 (.slice none 0 0), .int .i64 6]) ∧ Below W.heap.size W w' := by
    intro W A c hC hc
    refine (write_any 7 4 2 64 24 3 1 3 2 3 7 A c [⟨3, 72, 0⟩, ⟨0, 0, 0⟩, ⟨0, 0, 0⟩] 0 72 1 W hC hc).mono ?_
    rintro e w' ⟨v, rfl, hT, hb⟩
    rw [live_w2] at hT ⊢
    rcases hT with ⟨_, rfl⟩ | ⟨L, y, h, _⟩
    · exact ⟨rfl, hb⟩
    · cases h
  have HW1 := Lib.hid hw1; have HW2 := Lib.hid hw2; clear hw1 hw2
  have hnew := fun W => lzone_New.calls 7 4 2 64 24 3 1 3 2 3 7 7 4 2 64 24 3 1 3 2 3 7 [⟨0, 0, 0⟩, ⟨0, 0, 0⟩, ⟨0, 0, 0⟩] 0 W live_new
  have hpl := fun W => conf_Plain.calls 7 4 2 64 24 3 1 3 2 3 7 W rfl
  have hco : ∀ (x : Int) (W : World), Calls Try.prog 12 #[.int .i64 x] W fun e w' => e = .returned (.int .i64 x) ∧ Below W.heap.size W w' := fun x W => code_any x W
  have HN := Lib.hid hnew; have HP := Lib.hid hpl; have HC := Lib.hid hco; clear hnew hpl hco
  go_enter Try.func14, Try.ntmps14
  go_wp2_with first
    | (go_at_call 55; refine (HP.out _).mono ?_; rintro e w1 ⟨rfl, hb1⟩; have HB1 := Lib.hid hb1; clear hb1)
    | (go_at_call 11; refine (HN.out _).mono ?_; rintro e w2 ⟨v, rfl, hR, hb2⟩; obtain ⟨A2, c2, rfl, hle2, hC2⟩ := Kd.R_reads hR; have HB2 := Lib.hid (below_alloc (below_step HB1.out hb2) (tabO 7 4 2 64 24 3 1 3 2 3 7 (.slice A2 3 c2))); have K2 := Lib.hid (blk_new w2 (tabO 7 4 2 64 24 3 1 3 2 3 7 (.slice A2 3 c2))); have C2 := Lib.hid (Kd.C_alloc hC2 (tabO 7 4 2 64 24 3 1 3 2 3 7 (.slice A2 3 c2))); have hg2 : w.heap.size ≤ w2.heap.size := (Nat.le_trans HB1.out.size hb2.size); clear hb2 hR hC2; obtain ⟨a0, a1, a2, a3, a4, a5, a6, a7, a8, a9, a10, a11⟩ := cz12 K2.out; obtain ⟨af0, af1, af2, af3, af4, af5, af6, af7, af8, af9, af10, af11⟩ := fz12 K2.out)
    | (go_at_call 56; with_reducible refine (HW1.out _ _ _ C2.out hle2).mono ?_; rintro e w3 ⟨v, rfl, hR, hb3⟩; obtain ⟨A3, c3, rfl⟩ := Kd.R_slice hR; have K3 := Lib.hid (blk_below K2.out hb3); have HR3 := Lib.hid (R12 (y0 := .int .i64 7) (y1 := .int .i64 4) (y2 := .int .i64 2) (y3 := .int .i64 64) (y4 := .int .i64 24) (y5 := .int .i64 3) (y6 := .int .i64 1) (y7 := .int .i64 3) (y8 := .int .i64 2) (y9 := .int .i64 3) (y10 := .int .i64 7) (y11 := .slice A3 3 c3) hR K3.out (by decide)); have HB3 := Lib.hid (below_step HB2.out hb3); obtain ⟨A3x, c3x, e3, hle3, hC3⟩ := Kd.R_reads HR3.out; obtain ⟨rfl, rfl⟩ : A3 = A3x ∧ c3 = c3x := (by injection e3 with p q r; exact ⟨p, r⟩); have HC3 := Lib.hid hC3; clear hC3 hb3 hR e3; obtain ⟨b0, b1, b2, b3, b4, b5, b6, b7, b8, b9, b10, b11⟩ := cz12 K3.out; obtain ⟨bf0, bf1, bf2, bf3, bf4, bf5, bf6, bf7, bf8, bf9, bf10, bf11⟩ := fz12 K3.out)
    | (go_at_call 56; with_reducible refine (HW2.out _ _ _ HC3.out hle3).mono ?_; rintro e w4 ⟨rfl, hb4⟩; have K4 := Lib.hid (blk_below (put12 K3.out) hb4); have HC4 := Lib.hid (Kd.C_below HC3.out hb4); have HB4 := Lib.hid (below_step (bl12 HB3.out hg2) hb4); clear hb4)
    | (go_at_call 12; refine (HC.out _ _).mono ?_; rintro e w5 ⟨rfl, hb⟩; have K5 := Lib.hid (blk_below (blk_alloc K4.out (tabO 0 0 0 0 0 0 0 0 0 0 0 (.slice none 0 0))) hb); have HC5 := Lib.hid (Kd.C_below (Kd.C_alloc HC4.out (tabO 0 0 0 0 0 0 0 0 0 0 0 (.slice none 0 0))) hb); have HB5 := Lib.hid (below_step (below_alloc HB4.out (tabO 0 0 0 0 0 0 0 0 0 0 0 (.slice none 0 0))) hb); clear hb)
    | (go_at_call 12; refine (HC.out _ _).mono ?_; rintro e w6 ⟨rfl, hb⟩; have K6 := Lib.hid (blk_below K5.out hb); have HC6 := Lib.hid (Kd.C_below HC5.out hb); have HB6 := Lib.hid (below_step HB5.out hb); clear hb)
    | (go_at_call 12; refine (HC.out _ _).mono ?_; rintro e w7 ⟨rfl, hb⟩; have K7 := Lib.hid (blk_below K6.out hb); have HC7 := Lib.hid (Kd.C_below HC6.out hb); have HB7 := Lib.hid (below_step HB6.out hb); clear hb; obtain ⟨k70, k71, k72, k73, k74, k75, k76, k77, k78, k79, k710, k711⟩ := cz12 K7.out; obtain ⟨ad, ea, u0, u1, u2⟩ := at_T59 HC7.out 0 (by decide) (by decide); subst ea; have t : w7.cell? ad = some (.int .i64 3) := u0)
  trace_state
  go_ret
  exact ⟨rfl, HB7.out⟩
end Go.Proofs.Ytgckcaoncjhgbaa
namespace Go.Proofs.Ytgckcaoncjhgbaa
open Go.RowKit Go.Proofs.Ytgckcaoncjhgbaa.PL Go.Proofs.YtgckcaoncjhgbaaW.PrintWords Go.Proofs.YtgckcaoncjhgbaaW.PrintLast
set_option linter.unusedVariables false
set_option linter.unusedSimpArgs false
def T16_15 : Bool × List (List Nat × List Nat) := (true, [([], []), ([], []), ([1], [1]), ([0, 2, 0], [0]), ([2, 3, 0, 1, 2, 3], [2])])
theorem tab16_15 : rtab .any (opsOf Try.f16 15) = T16_15 := by kernel_rfl
theorem bits16_15 : waitsOk T16_15.2 [0, 0, 2, 7, 15] = true := by kernel_rfl
set_option maxHeartbeats 4000000 in
set_option maxRecDepth 100000 in
theorem does_Write (id m u b c z s me o a l : Int) (A0 : Option Addr) (c0 : Nat) (L : List S59) (i p k : Int) (w : World) (hr0 : Kd.C k59 w A0 L.length L) (hc0 : L.length ≤ c0) :
    Calls Try.prog 16 #[tabV id m u b c z s me o a l (.slice A0 L.length c0), .agg #[.int .i64 0, .int .i64 i, .int .i64 p, .int .i64 k]] w fun e w' => ∃ v, e = .returned (.tuple #[v, .int .i64 (writeZ id m u b c z s me o a l L i p k).2]) ∧ TabD id m u b c z s me o a l (writeZ id m u b c z s me o a l L i p k).1 L (.slice A0 L.length c0) w.heap.size w' v ∧ Below w.heap.size w w' := by
  have hW := fun W h => write_any id m u b c z s me o a l A0 c0 L i p k W h hc0
  generalize writeZ id m u b c z s me o a l L i p k = rE at hW ⊢
  obtain ⟨r, E⟩ := rE
  dsimp only at hW ⊢
  obtain ⟨n, hn⟩ : ∃ n, n = L.length := ⟨_, rfl⟩
  rw [← hn] at hW hr0 hc0 ⊢
  have HR := Lib.hid hr0; have HW := Lib.hid hW; have Hn := Lib.hid hn; have HC0 := Lib.hid hc0; clear hr0 hW hn hc0
  have H3x := al3 w (tabO id m u b c z s me o a l (.slice A0 n c0)) (actO 0 i p k) (tabO 0 0 0 0 0 0 0 0 0 0 0 (.slice none 0 0))
  obtain ⟨t0, t1, t2, t3, t4, t5, t6, t7, t8, t9, t10, t11⟩ := cz12 H3x.1
  clear H3x
  have H := al4 w (tabO id m u b c z s me o a l (.slice A0 n c0)) (actO 0 i p k) (tabO 0 0 0 0 0 0 0 0 0 0 0 (.slice none 0 0)) (tabO id m u b c z s me o a l (.slice A0 n c0))
  have H0 := Lib.hid H.1; have H1 := Lib.hid H.2.1; have H2 := Lib.hid H.2.2.1; have H3 := Lib.hid H.2.2.2.1; have HB0 := Lib.hid H.2.2.2.2; clear H
  obtain ⟨s0, s1, s2, s3, s4, s5, s6, s7, s8, s9, s10, s11⟩ := cz12 H0.out
  obtain ⟨a0, a1, a2, a3⟩ := cz4 H1.out
  have h23 : w.heap.size + 1 + 1 ≠ w.heap.size + 1 + 1 + 1 := by omega
  have h32 : w.heap.size + 1 + 1 + 1 ≠ w.heap.size + 1 + 1 := by omega
  have hge : w.heap.size ≤ w.heap.size + 1 + 1 := by omega
  have hgf : w.heap.size ≤ w.heap.size + 1 + 1 + 1 := by omega
  go_enter Try.func16, Try.ntmps16
  go_wp2_with (go_at_call 56; refine (HW.out _ (Kd.C_below HR.out HB0.out)).mono ?_; rintro e w5 ⟨v, rfl, hT, hb⟩; obtain ⟨q0, q1, q2, q3, q4, q5, q6, q7, q8, q9, q10, A2, n2, k2, rfl⟩ := TabR_open hT; have G5 := Lib.hid (blk_below H2.out hb); have X5 := Lib.hid (blk_below H3.out hb); have HB5 := Lib.hid (below_step HB0.out hb); have HT5 := Lib.hid (TabR_lower hT HB0.out.size); clear hT hb; obtain ⟨x0, x1, x2, x3, x4, x5, x6, x7, x8, x9, x10, x11⟩ := cz12 X5.out; obtain ⟨xf0, xf1, xf2, xf3, xf4, xf5, xf6, xf7, xf8, xf9, xf10, xf11⟩ := fz12 X5.out)
  refine start_ (n := 5) (S := (tcT (w.heap.size + 1 + 1 + 1) q0 q1 q2 q3 q4 q5 q6 q7 q8 q9 q10 (.slice A2 n2 k2))) (ds := []) (bq 5 0) (by kernel_rfl) rfl (by kernel_rfl) (tcT_of (blk_drew (put12 X5.out))) (fun hHeld => ?_)
  refine with_tabW tab16_15 bits16_15 (fun HT_ HW_ => ?_)
  apply tu 0 72 (bq 5 1) HT_ HW_ hHeld
  apply pu 1 73 (bq 5 3) HT_
  refine one_ (i := 2) (N := some 74) (bq 5 7) rfl rfl (one_of HT_.out (by kernel_rfl)) (by decide) (fun K hK => ?_)
  refine gs Try.func12 #[.int .i64 E] ?_
  refine (code_any _ _).mono ?_
  rintro e w6 ⟨rfl, hb⟩
  refine ⟨_, rfl, ?_⟩
  have G6 := Lib.hid (blk_below (blk_drew (far12 G5.out h23)) hb); have X6 := Lib.hid (blk_below (blk_drew (put12 X5.out)) hb); have HB6 := Lib.hid (below_step (below_drew1 (bl12 HB5.out hgf)) hb); have HT6 := Lib.hid (TabR_below (TabR_drew (TabR12 HT5.out X5.out)) hb); clear hb
  refine hK.out _ _ (tcT_of X6.out) (fun hHeld => ?_)
  clear hK K
  apply nm 0
  refine one_ (i := 3) (N := none) (bq 5 15) rfl rfl (one_of HT_.out (by kernel_rfl)) (by decide) (fun K hK => ?_)
  obtain ⟨g0, g1, g2, g3, g4, g5, g6, g7, g8, g9, g10, g11⟩ := cz12 G6.out
  obtain ⟨gf0, gf1, gf2, gf3, gf4, gf5, gf6, gf7, gf8, gf9, gf10, gf11⟩ := fz12 G6.out
  refine skip_ (w1 := ?_) (by rfl) rfl ?_ ?_
  rotate_left
  · go_simp
    rfl
  refine hK.out _ _ (tcT_of (far12 X6.out h32)) (fun hHeld => ?_)
  clear hK K
  apply pu 4 5 (bq 5 31) HT_
  refine done_ (done_of HT_.out (by kernel_rfl)) ?_
  go_wp2
  refine bodyPost_ret (results_ct rfl _ _ (w.heap.size + 1 + 1) 27 #[.int .i64 q0, .int .i64 q1, .int .i64 q2, .int .i64 q3, .int .i64 q4, .int .i64 q5, .int .i64 q6, .int .i64 q7, .int .i64 q8, .int .i64 q9, .int .i64 q10, .slice A2 n2 k2] (0, 0) _ rfl (put12 G6.out) Try.underlying27 rfl (by kernel_rfl)) rfl ?_
  exact ⟨_, rfl, .inl (TabR12 HT6.out G6.out), bl12 HB6.out hge⟩

set_option maxHeartbeats 4000000 in
set_option maxRecDepth 100000 in
theorem does_Reset (id m u b c z s me o a l : Int) (A0 : Option Addr) (c0 : Nat) (L : List S59) (i p k : Int) (w : World) (hr0 : Kd.C k59 w A0 L.length L) (hc0 : L.length ≤ c0) :
    Calls Try.prog 16 #[tabV id m u b c z s me o a l (.slice A0 L.length c0), .agg #[.int .i64 2, .int .i64 i, .int .i64 p, .int .i64 k]] w fun e w' => ∃ v, e = .returned (.tuple #[v, .int .i64 (resetZ id m u b c z s me o a l L i).2]) ∧ TabD id m u b c z s me o a l (resetZ id m u b c z s me o a l L i).1 L (.slice A0 L.length c0) w.heap.size w' v ∧ Below w.heap.size w w' := by
  have hW := fun W h => reset_any id m u b c z s me o a l A0 c0 L i W h hc0
  generalize resetZ id m u b c z s me o a l L i = rE at hW ⊢
  obtain ⟨r, E⟩ := rE
  dsimp only at hW ⊢
  obtain ⟨n, hn⟩ : ∃ n, n = L.length := ⟨_, rfl⟩
  rw [← hn] at hW hr0 hc0 ⊢
  have HR := Lib.hid hr0; have HW := Lib.hid hW; have Hn := Lib.hid hn; have HC0 := Lib.hid hc0; clear hr0 hW hn hc0
  have H3x := al3 w (tabO id m u b c z s me o a l (.slice A0 n c0)) (actO 2 i p k) (tabO 0 0 0 0 0 0 0 0 0 0 0 (.slice none 0 0))
  obtain ⟨t0, t1, t2, t3, t4, t5, t6, t7, t8, t9, t10, t11⟩ := cz12 H3x.1
  clear H3x
  have H := al4 w (tabO id m u b c z s me o a l (.slice A0 n c0)) (actO 2 i p k) (tabO 0 0 0 0 0 0 0 0 0 0 0 (.slice none 0 0)) (tabO id m u b c z s me o a l (.slice A0 n c0))
  have H0 := Lib.hid H.1; have H1 := Lib.hid H.2.1; have H2 := Lib.hid H.2.2.1; have H3 := Lib.hid H.2.2.2.1; have HB0 := Lib.hid H.2.2.2.2; clear H
  obtain ⟨s0, s1, s2, s3, s4, s5, s6, s7, s8, s9, s10, s11⟩ := cz12 H0.out
  obtain ⟨a0, a1, a2, a3⟩ := cz4 H1.out
  have h23 : w.heap.size + 1 + 1 ≠ w.heap.size + 1 + 1 + 1 := by omega
  have h32 : w.heap.size + 1 + 1 + 1 ≠ w.heap.size + 1 + 1 := by omega
  have hge : w.heap.size ≤ w.heap.size + 1 + 1 := by omega
  have hgf : w.heap.size ≤ w.heap.size + 1 + 1 + 1 := by omega
  go_enter Try.func16, Try.ntmps16
  go_wp2_with (go_at_call 58; refine (HW.out _ (Kd.C_below HR.out HB0.out)).mono ?_; rintro e w5 ⟨v, rfl, hT, hb⟩; obtain ⟨q0, q1, q2, q3, q4, q5, q6, q7, q8, q9, q10, A2, n2, k2, rfl⟩ := TabR_open hT; have G5 := Lib.hid (blk_below H2.out hb); have X5 := Lib.hid (blk_below H3.out hb); have HB5 := Lib.hid (below_step HB0.out hb); have HT5 := Lib.hid (TabR_lower hT HB0.out.size); clear hT hb; obtain ⟨x0, x1, x2, x3, x4, x5, x6, x7, x8, x9, x10, x11⟩ := cz12 X5.out; obtain ⟨xf0, xf1, xf2, xf3, xf4, xf5, xf6, xf7, xf8, xf9, xf10, xf11⟩ := fz12 X5.out)
  refine start_ (n := 5) (S := (tcT (w.heap.size + 1 + 1 + 1) q0 q1 q2 q3 q4 q5 q6 q7 q8 q9 q10 (.slice A2 n2 k2))) (ds := []) (bq 5 0) (by kernel_rfl) rfl (by kernel_rfl) (tcT_of (blk_drew (put12 X5.out))) (fun hHeld => ?_)
  refine with_tabW tab16_15 bits16_15 (fun HT_ HW_ => ?_)
  apply tu 0 72 (bq 5 1) HT_ HW_ hHeld
  apply pu 1 73 (bq 5 3) HT_
  refine one_ (i := 2) (N := some 74) (bq 5 7) rfl rfl (one_of HT_.out (by kernel_rfl)) (by decide) (fun K hK => ?_)
  refine gs Try.func12 #[.int .i64 E] ?_
  refine (code_any _ _).mono ?_
  rintro e w6 ⟨rfl, hb⟩
  refine ⟨_, rfl, ?_⟩
  have G6 := Lib.hid (blk_below (blk_drew (far12 G5.out h23)) hb); have X6 := Lib.hid (blk_below (blk_drew (put12 X5.out)) hb); have HB6 := Lib.hid (below_step (below_drew1 (bl12 HB5.out hgf)) hb); have HT6 := Lib.hid (TabR_below (TabR_drew (TabR12 HT5.out X5.out)) hb); clear hb
  refine hK.out _ _ (tcT_of X6.out) (fun hHeld => ?_)
  clear hK K
  apply nm 0
  refine one_ (i := 3) (N := none) (bq 5 15) rfl rfl (one_of HT_.out (by kernel_rfl)) (by decide) (fun K hK => ?_)
  obtain ⟨g0, g1, g2, g3, g4, g5, g6, g7, g8, g9, g10, g11⟩ := cz12 G6.out
  obtain ⟨gf0, gf1, gf2, gf3, gf4, gf5, gf6, gf7, gf8, gf9, gf10, gf11⟩ := fz12 G6.out
  refine skip_ (w1 := ?_) (by rfl) rfl ?_ ?_
  rotate_left
  · go_simp
    rfl
  refine hK.out _ _ (tcT_of (far12 X6.out h32)) (fun hHeld => ?_)
  clear hK K
  apply pu 4 5 (bq 5 31) HT_
  refine done_ (done_of HT_.out (by kernel_rfl)) ?_
  go_wp2
  refine bodyPost_ret (results_ct rfl _ _ (w.heap.size + 1 + 1) 27 #[.int .i64 q0, .int .i64 q1, .int .i64 q2, .int .i64 q3, .int .i64 q4, .int .i64 q5, .int .i64 q6, .int .i64 q7, .int .i64 q8, .int .i64 q9, .int .i64 q10, .slice A2 n2 k2] (0, 0) _ rfl (put12 G6.out) Try.underlying27 rfl (by kernel_rfl)) rfl ?_
  exact ⟨_, rfl, .inl (TabR12 HT6.out G6.out), bl12 HB6.out hge⟩

set_option maxHeartbeats 4000000 in
set_option maxRecDepth 100000 in
theorem does_Finish (id m u b c z s me o a l : Int) (A0 : Option Addr) (c0 : Nat) (L : List S59) (i p k : Int) (w : World) (hr0 : Kd.C k59 w A0 L.length L) (hc0 : L.length ≤ c0) :
    Calls Try.prog 16 #[tabV id m u b c z s me o a l (.slice A0 L.length c0), .agg #[.int .i64 3, .int .i64 i, .int .i64 p, .int .i64 k]] w fun e w' => ∃ v, e = .returned (.tuple #[v, .int .i64 (finishZ id m u b c z s me o a l L i).2]) ∧ TabD id m u b c z s me o a l (finishZ id m u b c z s me o a l L i).1 L (.slice A0 L.length c0) w.heap.size w' v ∧ Below w.heap.size w w' := by
  have hW := fun W h => finish_any id m u b c z s me o a l A0 c0 L i W h hc0
  generalize finishZ id m u b c z s me o a l L i = rE at hW ⊢
  obtain ⟨r, E⟩ := rE
  dsimp only at hW ⊢
  obtain ⟨n, hn⟩ : ∃ n, n = L.length := ⟨_, rfl⟩
  rw [← hn] at hW hr0 hc0 ⊢
  have HR := Lib.hid hr0; have HW := Lib.hid hW; have Hn := Lib.hid hn; have HC0 := Lib.hid hc0; clear hr0 hW hn hc0
  have H3x := al3 w (tabO id m u b c z s me o a l (.slice A0 n c0)) (actO 3 i p k) (tabO 0 0 0 0 0 0 0 0 0 0 0 (.slice none 0 0))
  obtain ⟨t0, t1, t2, t3, t4, t5, t6, t7, t8, t9, t10, t11⟩ := cz12 H3x.1
  clear H3x
  have H := al4 w (tabO id m u b c z s me o a l (.slice A0 n c0)) (actO 3 i p k) (tabO 0 0 0 0 0 0 0 0 0 0 0 (.slice none 0 0)) (tabO id m u b c z s me o a l (.slice A0 n c0))
  have H0 := Lib.hid H.1; have H1 := Lib.hid H.2.1; have H2 := Lib.hid H.2.2.1; have H3 := Lib.hid H.2.2.2.1; have HB0 := Lib.hid H.2.2.2.2; clear H
  obtain ⟨s0, s1, s2, s3, s4, s5, s6, s7, s8, s9, s10, s11⟩ := cz12 H0.out
  obtain ⟨a0, a1, a2, a3⟩ := cz4 H1.out
  have h23 : w.heap.size + 1 + 1 ≠ w.heap.size + 1 + 1 + 1 := by omega
  have h32 : w.heap.size + 1 + 1 + 1 ≠ w.heap.size + 1 + 1 := by omega
  have hge : w.heap.size ≤ w.heap.size + 1 + 1 := by omega
  have hgf : w.heap.size ≤ w.heap.size + 1 + 1 + 1 := by omega
  go_enter Try.func16, Try.ntmps16
  go_wp2_with (go_at_call 59; refine (HW.out _ (Kd.C_below HR.out HB0.out)).mono ?_; rintro e w5 ⟨v, rfl, hT, hb⟩; obtain ⟨q0, q1, q2, q3, q4, q5, q6, q7, q8, q9, q10, A2, n2, k2, rfl⟩ := TabR_open hT; have G5 := Lib.hid (blk_below H2.out hb); have X5 := Lib.hid (blk_below H3.out hb); have HB5 := Lib.hid (below_step HB0.out hb); have HT5 := Lib.hid (TabR_lower hT HB0.out.size); clear hT hb; obtain ⟨x0, x1, x2, x3, x4, x5, x6, x7, x8, x9, x10, x11⟩ := cz12 X5.out; obtain ⟨xf0, xf1, xf2, xf3, xf4, xf5, xf6, xf7, xf8, xf9, xf10, xf11⟩ := fz12 X5.out)
  refine start_ (n := 5) (S := (tcT (w.heap.size + 1 + 1 + 1) q0 q1 q2 q3 q4 q5 q6 q7 q8 q9 q10 (.slice A2 n2 k2))) (ds := []) (bq 5 0) (by kernel_rfl) rfl (by kernel_rfl) (tcT_of (blk_drew (put12 X5.out))) (fun hHeld => ?_)
  refine with_tabW tab16_15 bits16_15 (fun HT_ HW_ => ?_)
  apply tu 0 72 (bq 5 1) HT_ HW_ hHeld
  apply pu 1 73 (bq 5 3) HT_
  refine one_ (i := 2) (N := some 74) (bq 5 7) rfl rfl (one_of HT_.out (by kernel_rfl)) (by decide) (fun K hK => ?_)
  refine gs Try.func12 #[.int .i64 E] ?_
  refine (code_any _ _).mono ?_
  rintro e w6 ⟨rfl, hb⟩
  refine ⟨_, rfl, ?_⟩
  have G6 := Lib.hid (blk_below (blk_drew (far12 G5.out h23)) hb); have X6 := Lib.hid (blk_below (blk_drew (put12 X5.out)) hb); have HB6 := Lib.hid (below_step (below_drew1 (bl12 HB5.out hgf)) hb); have HT6 := Lib.hid (TabR_below (TabR_drew (TabR12 HT5.out X5.out)) hb); clear hb
  refine hK.out _ _ (tcT_of X6.out) (fun hHeld => ?_)
  clear hK K
  apply nm 0
  refine one_ (i := 3) (N := none) (bq 5 15) rfl rfl (one_of HT_.out (by kernel_rfl)) (by decide) (fun K hK => ?_)
  obtain ⟨g0, g1, g2, g3, g4, g5, g6, g7, g8, g9, g10, g11⟩ := cz12 G6.out
  obtain ⟨gf0, gf1, gf2, gf3, gf4, gf5, gf6, gf7, gf8, gf9, gf10, gf11⟩ := fz12 G6.out
  refine skip_ (w1 := ?_) (by rfl) rfl ?_ ?_
  rotate_left
  · go_simp
    rfl
  refine hK.out _ _ (tcT_of (far12 X6.out h32)) (fun hHeld => ?_)
  clear hK K
  apply pu 4 5 (bq 5 31) HT_
  refine done_ (done_of HT_.out (by kernel_rfl)) ?_
  go_wp2
  refine bodyPost_ret (results_ct rfl _ _ (w.heap.size + 1 + 1) 27 #[.int .i64 q0, .int .i64 q1, .int .i64 q2, .int .i64 q3, .int .i64 q4, .int .i64 q5, .int .i64 q6, .int .i64 q7, .int .i64 q8, .int .i64 q9, .int .i64 q10, .slice A2 n2 k2] (0, 0) _ rfl (put12 G6.out) Try.underlying27 rfl (by kernel_rfl)) rfl ?_
  exact ⟨_, rfl, .inl (TabR12 HT6.out G6.out), bl12 HB6.out hge⟩

set_option maxHeartbeats 4000000 in
set_option maxRecDepth 100000 in
theorem does_Open (id m u b c z s me o a l : Int) (A0 : Option Addr) (c0 : Nat) (L : List S59) (i p k : Int) (w : World) (hr0 : Kd.C k59 w A0 L.length L) (hc0 : L.length ≤ c0) :
    Calls Try.prog 16 #[tabV id m u b c z s me o a l (.slice A0 L.length c0), .agg #[.int .i64 4, .int .i64 i, .int .i64 p, .int .i64 k]] w fun e w' => ∃ v, e = .returned (.tuple #[v, .int .i64 (openZ id m u b c z s me o a l L i).2]) ∧ TabD id m u b c z s me o a l (openZ id m u b c z s me o a l L i).1 L (.slice A0 L.length c0) w.heap.size w' v ∧ Below w.heap.size w w' := by
  have hW := fun W h => open_any id m u b c z s me o a l A0 c0 L i W h hc0
  generalize openZ id m u b c z s me o a l L i = rE at hW ⊢
  obtain ⟨r, E⟩ := rE
  dsimp only at hW ⊢
  obtain ⟨n, hn⟩ : ∃ n, n = L.length := ⟨_, rfl⟩
  rw [← hn] at hW hr0 hc0 ⊢
  have HR := Lib.hid hr0; have HW := Lib.hid hW; have Hn := Lib.hid hn; have HC0 := Lib.hid hc0; clear hr0 hW hn hc0
  have H3x := al3 w (tabO id m u b c z s me o a l (.slice A0 n c0)) (actO 4 i p k) (tabO 0 0 0 0 0 0 0 0 0 0 0 (.slice none 0 0))
  obtain ⟨t0, t1, t2, t3, t4, t5, t6, t7, t8, t9, t10, t11⟩ := cz12 H3x.1
  clear H3x
  have H := al4 w (tabO id m u b c z s me o a l (.slice A0 n c0)) (actO 4 i p k) (tabO 0 0 0 0 0 0 0 0 0 0 0 (.slice none 0 0)) (tabO id m u b c z s me o a l (.slice A0 n c0))
  have H0 := Lib.hid H.1; have H1 := Lib.hid H.2.1; have H2 := Lib.hid H.2.2.1; have H3 := Lib.hid H.2.2.2.1; have HB0 := Lib.hid H.2.2.2.2; clear H
  obtain ⟨s0, s1, s2, s3, s4, s5, s6, s7, s8, s9, s10, s11⟩ := cz12 H0.out
  obtain ⟨a0, a1, a2, a3⟩ := cz4 H1.out
  have h23 : w.heap.size + 1 + 1 ≠ w.heap.size + 1 + 1 + 1 := by omega
  have h32 : w.heap.size + 1 + 1 + 1 ≠ w.heap.size + 1 + 1 := by omega
  have hge : w.heap.size ≤ w.heap.size + 1 + 1 := by omega
  have hgf : w.heap.size ≤ w.heap.size + 1 + 1 + 1 := by omega
  go_enter Try.func16, Try.ntmps16
  go_wp2_with (go_at_call 60; refine (HW.out _ (Kd.C_below HR.out HB0.out)).mono ?_; rintro e w5 ⟨v, rfl, hT, hb⟩; obtain ⟨q0, q1, q2, q3, q4, q5, q6, q7, q8, q9, q10, A2, n2, k2, rfl⟩ := TabR_open hT; have G5 := Lib.hid (blk_below H2.out hb); have X5 := Lib.hid (blk_below H3.out hb); have HB5 := Lib.hid (below_step HB0.out hb); have HT5 := Lib.hid (TabR_lower hT HB0.out.size); clear hT hb; obtain ⟨x0, x1, x2, x3, x4, x5, x6, x7, x8, x9, x10, x11⟩ := cz12 X5.out; obtain ⟨xf0, xf1, xf2, xf3, xf4, xf5, xf6, xf7, xf8, xf9, xf10, xf11⟩ := fz12 X5.out)
  refine start_ (n := 5) (S := (tcT (w.heap.size + 1 + 1 + 1) q0 q1 q2 q3 q4 q5 q6 q7 q8 q9 q10 (.slice A2 n2 k2))) (ds := []) (bq 5 0) (by kernel_rfl) rfl (by kernel_rfl) (tcT_of (blk_drew (put12 X5.out))) (fun hHeld => ?_)
  refine with_tabW tab16_15 bits16_15 (fun HT_ HW_ => ?_)
  apply tu 0 72 (bq 5 1) HT_ HW_ hHeld
  apply pu 1 73 (bq 5 3) HT_
  refine one_ (i := 2) (N := some 74) (bq 5 7) rfl rfl (one_of HT_.out (by kernel_rfl)) (by decide) (fun K hK => ?_)
  refine gs Try.func12 #[.int .i64 E] ?_
  refine (code_any _ _).mono ?_
  rintro e w6 ⟨rfl, hb⟩
  refine ⟨_, rfl, ?_⟩
  have G6 := Lib.hid (blk_below (blk_drew (far12 G5.out h23)) hb); have X6 := Lib.hid (blk_below (blk_drew (put12 X5.out)) hb); have HB6 := Lib.hid (below_step (below_drew1 (bl12 HB5.out hgf)) hb); have HT6 := Lib.hid (TabR_below (TabR_drew (TabR12 HT5.out X5.out)) hb); clear hb
  refine hK.out _ _ (tcT_of X6.out) (fun hHeld => ?_)
  clear hK K
  apply nm 0
  refine one_ (i := 3) (N := none) (bq 5 15) rfl rfl (one_of HT_.out (by kernel_rfl)) (by decide) (fun K hK => ?_)
  obtain ⟨g0, g1, g2, g3, g4, g5, g6, g7, g8, g9, g10, g11⟩ := cz12 G6.out
  obtain ⟨gf0, gf1, gf2, gf3, gf4, gf5, gf6, gf7, gf8, gf9, gf10, gf11⟩ := fz12 G6.out
  refine skip_ (w1 := ?_) (by rfl) rfl ?_ ?_
  rotate_left
  · go_simp
    rfl
  refine hK.out _ _ (tcT_of (far12 X6.out h32)) (fun hHeld => ?_)
  clear hK K
  apply pu 4 5 (bq 5 31) HT_
  refine done_ (done_of HT_.out (by kernel_rfl)) ?_
  go_wp2
  refine bodyPost_ret (results_ct rfl _ _ (w.heap.size + 1 + 1) 27 #[.int .i64 q0, .int .i64 q1, .int .i64 q2, .int .i64 q3, .int .i64 q4, .int .i64 q5, .int .i64 q6, .int .i64 q7, .int .i64 q8, .int .i64 q9, .int .i64 q10, .slice A2 n2 k2] (0, 0) _ rfl (put12 G6.out) Try.underlying27 rfl (by kernel_rfl)) rfl ?_
  exact ⟨_, rfl, .inl (TabR12 HT6.out G6.out), bl12 HB6.out hge⟩

set_option maxHeartbeats 4000000 in
set_option maxRecDepth 100000 in
theorem does_Close (id m u b c z s me o a l : Int) (A0 : Option Addr) (c0 : Nat) (L : List S59) (i p k : Int) (w : World) (hr0 : Kd.C k59 w A0 L.length L) (hc0 : L.length ≤ c0) :
    Calls Try.prog 16 #[tabV id m u b c z s me o a l (.slice A0 L.length c0), .agg #[.int .i64 5, .int .i64 i, .int .i64 p, .int .i64 k]] w fun e w' => ∃ v, e = .returned (.tuple #[v, .int .i64 (closeZ id m u b c z s me o a l L i).2]) ∧ TabD id m u b c z s me o a l (closeZ id m u b c z s me o a l L i).1 L (.slice A0 L.length c0) w.heap.size w' v ∧ Below w.heap.size w w' := by
  have hW := fun W h => close_any id m u b c z s me o a l A0 c0 L i W h hc0
  generalize closeZ id m u b c z s me o a l L i = rE at hW ⊢
  obtain ⟨r, E⟩ := rE
  dsimp only at hW ⊢
  obtain ⟨n, hn⟩ : ∃ n, n = L.length := ⟨_, rfl⟩
  rw [← hn] at hW hr0 hc0 ⊢
  have HR := Lib.hid hr0; have HW := Lib.hid hW; have Hn := Lib.hid hn; have HC0 := Lib.hid hc0; clear hr0 hW hn hc0
  have H3x := al3 w (tabO id m u b c z s me o a l (.slice A0 n c0)) (actO 5 i p k) (tabO 0 0 0 0 0 0 0 0 0 0 0 (.slice none 0 0))
  obtain ⟨t0, t1, t2, t3, t4, t5, t6, t7, t8, t9, t10, t11⟩ := cz12 H3x.1
  clear H3x
  have H := al4 w (tabO id m u b c z s me o a l (.slice A0 n c0)) (actO 5 i p k) (tabO 0 0 0 0 0 0 0 0 0 0 0 (.slice none 0 0)) (tabO id m u b c z s me o a l (.slice A0 n c0))
  have H0 := Lib.hid H.1; have H1 := Lib.hid H.2.1; have H2 := Lib.hid H.2.2.1; have H3 := Lib.hid H.2.2.2.1; have HB0 := Lib.hid H.2.2.2.2; clear H
  obtain ⟨s0, s1, s2, s3, s4, s5, s6, s7, s8, s9, s10, s11⟩ := cz12 H0.out
  obtain ⟨a0, a1, a2, a3⟩ := cz4 H1.out
  have h23 : w.heap.size + 1 + 1 ≠ w.heap.size + 1 + 1 + 1 := by omega
  have h32 : w.heap.size + 1 + 1 + 1 ≠ w.heap.size + 1 + 1 := by omega
  have hge : w.heap.size ≤ w.heap.size + 1 + 1 := by omega
  have hgf : w.heap.size ≤ w.heap.size + 1 + 1 + 1 := by omega
  go_enter Try.func16, Try.ntmps16
  go_wp2_with (go_at_call 61; refine (HW.out _ (Kd.C_below HR.out HB0.out)).mono ?_; rintro e w5 ⟨v, rfl, hT, hb⟩; obtain ⟨q0, q1, q2, q3, q4, q5, q6, q7, q8, q9, q10, A2, n2, k2, rfl⟩ := TabR_open hT; have G5 := Lib.hid (blk_below H2.out hb); have X5 := Lib.hid (blk_below H3.out hb); have HB5 := Lib.hid (below_step HB0.out hb); have HT5 := Lib.hid (TabR_lower hT HB0.out.size); clear hT hb; obtain ⟨x0, x1, x2, x3, x4, x5, x6, x7, x8, x9, x10, x11⟩ := cz12 X5.out; obtain ⟨xf0, xf1, xf2, xf3, xf4, xf5, xf6, xf7, xf8, xf9, xf10, xf11⟩ := fz12 X5.out)
  refine start_ (n := 5) (S := (tcT (w.heap.size + 1 + 1 + 1) q0 q1 q2 q3 q4 q5 q6 q7 q8 q9 q10 (.slice A2 n2 k2))) (ds := []) (bq 5 0) (by kernel_rfl) rfl (by kernel_rfl) (tcT_of (blk_drew (put12 X5.out))) (fun hHeld => ?_)
  refine with_tabW tab16_15 bits16_15 (fun HT_ HW_ => ?_)
  apply tu 0 72 (bq 5 1) HT_ HW_ hHeld
  apply pu 1 73 (bq 5 3) HT_
  refine one_ (i := 2) (N := some 74) (bq 5 7) rfl rfl (one_of HT_.out (by kernel_rfl)) (by decide) (fun K hK => ?_)
  refine gs Try.func12 #[.int .i64 E] ?_
  refine (code_any _ _).mono ?_
  rintro e w6 ⟨rfl, hb⟩
  refine ⟨_, rfl, ?_⟩
  have G6 := Lib.hid (blk_below (blk_drew (far12 G5.out h23)) hb); have X6 := Lib.hid (blk_below (blk_drew (put12 X5.out)) hb); have HB6 := Lib.hid (below_step (below_drew1 (bl12 HB5.out hgf)) hb); have HT6 := Lib.hid (TabR_below (TabR_drew (TabR12 HT5.out X5.out)) hb); clear hb
  refine hK.out _ _ (tcT_of X6.out) (fun hHeld => ?_)
  clear hK K
  apply nm 0
  refine one_ (i := 3) (N := none) (bq 5 15) rfl rfl (one_of HT_.out (by kernel_rfl)) (by decide) (fun K hK => ?_)
  obtain ⟨g0, g1, g2, g3, g4, g5, g6, g7, g8, g9, g10, g11⟩ := cz12 G6.out
  obtain ⟨gf0, gf1, gf2, gf3, gf4, gf5, gf6, gf7, gf8, gf9, gf10, gf11⟩ := fz12 G6.out
  refine skip_ (w1 := ?_) (by rfl) rfl ?_ ?_
  rotate_left
  · go_simp
    rfl
  refine hK.out _ _ (tcT_of (far12 X6.out h32)) (fun hHeld => ?_)
  clear hK K
  apply pu 4 5 (bq 5 31) HT_
  refine done_ (done_of HT_.out (by kernel_rfl)) ?_
  go_wp2
  refine bodyPost_ret (results_ct rfl _ _ (w.heap.size + 1 + 1) 27 #[.int .i64 q0, .int .i64 q1, .int .i64 q2, .int .i64 q3, .int .i64 q4, .int .i64 q5, .int .i64 q6, .int .i64 q7, .int .i64 q8, .int .i64 q9, .int .i64 q10, .slice A2 n2 k2] (0, 0) _ rfl (put12 G6.out) Try.underlying27 rfl (by kernel_rfl)) rfl ?_
  exact ⟨_, rfl, .inl (TabR12 HT6.out G6.out), bl12 HB6.out hge⟩

end Go.Proofs.Ytgckcaoncjhgbaa
namespace Go.Proofs.Ytgckcaoncjhgbaa
open Go.RowKit Go.Proofs.Ytgckcaoncjhgbaa.PL Go.Proofs.YtgckcaoncjhgbaaW.PrintWords Go.Proofs.YtgckcaoncjhgbaaW.PrintLast
set_option linter.unusedVariables false
set_option linter.unusedSimpArgs false
def T16_6 : Bool × List (List Nat × List Nat) := (true, [([], []), ([], []), ([], []), ([2], [2]), ([], []), ([4], [4]), ([], []), ([6], [6]), ([1, 3, 5, 7], [1, 3, 5, 7]), ([8, 8], [8]), ([0, 9, 0], [0]), ([9, 10, 0, 1, 2, 3, 4, 5, 6, 7, 8, 9, 10], [9])])
theorem tab16_6 : rtab .any (opsOf Try.f16 6) = T16_6 := by kernel_rfl
theorem bits16_6 : waitsOk T16_6.2 [0, 0, 0, 4, 0, 16, 0, 64, 254, 510, 1023, 2047] = true := by kernel_rfl
abbrev tcTA (g h : Nat) (q0 q1 q2 q3 q4 q5 q6 q7 q8 q9 q10 : Int) (v : Value) (d i p k : Int) (W : World) : Prop := W.cell? ⟨g, 0, none⟩ = some (.int .i64 q0) ∧ W.cell? ⟨g, 1, none⟩ = some (.int .i64 q1) ∧ W.cell? ⟨g, 2, none⟩ = some (.int .i64 q2) ∧ W.cell? ⟨g, 3, none⟩ = some (.int .i64 q3) ∧ W.cell? ⟨g, 4, none⟩ = some (.int .i64 q4) ∧ W.cell? ⟨g, 5, none⟩ = some (.int .i64 q5) ∧ W.cell? ⟨g, 6, none⟩ = some (.int .i64 q6) ∧ W.cell? ⟨g, 7, none⟩ = some (.int .i64 q7) ∧ W.cell? ⟨g, 8, none⟩ = some (.int .i64 q8) ∧ W.cell? ⟨g, 9, none⟩ = some (.int .i64 q9) ∧ W.cell? ⟨g, 10, none⟩ = some (.int .i64 q10) ∧ W.cell? ⟨g, 11, none⟩ = some v ∧ W.cell? ⟨h, 0, none⟩ = some (.int .i64 d) ∧ W.cell? ⟨h, 1, none⟩ = some (.int .i64 i) ∧ W.cell? ⟨h, 2, none⟩ = some (.int .i64 p) ∧ W.cell? ⟨h, 3, none⟩ = some (.int .i64 k)
theorem tcTA_of {g h : Nat} {q0 q1 q2 q3 q4 q5 q6 q7 q8 q9 q10 : Int} {v : Value} {d i p k : Int} {W : World} (e : W.heap[g]? = some (tabO q0 q1 q2 q3 q4 q5 q6 q7 q8 q9 q10 v)) (f : W.heap[h]? = some (actO d i p k)) : tcTA g h q0 q1 q2 q3 q4 q5 q6 q7 q8 q9 q10 v d i p k W :=
  ⟨(blk_cell e 0).trans rfl, (blk_cell e 1).trans rfl, (blk_cell e 2).trans rfl, (blk_cell e 3).trans rfl, (blk_cell e 4).trans rfl, (blk_cell e 5).trans rfl, (blk_cell e 6).trans rfl, (blk_cell e 7).trans rfl, (blk_cell e 8).trans rfl, (blk_cell e 9).trans rfl, (blk_cell e 10).trans rfl, (blk_cell e 11).trans rfl, (blk_cell f 0).trans rfl, (blk_cell f 1).trans rfl, (blk_cell f 2).trans rfl, (blk_cell f 3).trans rfl⟩
set_option maxHeartbeats 4000000 in
set_option maxRecDepth 100000 in
theorem does_Read (id m u b c z s me o a l : Int) (A0 : Option Addr) (c0 : Nat) (L : List S59) (i p k : Int) (w : World) (hr0 : Kd.C k59 w A0 L.length L) (hc0 : L.length ≤ c0) :
    Calls Try.prog 16 #[tabV id m u b c z s me o a l (.slice A0 L.length c0), .agg #[.int .i64 1, .int .i64 i, .int .i64 p, .int .i64 k]] w fun e w' => ∃ v, e = .returned (.tuple #[v, .int .i64 (((some L, readZ id m u b c z s me o a l L i p k) : Option (List S59) × Int)).2]) ∧ TabD id m u b c z s me o a l (((some L, readZ id m u b c z s me o a l L i p k) : Option (List S59) × Int)).1 L (.slice A0 L.length c0) w.heap.size w' v ∧ Below w.heap.size w w' := by
  have hW := fun W h => read_any id m u b c z s me o a l A0 c0 L i p k W h hc0
  generalize readZ id m u b c z s me o a l L i p k = E at hW ⊢
  obtain ⟨n, hn⟩ : ∃ n, n = L.length := ⟨_, rfl⟩
  rw [← hn] at hW hr0 hc0 ⊢
  have HR := Lib.hid hr0; have HW := Lib.hid hW; have Hn := Lib.hid hn; have HC0 := Lib.hid hc0; clear hr0 hW hn hc0
  have H3x := al3 w (tabO id m u b c z s me o a l (.slice A0 n c0)) (actO 1 i p k) (tabO 0 0 0 0 0 0 0 0 0 0 0 (.slice none 0 0))
  obtain ⟨t0, t1, t2, t3, t4, t5, t6, t7, t8, t9, t10, t11⟩ := cz12 H3x.1
  clear H3x
  have H := al4 w (tabO id m u b c z s me o a l (.slice A0 n c0)) (actO 1 i p k) (tabO 0 0 0 0 0 0 0 0 0 0 0 (.slice none 0 0)) (tabO id m u b c z s me o a l (.slice A0 n c0))
  have H0 := Lib.hid H.1; have H1 := Lib.hid H.2.1; have H2 := Lib.hid H.2.2.1; have H3 := Lib.hid H.2.2.2.1; have HB0 := Lib.hid H.2.2.2.2; clear H
  obtain ⟨s0, s1, s2, s3, s4, s5, s6, s7, s8, s9, s10, s11⟩ := cz12 H0.out
  obtain ⟨a0, a1, a2, a3⟩ := cz4 H1.out
  have h23 : w.heap.size + 1 + 1 ≠ w.heap.size + 1 + 1 + 1 := by omega
  have h32 : w.heap.size + 1 + 1 + 1 ≠ w.heap.size + 1 + 1 := by omega
  have hge : w.heap.size ≤ w.heap.size + 1 + 1 := by omega
  have hgf : w.heap.size ≤ w.heap.size + 1 + 1 + 1 := by omega
  go_enter Try.func16, Try.ntmps16
  go_wp2
  refine start_ (n := 12) (S := (tcTA w.heap.size (w.heap.size + 1) id m u b c z s me o a l (.slice A0 n c0) 1 i p k)) (ds := []) (bq 12 0) (by kernel_rfl) rfl (by kernel_rfl) (tcTA_of (blk_drew H0.out) (blk_drew H1.out)) (fun hHeld => ?_)
  refine with_tabW tab16_6 bits16_6 (fun HT_ HW_ => ?_)
  apply tu 0 26 (bq 12 1) HT_ HW_ hHeld
  apply tu 1 27 (bq 12 3) HT_ HW_ hHeld
  apply pu 2 28 (bq 12 7) HT_
  apply pu 4 30 (bq 12 23) HT_
  apply pu 6 32 (bq 12 87) HT_
  apply tu 3 29 (bq 12 95) HT_ HW_ hHeld
  apply tu 5 31 (bq 12 127) HT_ HW_ hHeld
  apply tu 7 33 (bq 12 255) HT_ HW_ hHeld
  refine one_ (i := 8) (N := some 34) (bq 12 511) rfl rfl (one_of HT_.out (by kernel_rfl)) (by decide) (fun K hK => ?_)
  refine gs Try.func57 #[tabV id m u b c z s me o a l (.slice A0 n c0), .int .i64 i, .int .i64 p, .int .i64 k] ?_
  refine (HW.out _ (Kd.C_drew (Kd.C_below HR.out HB0.out))).mono ?_
  rintro e w5 ⟨rfl, hb⟩
  refine ⟨_, rfl, ?_⟩
  have K5 := Lib.hid (blk_below (blk_drew H0.out) hb); have A5 := Lib.hid (blk_below (blk_drew H1.out) hb); have G5 := Lib.hid (blk_below (blk_drew H2.out) hb); have HB5 := Lib.hid (below_step (below_drew1 HB0.out) hb); clear hb
  refine hK.out _ _ (tcTA_of K5.out A5.out) (fun hHeld => ?_)
  clear hK K
  apply nm 0
  refine one_ (i := 9) (N := some 35) (bq 12 1023) rfl rfl (one_of HT_.out (by kernel_rfl)) (by decide) (fun K hK => ?_)
  refine gs Try.func12 #[.int .i64 E] ?_
  refine (code_any _ _).mono ?_
  rintro e w6 ⟨rfl, hb⟩
  refine ⟨_, rfl, ?_⟩
  have K6 := Lib.hid (blk_below K5.out hb); have A6 := Lib.hid (blk_below A5.out hb); have G6 := Lib.hid (blk_below G5.out hb); have HB6 := Lib.hid (below_step HB5.out hb); clear hb
  refine hK.out _ _ (tcTA_of K6.out A6.out) (fun hHeld => ?_)
  clear hK K
  apply nm 0
  refine one_ (i := 10) (N := none) (bq 12 2047) rfl rfl (one_of HT_.out (by kernel_rfl)) (by decide) (fun K hK => ?_)
  obtain ⟨g0, g1, g2, g3, g4, g5, g6, g7, g8, g9, g10, g11⟩ := cz12 G6.out
  obtain ⟨gf0, gf1, gf2, gf3, gf4, gf5, gf6, gf7, gf8, gf9, gf10, gf11⟩ := fz12 G6.out
  refine skip_ (w1 := ?_) (by rfl) rfl ?_ ?_
  rotate_left
  · go_simp
    rfl
  refine hK.out _ _ (tcTA_of (far12 K6.out (by omega)) (far12 A6.out (by omega))) (fun hHeld => ?_)
  clear hK K
  apply pu 11 5 (bq 12 4095) HT_
  refine done_ (done_of HT_.out (by kernel_rfl)) ?_
  go_wp2
  refine bodyPost_ret (results_ct rfl _ _ (w.heap.size + 1 + 1) 27 #[.int .i64 id, .int .i64 m, .int .i64 u, .int .i64 b, .int .i64 c, .int .i64 z, .int .i64 s, .int .i64 me, .int .i64 o, .int .i64 a, .int .i64 l, .slice A0 n c0] (0, 0) _ rfl (put12 G6.out) Try.underlying27 rfl (by kernel_rfl)) rfl ?_
  exact ⟨_, rfl, .inr ⟨rfl, rfl⟩, bl12 HB6.out hge⟩

set_option maxHeartbeats 4000000 in
set_option maxRecDepth 100000 in
theorem does_none (id m u b c z s me o a l : Int) (A0 : Option Addr) (c0 : Nat) (L : List S59) (d i p k : Int) (e0 : ¬ d = 0) (e1 : ¬ d = 1) (e2 : ¬ d = 2) (e3 : ¬ d = 3) (e4 : ¬ d = 4) (e5 : ¬ d = 5) (w : World) (hr0 : Kd.C k59 w A0 L.length L) (hc0 : L.length ≤ c0) :
    Calls Try.prog 16 #[tabV id m u b c z s me o a l (.slice A0 L.length c0), .agg #[.int .i64 d, .int .i64 i, .int .i64 p, .int .i64 k]] w fun e w' => ∃ v, e = .returned (.tuple #[v, .int .i64 (((some L, 0) : Option (List S59) × Int)).2]) ∧ TabD id m u b c z s me o a l (((some L, 0) : Option (List S59) × Int)).1 L (.slice A0 L.length c0) w.heap.size w' v ∧ Below w.heap.size w w' := by
  have hW : True := trivial
  obtain ⟨n, hn⟩ : ∃ n, n = L.length := ⟨_, rfl⟩
  rw [← hn] at hr0 hc0 ⊢
  have HR := Lib.hid hr0; have HW := Lib.hid hW; have Hn := Lib.hid hn; have HC0 := Lib.hid hc0; clear hr0 hW hn hc0
  have H3x := al3 w (tabO id m u b c z s me o a l (.slice A0 n c0)) (actO d i p k) (tabO 0 0 0 0 0 0 0 0 0 0 0 (.slice none 0 0))
  obtain ⟨t0, t1, t2, t3, t4, t5, t6, t7, t8, t9, t10, t11⟩ := cz12 H3x.1
  clear H3x
  have H := al4 w (tabO id m u b c z s me o a l (.slice A0 n c0)) (actO d i p k) (tabO 0 0 0 0 0 0 0 0 0 0 0 (.slice none 0 0)) (tabO id m u b c z s me o a l (.slice A0 n c0))
  have H0 := Lib.hid H.1; have H1 := Lib.hid H.2.1; have H2 := Lib.hid H.2.2.1; have H3 := Lib.hid H.2.2.2.1; have HB0 := Lib.hid H.2.2.2.2; clear H
  obtain ⟨s0, s1, s2, s3, s4, s5, s6, s7, s8, s9, s10, s11⟩ := cz12 H0.out
  obtain ⟨a0, a1, a2, a3⟩ := cz4 H1.out
  have h23 : w.heap.size + 1 + 1 ≠ w.heap.size + 1 + 1 + 1 := by omega
  have h32 : w.heap.size + 1 + 1 + 1 ≠ w.heap.size + 1 + 1 := by omega
  have hge : w.heap.size ≤ w.heap.size + 1 + 1 := by omega
  have hgf : w.heap.size ≤ w.heap.size + 1 + 1 + 1 := by omega
  have b0 : (d == 0) = false := beq_eq_false_iff_ne.mpr e0; have b1 : (d == 1) = false := beq_eq_false_iff_ne.mpr e1; have b2 : (d == 2) = false := beq_eq_false_iff_ne.mpr e2; have b3 : (d == 3) = false := beq_eq_false_iff_ne.mpr e3; have b4 : (d == 4) = false := beq_eq_false_iff_ne.mpr e4; have b5 : (d == 5) = false := beq_eq_false_iff_ne.mpr e5
  go_enter Try.func16, Try.ntmps16
  go_wp2
  refine start_ (n := 5) (S := (tcT (w.heap.size + 1 + 1 + 1) id m u b c z s me o a l (.slice A0 n c0))) (ds := []) (bq 5 0) (by kernel_rfl) rfl (by kernel_rfl) (tcT_of (blk_drew H3.out)) (fun hHeld => ?_)
  refine with_tabW tab16_15 bits16_15 (fun HT_ HW_ => ?_)
  apply tu 0 72 (bq 5 1) HT_ HW_ hHeld
  apply pu 1 73 (bq 5 3) HT_
  refine one_ (i := 2) (N := some 74) (bq 5 7) rfl rfl (one_of HT_.out (by kernel_rfl)) (by decide) (fun K hK => ?_)
  refine gs Try.func12 #[.int .i64 0] ?_
  refine (code_any _ _).mono ?_
  rintro e w6 ⟨rfl, hb⟩
  refine ⟨_, rfl, ?_⟩
  have G6 := Lib.hid (blk_below (blk_drew H2.out) hb); have X6 := Lib.hid (blk_below (blk_drew H3.out) hb); have HB6 := Lib.hid (below_step (below_drew1 HB0.out) hb); clear hb
  refine hK.out _ _ (tcT_of X6.out) (fun hHeld => ?_)
  clear hK K
  apply nm 0
  refine one_ (i := 3) (N := none) (bq 5 15) rfl rfl (one_of HT_.out (by kernel_rfl)) (by decide) (fun K hK => ?_)
  obtain ⟨g0, g1, g2, g3, g4, g5, g6, g7, g8, g9, g10, g11⟩ := cz12 G6.out
  obtain ⟨gf0, gf1, gf2, gf3, gf4, gf5, gf6, gf7, gf8, gf9, gf10, gf11⟩ := fz12 G6.out
  refine skip_ (w1 := ?_) (by rfl) rfl ?_ ?_
  rotate_left
  · go_simp
    rfl
  refine hK.out _ _ (tcT_of (far12 X6.out h32)) (fun hHeld => ?_)
  clear hK K
  apply pu 4 5 (bq 5 31) HT_
  refine done_ (done_of HT_.out (by kernel_rfl)) ?_
  go_wp2
  refine bodyPost_ret (results_ct rfl _ _ (w.heap.size + 1 + 1) 27 #[.int .i64 id, .int .i64 m, .int .i64 u, .int .i64 b, .int .i64 c, .int .i64 z, .int .i64 s, .int .i64 me, .int .i64 o, .int .i64 a, .int .i64 l, .slice A0 n c0] (0, 0) _ rfl (put12 G6.out) Try.underlying27 rfl (by kernel_rfl)) rfl ?_
  exact ⟨_, rfl, .inr ⟨rfl, rfl⟩, bl12 HB6.out hge⟩

/-- What a call answers, by its number. -/
def doesZ (id m u b c z s me o a l : Int) (L : List S59) (x : S40) : Option (List S59) × Int :=
  if x.f0 = 0 then writeZ id m u b c z s me o a l L x.f1 x.f2 x.f3 else if x.f0 = 1 then (some L, readZ id m u b c z s me o a l L x.f1 x.f2 x.f3) else if x.f0 = 2 then resetZ id m u b c z s me o a l L x.f1 else if x.f0 = 3 then finishZ id m u b c z s me o a l L x.f1 else if x.f0 = 4 then openZ id m u b c z s me o a l L x.f1 else if x.f0 = 5 then closeZ id m u b c z s me o a l L x.f1 else (some L, 0)
theorem does_any (id m u b c z s me o a l : Int) (A0 : Option Addr) (c0 : Nat) (L : List S59) (x : S40) (w : World) (hr0 : Kd.C k59 w A0 L.length L) (hc0 : L.length ≤ c0) :
    Calls Try.prog 16 #[tabV id m u b c z s me o a l (.slice A0 L.length c0), actV x] w fun e w' => ∃ v, e = .returned (.tuple #[v, .int .i64 (doesZ id m u b c z s me o a l L x).2]) ∧ TabD id m u b c z s me o a l (doesZ id m u b c z s me o a l L x).1 L (.slice A0 L.length c0) w.heap.size w' v ∧ Below w.heap.size w w' := by
  obtain ⟨d, i, p, k⟩ := x
  unfold doesZ
  dsimp only
  by_cases e0 : d = 0
  · subst e0; rw [if_pos rfl]; exact does_Write id m u b c z s me o a l A0 c0 L i p k w hr0 hc0
  rw [if_neg e0]
  by_cases e1 : d = 1
  · subst e1; rw [if_pos rfl]; exact does_Read id m u b c z s me o a l A0 c0 L i p k w hr0 hc0
  rw [if_neg e1]
  by_cases e2 : d = 2
  · subst e2; rw [if_pos rfl]; exact does_Reset id m u b c z s me o a l A0 c0 L i p k w hr0 hc0
  rw [if_neg e2]
  by_cases e3 : d = 3
  · subst e3; rw [if_pos rfl]; exact does_Finish id m u b c z s me o a l A0 c0 L i p k w hr0 hc0
  rw [if_neg e3]
  by_cases e4 : d = 4
  · subst e4; rw [if_pos rfl]; exact does_Open id m u b c z s me o a l A0 c0 L i p k w hr0 hc0
  rw [if_neg e4]
  by_cases e5 : d = 5
  · subst e5; rw [if_pos rfl]; exact does_Close id m u b c z s me o a l A0 c0 L i p k w hr0 hc0
  rw [if_neg e5]
  exact does_none id m u b c z s me o a l A0 c0 L d i p k e0 e1 e2 e3 e4 e5 w hr0 hc0
end Go.Proofs.Ytgckcaoncjhgbaa
