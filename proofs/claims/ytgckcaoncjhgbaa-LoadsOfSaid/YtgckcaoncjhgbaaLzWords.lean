/- Small words for the walks of package lzone: the values of tables and zones, their blocks. -/
import Derived.WalkSpells
import Derived.WalkLawsBesides
import Derived.Lib.Hide
import Derived.Test.YtgckcaoncjhgbaaPLx0
namespace Go.Proofs.Ytgckcaoncjhgbaa
open Go.RowKit Go.Proofs.Ytgckcaoncjhgbaa.PL Go.Proofs.YtgckcaoncjhgbaaW.PrintWords Go.Proofs.YtgckcaoncjhgbaaW.PrintLast
abbrev tabV (id m u b c z s me o a l : Int) (v : Value) : Value := .agg #[.int .i64 id, .int .i64 m, .int .i64 u, .int .i64 b, .int .i64 c, .int .i64 z, .int .i64 s, .int .i64 me, .int .i64 o, .int .i64 a, .int .i64 l, v]
abbrev tabO (id m u b c z s me o a l : Int) (v : Value) : Obj := .cells #[.int .i64 id, .int .i64 m, .int .i64 u, .int .i64 b, .int .i64 c, .int .i64 z, .int .i64 s, .int .i64 me, .int .i64 o, .int .i64 a, .int .i64 l, v] 27
abbrev zoV (x : S59) : Value := .agg #[.int .i64 x.f0, .int .i64 x.f1, .int .i64 x.f2]
abbrev zoO (x y z : Int) : Obj := .cells #[.int .i64 x, .int .i64 y, .int .i64 z] 59
section
variable {w : World} {g : Nat} {t : TypeId} {x0 x1 x2 x3 x4 x5 x6 x7 x8 x9 x10 x11 y0 y1 y2 y3 y4 y5 y6 y7 y8 y9 y10 y11 : Value}
theorem cz3 (h : w.heap[g]? = some (.cells #[x0, x1, x2] t (0, 0))) : w.cell? ⟨g, 0, none⟩ = some x0 /\ w.cell? ⟨g, 1, none⟩ = some x1 /\ w.cell? ⟨g, 2, none⟩ = some x2 :=
 ⟨(je_ h 0).trans rfl, (je_ h 1).trans rfl, (je_ h 2).trans rfl⟩
theorem fz3 (h : w.heap[g]? = some (.cells #[x0, x1, x2] t (0, 0))) : w.frozen? ⟨g, 0, none⟩ = false /\ w.frozen? ⟨g, 1, none⟩ = false /\ w.frozen? ⟨g, 2, none⟩ = false :=
 ⟨jh_ h 0, jh_ h 1, jh_ h 2⟩
theorem put3 (h : w.heap[g]? = some (.cells #[x0, x1, x2] t (0, 0))) : (((w.setCell ⟨g, 0, none⟩ y0).setCell ⟨g, 1, none⟩ y1).setCell ⟨g, 2, none⟩ y2).heap[g]? = some (.cells #[y0, y1, y2] t (0, 0)) :=
 js_ (cs := #[y0, y1, x2]) (js_ (cs := #[y0, x1, x2]) (js_ (cs := #[x0, x1, x2]) h 0 _ rfl) 1 _ rfl) 2 _ rfl
theorem bl3 {w0 : World} (h : Below w0.heap.size w0 w) (hg : w0.heap.size <= g) : Below w0.heap.size w0 (((w.setCell ⟨g, 0, none⟩ y0).setCell ⟨g, 1, none⟩ y1).setCell ⟨g, 2, none⟩ y2) := jx_ (jx_ (jx_ h hg) hg) hg
theorem al1 (w : World) (o : Obj) : (w.alloc o).heap[w.heap.size]? = some o /\ Below w.heap.size w (w.alloc o) := ⟨ju_ w o, jg_ (Below.refl _ w) o⟩
theorem al2 (w : World) (o o' : Obj) : ((w.alloc o).alloc o').heap[w.heap.size]? = some o /\ ((w.alloc o).alloc o').heap[w.heap.size + 1]? = some o' /\ Below w.heap.size w ((w.alloc o).alloc o') := by
 have h := ju_ (w.alloc o) o'
 have e : (w.alloc o).heap.size = w.heap.size + 1 := Array.size_push ..
 rw [e] at h
 exact ⟨ja_ (ju_ w o) o', h, jg_ (al1 w o).2 o'⟩
theorem al3 (w : World) (o o' o'' : Obj) : (((w.alloc o).alloc o').alloc o'').heap[w.heap.size]? = some o /\ (((w.alloc o).alloc o').alloc o'').heap[w.heap.size + 1]? = some o' /\ (((w.alloc o).alloc o').alloc o'').heap[w.heap.size + 1 + 1]? = some o'' /\ Below w.heap.size w (((w.alloc o).alloc o').alloc o'') := by
 have h := ju_ ((w.alloc o).alloc o') o''
 have e : ((w.alloc o).alloc o').heap.size = w.heap.size + 1 + 1 := (Array.size_push (xs := (w.alloc o).heap) o').trans (congrArg (· + 1) (Array.size_push ..))
 rw [e] at h
 exact ⟨ja_ (al2 w o o').1 o'', ja_ (al2 w o o').2.1 o'', h, jg_ (al2 w o o').2.2 o''⟩
theorem ko_ (h : w.heap[g]? = some (.cells #[x0, x1, x2, x3, x4, x5, x6, x7, x8, x9, x10, x11] t (0, 0))) : ((((((((((((w.setCell ⟨g, 0, none⟩ y0).setCell ⟨g, 1, none⟩ y1).setCell ⟨g, 2, none⟩ y2).setCell ⟨g, 3, none⟩ y3).setCell ⟨g, 4, none⟩ y4).setCell ⟨g, 5, none⟩ y5).setCell ⟨g, 6, none⟩ y6).setCell ⟨g, 7, none⟩ y7).setCell ⟨g, 8, none⟩ y8).setCell ⟨g, 9, none⟩ y9).setCell ⟨g, 10, none⟩ y10).setCell ⟨g, 11, none⟩ y11).heap[g]? = some (.cells #[y0, y1, y2, y3, y4, y5, y6, y7, y8, y9, y10, y11] t (0, 0)) :=
 (js_ (cs := #[y0, y1, y2, y3, y4, y5, y6, y7, y8, y9, y10, x11]) (js_ (cs := #[y0, y1, y2, y3, y4, y5, y6, y7, y8, y9, x10, x11]) (js_ (cs := #[y0, y1, y2, y3, y4, y5, y6, y7, y8, x9, x10, x11]) (js_ (cs := #[y0, y1, y2, y3, y4, y5, y6, y7, x8, x9, x10, x11]) (js_ (cs := #[y0, y1, y2, y3, y4, y5, y6, x7, x8, x9, x10, x11]) (js_ (cs := #[y0, y1, y2, y3, y4, y5, x6, x7, x8, x9, x10, x11]) (js_ (cs := #[y0, y1, y2, y3, y4, x5, x6, x7, x8, x9, x10, x11]) (js_ (cs := #[y0, y1, y2, y3, x4, x5, x6, x7, x8, x9, x10, x11]) (js_ (cs := #[y0, y1, y2, x3, x4, x5, x6, x7, x8, x9, x10, x11]) (js_ (cs := #[y0, y1, x2, x3, x4, x5, x6, x7, x8, x9, x10, x11]) (js_ (cs := #[y0, x1, x2, x3, x4, x5, x6, x7, x8, x9, x10, x11]) (js_ (cs := #[x0, x1, x2, x3, x4, x5, x6, x7, x8, x9, x10, x11]) h 0 _ rfl) 1 _ rfl) 2 _ rfl) 3 _ rfl) 4 _ rfl) 5 _ rfl) 6 _ rfl) 7 _ rfl) 8 _ rfl) 9 _ rfl) 10 _ rfl) 11 _ rfl)
theorem bl12 {w0 : World} (h : Below w0.heap.size w0 w) (hg : w0.heap.size <= g) : Below w0.heap.size w0 ((((((((((((w.setCell ⟨g, 0, none⟩ y0).setCell ⟨g, 1, none⟩ y1).setCell ⟨g, 2, none⟩ y2).setCell ⟨g, 3, none⟩ y3).setCell ⟨g, 4, none⟩ y4).setCell ⟨g, 5, none⟩ y5).setCell ⟨g, 6, none⟩ y6).setCell ⟨g, 7, none⟩ y7).setCell ⟨g, 8, none⟩ y8).setCell ⟨g, 9, none⟩ y9).setCell ⟨g, 10, none⟩ y10).setCell ⟨g, 11, none⟩ y11) := (jx_ (jx_ (jx_ (jx_ (jx_ (jx_ (jx_ (jx_ (jx_ (jx_ (jx_ (jx_ h hg) hg) hg) hg) hg) hg) hg) hg) hg) hg) hg) hg)
theorem far3 {g' : Nat} {cs : Array Value} {t' : TypeId} (h : w.heap[g']? = some (.cells cs t' (0, 0))) (hg : g' ≠ g) : (((w.setCell ⟨g, 0, none⟩ y0).setCell ⟨g, 1, none⟩ y1).setCell ⟨g, 2, none⟩ y2).heap[g']? = some (.cells cs t' (0, 0)) := (jv_ (jv_ (jv_ h hg _) hg _) hg _)
theorem R12 {α : Type} {d : Kd α} {e base : Nat} {ok : Nat -> Prop} {v : Value} {xs : List α} {cs : Array Value} (h : d.R e w base ok v xs) (hb : w.heap[g]? = some (.cells cs t (0, 0))) (ht : ∀ q, q ∈ e :: d.E -> q ≠ t) : d.R e ((((((((((((w.setCell ⟨g, 0, none⟩ y0).setCell ⟨g, 1, none⟩ y1).setCell ⟨g, 2, none⟩ y2).setCell ⟨g, 3, none⟩ y3).setCell ⟨g, 4, none⟩ y4).setCell ⟨g, 5, none⟩ y5).setCell ⟨g, 6, none⟩ y6).setCell ⟨g, 7, none⟩ y7).setCell ⟨g, 8, none⟩ y8).setCell ⟨g, 9, none⟩ y9).setCell ⟨g, 10, none⟩ y10).setCell ⟨g, 11, none⟩ y11) base ok v xs :=
 (Kd.R_set (Kd.R_set (Kd.R_set (Kd.R_set (Kd.R_set (Kd.R_set (Kd.R_set (Kd.R_set (Kd.R_set (Kd.R_set (Kd.R_set (Kd.R_set h hb ht 0 y0) (jz_ hb 0 y0) ht 1 y1) (jz_ (jz_ hb 0 y0) 1 y1) ht 2 y2) (jz_ (jz_ (jz_ hb 0 y0) 1 y1) 2 y2) ht 3 y3) (jz_ (jz_ (jz_ (jz_ hb 0 y0) 1 y1) 2 y2) 3 y3) ht 4 y4) (jz_ (jz_ (jz_ (jz_ (jz_ hb 0 y0) 1 y1) 2 y2) 3 y3) 4 y4) ht 5 y5) (jz_ (jz_ (jz_ (jz_ (jz_ (jz_ hb 0 y0) 1 y1) 2 y2) 3 y3) 4 y4) 5 y5) ht 6 y6) (jz_ (jz_ (jz_ (jz_ (jz_ (jz_ (jz_ hb 0 y0) 1 y1) 2 y2) 3 y3) 4 y4) 5 y5) 6 y6) ht 7 y7) (jz_ (jz_ (jz_ (jz_ (jz_ (jz_ (jz_ (jz_ hb 0 y0) 1 y1) 2 y2) 3 y3) 4 y4) 5 y5) 6 y6) 7 y7) ht 8 y8) (jz_ (jz_ (jz_ (jz_ (jz_ (jz_ (jz_ (jz_ (jz_ hb 0 y0) 1 y1) 2 y2) 3 y3) 4 y4) 5 y5) 6 y6) 7 y7) 8 y8) ht 9 y9) (jz_ (jz_ (jz_ (jz_ (jz_ (jz_ (jz_ (jz_ (jz_ (jz_ hb 0 y0) 1 y1) 2 y2) 3 y3) 4 y4) 5 y5) 6 y6) 7 y7) 8 y8) 9 y9) ht 10 y10) (jz_ (jz_ (jz_ (jz_ (jz_ (jz_ (jz_ (jz_ (jz_ (jz_ (jz_ hb 0 y0) 1 y1) 2 y2) 3 y3) 4 y4) 5 y5) 6 y6) 7 y7) 8 y8) 9 y9) 10 y10) ht 11 y11)
theorem R_zone {base n c : Nat} {ok : Nat -> Prop} {L : List S59} (h : Kd.R k59 59 w base ok (.slice (some ⟨g, 0, none⟩) n c) L) (i : Int) (h0 : 0 <= i) (h1 : i < n) :
  (w.cell? ⟨g, i.toNat * 3, none⟩ = some (.int .i64 (jl_ L i).f0) /\ w.cell? ⟨g, i.toNat * 3 + 1, none⟩ = some (.int .i64 (jl_ L i).f1) /\ w.cell? ⟨g, i.toNat * 3 + 2, none⟩ = some (.int .i64 (jl_ L i).f2)) /\
  (w.frozen? ⟨g, i.toNat * 3, none⟩ = false /\ w.frozen? ⟨g, i.toNat * 3 + 1, none⟩ = false /\ w.frozen? ⟨g, i.toNat * 3 + 2, none⟩ = false) /\
  ∀ x : S59, Kd.R k59 59 (((w.setCell ⟨g, i.toNat * 3, none⟩ (.int .i64 x.f0)).setCell ⟨g, i.toNat * 3 + 1, none⟩ (.int .i64 x.f1)).setCell ⟨g, i.toNat * 3 + 2, none⟩ (.int .i64 x.f2)) base ok (.slice (some ⟨g, 0, none⟩) n c) (L.set i.toNat x) := by
 obtain ⟨cs, hcl, hM, hcc, hfr⟩ := Kd.R_elem h z59 i h0 h1
 obtain rfl := k59_openM hM
 refine ⟨⟨hcc 0 _ rfl, hcc 1 _ rfl, hcc 2 _ rfl⟩, ⟨hfr 0, hfr 1, hfr 2⟩, fun x => ?_⟩
 exact (Kd.R_seg h i h0 h1 (seg := [.int .i64 x.f0, .int .i64 x.f1, .int .i64 x.f2]) (j := 0) hcl hcc (show 3 <= 3 from by decide) (x' := x) (k59_mkM _ _ _ x) (fun _ hk => hk)).1
theorem far_zone {g' : Nat} {cs : Array Value} {t' : TypeId} {i : Nat} {u0 u1 u2 : Value} (h : w.heap[g']? = some (.cells cs t' (0, 0))) (hg : g' ≠ g) : (((w.setCell ⟨g, i, none⟩ u0).setCell ⟨g, i + 1, none⟩ u1).setCell ⟨g, i + 2, none⟩ u2).heap[g']? = some (.cells cs t' (0, 0)) := jv_ (jv_ (jv_ h hg _) hg _) hg _
theorem bl_zone {w0 : World} {i : Nat} {u0 u1 u2 : Value} (h : Below w0.heap.size w0 w) (hg : w0.heap.size <= g) : Below w0.heap.size w0 (((w.setCell ⟨g, i, none⟩ u0).setCell ⟨g, i + 1, none⟩ u1).setCell ⟨g, i + 2, none⟩ u2) := jx_ (jx_ (jx_ h hg) hg) hg
theorem sz3 (w : World) (o o' o'' : Obj) : (((w.alloc o).alloc o').alloc o'').heap.size = w.heap.size + 1 + 1 + 1 := (Array.size_push (xs := ((w.alloc o).alloc o').heap) o'').trans (congrArg (· + 1) ((Array.size_push (xs := (w.alloc o).heap) o').trans (congrArg (· + 1) (Array.size_push ..))))
theorem sz2 (w : World) (o o' : Obj) : ((w.alloc o).alloc o').heap.size = w.heap.size + 1 + 1 := (Array.size_push (xs := (w.alloc o).heap) o').trans (congrArg (· + 1) (Array.size_push ..))
end
end Go.Proofs.Ytgckcaoncjhgbaa
