/- Printed by the kit's print over stand-ins for some functions (xprint.py), with contracts of my own in their place. -/
import Derived.Test.YtgckcaoncjhgbaaProg
import Derived.Test.YtgckcaoncjhgbaaSqueeze
namespace Go.Proofs.Ytgckcaoncjhgbaa.PG
open Go.RowKit Go.Proofs.YtgckcaoncjhgbaaW.PrintWords Go.Proofs.YtgckcaoncjhgbaaW.PrintLast
set_option linter.unusedVariables false
set_option linter.unusedSimpArgs false
def errW : Option Int -> Value
  | none => .nilIface
  | some c => .iface 0 (.int .i64 c)
theorem jq_ : errW none = .nilIface := rfl
theorem jp_ (c : Int) : errW (some c) = .iface 0 (.int .i64 c) := rfl
theorem zN_ : (Try.prog.info? 3).map (fun i => (i.zero, i.size, i.bytes)) = some (some (.int .i64 0), 1, 8) := by kernel_rfl
theorem info134 : (Try.prog.info? 134).map (fun i => (i.zero, i.size, i.bytes)) = some (some (.agg #[(.int .i64 0), (.int .i64 0)]), 2, 16) := by kernel_rfl
theorem zO_ : (Try.prog.info? 143).map (fun i => (i.zero, i.size, i.bytes)) = some (some (.agg #[(.bool false), (.int .i64 0), (.int .i64 0), (.int .i64 0), (.int .i64 0)]), 5, 40) := by kernel_rfl
structure S143 where
  f0 : Bool
  f1 : Int
  f2 : Int
  f3 : Int
  f4 : Int
def z143 : S143 := ⟨false, (0 : Int), (0 : Int), (0 : Int), (0 : Int)⟩
def k143 : Kd S143 := Kd.iso (Kd.pair Kd.bool (Kd.pair (Kd.int .i64) (Kd.pair (Kd.int .i64) (Kd.pair (Kd.int .i64) (Kd.int .i64))))) (fun x : S143 => (x.f0, x.f1, x.f2, x.f3, x.f4))
theorem k143_open {w : World} {x : S143} {cs : List Value} (h : k143.K w x cs) : cs = [.bool x.f0, .int .i64 x.f1, .int .i64 x.f2, .int .i64 x.f3, .int .i64 x.f4] := by
 obtain ⟨_, _, rfl, rfl, ⟨_, _, rfl, rfl, ⟨_, _, rfl, rfl, ⟨_, _, rfl, rfl, rfl⟩⟩⟩⟩ := h
 exact rfl
theorem k143_openM {w : World} {base : Nat} {ok : Nat -> Prop} {x : S143} {cs : List Value} (h : k143.M w base ok x cs) : cs = [.bool x.f0, .int .i64 x.f1, .int .i64 x.f2, .int .i64 x.f3, .int .i64 x.f4] := by
 obtain ⟨_, _, rfl, rfl, ⟨_, _, rfl, rfl, ⟨_, _, rfl, rfl, ⟨_, _, rfl, rfl, rfl⟩⟩⟩⟩ := h
 exact rfl
theorem xY_ (w : World) (base : Nat) (ok : Nat -> Prop) (x : S143)  : k143.M w base ok x [.bool x.f0, .int .i64 x.f1, .int .i64 x.f2, .int .i64 x.f3, .int .i64 x.f4] := ⟨[.bool x.f0], [.int .i64 x.f1, .int .i64 x.f2, .int .i64 x.f3, .int .i64 x.f4], rfl, rfl, ⟨[.int .i64 x.f1], [.int .i64 x.f2, .int .i64 x.f3, .int .i64 x.f4], rfl, rfl, ⟨[.int .i64 x.f2], [.int .i64 x.f3, .int .i64 x.f4], rfl, rfl, ⟨[.int .i64 x.f3], [.int .i64 x.f4], rfl, rfl, rfl⟩⟩⟩⟩
def kt_ (xs : List S143) (i : Int) : S143 := xs.getD i.toNat z143
theorem xN_ {w : World} {A : Option Addr} {n : Nat} {xs : List S143} (h : Kd.C k143 w A n xs) (i : Int) (h0 : 0 <= i) (h1 : i < n) : ∃ ad , A = some ad /\ w.cell? (ad.add (i.toNat * 5)) = some (.bool (kt_ xs i).f0) /\ w.cell? ⟨(ad.add (i.toNat * 5)).block, (ad.add (i.toNat * 5)).off + 1, none⟩ = some (.int .i64 (kt_ xs i).f1) /\ w.cell? ⟨(ad.add (i.toNat * 5)).block, (ad.add (i.toNat * 5)).off + 2, none⟩ = some (.int .i64 (kt_ xs i).f2) /\ w.cell? ⟨(ad.add (i.toNat * 5)).block, (ad.add (i.toNat * 5)).off + 3, none⟩ = some (.int .i64 (kt_ xs i).f3) /\ w.cell? ⟨(ad.add (i.toNat * 5)).block, (ad.add (i.toNat * 5)).off + 4, none⟩ = some (.int .i64 (kt_ xs i).f4) := by
 obtain ⟨ad, c, e, _, hK, hc0⟩ := Kd.C_get h z143 i h0 h1
 have hc : ∀ j u, c[j]? = some u -> w.cell? (ad.add (i.toNat * 5 + j)) = some u := hc0
 obtain rfl := k143_open hK
 exact ⟨ad, e, hc 0 _ rfl, by rw [<- kF_ _ _ 1 (by omega)]; exact hc 1 _ rfl, by rw [<- kF_ _ _ 2 (by omega)]; exact hc 2 _ rfl, by rw [<- kF_ _ _ 3 (by omega)]; exact hc 3 _ rfl, by rw [<- kF_ _ _ 4 (by omega)]; exact hc 4 _ rfl⟩
structure S134 where
  f0 : Int
  f1 : Int
def z134 : S134 := ⟨(0 : Int), (0 : Int)⟩
def k134 : Kd S134 := Kd.iso (Kd.pair (Kd.int .i64) (Kd.int .i64)) (fun x : S134 => (x.f0, x.f1))
theorem k134_open {w : World} {x : S134} {cs : List Value} (h : k134.K w x cs) : cs = [.int .i64 x.f0, .int .i64 x.f1] := by
 obtain ⟨_, _, rfl, rfl, rfl⟩ := h
 exact rfl
theorem xZ_ (w : World) (base : Nat) (ok : Nat -> Prop) (x : S134)  : k134.M w base ok x [.int .i64 x.f0, .int .i64 x.f1] := ⟨[.int .i64 x.f0], [.int .i64 x.f1], rfl, rfl, rfl⟩
def vD_ (xs : List S134) (i : Int) : S134 := xs.getD i.toNat z134
theorem xf_ {w : World} {A : Option Addr} {n : Nat} {xs : List S134} (h : Kd.C k134 w A n xs) (i : Int) (h0 : 0 <= i) (h1 : i < n) : ∃ ad , A = some ad /\ w.cell? (ad.add (i.toNat * 2)) = some (.int .i64 (vD_ xs i).f0) /\ w.cell? ⟨(ad.add (i.toNat * 2)).block, (ad.add (i.toNat * 2)).off + 1, none⟩ = some (.int .i64 (vD_ xs i).f1) := by
 obtain ⟨ad, c, e, _, hK, hc0⟩ := Kd.C_get h z134 i h0 h1
 have hc : ∀ j u, c[j]? = some u -> w.cell? (ad.add (i.toNat * 2 + j)) = some u := hc0
 obtain rfl := k134_open hK
 exact ⟨ad, e, hc 0 _ rfl, by rw [<- kF_ _ _ 1 (by omega)]; exact hc 1 _ rfl⟩
end Go.Proofs.Ytgckcaoncjhgbaa.PG
