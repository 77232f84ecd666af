/- Package model in plain Lean: what a command makes of zones, their texts, and how much of each is safe. -/
import Derived.Test.YtgckcaoncjhgbaaGwWords
import Derived.Test.YtgckcaoncjhgbaaLzWrite
import Derived.Test.YtgckcaoncjhgbaaLzOps
namespace Go.Proofs.Ytgckcaoncjhgbaa
open Go.RowKit Go.Proofs.Ytgckcaoncjhgbaa.PL Go.Proofs.YtgckcaoncjhgbaaW.PrintWords
/-- Zones, texts, safe. -/
structure Mdl where
  L : List S59
  T : List ByteArray
  S : List Int
/-- All is safe. -/
def flushM (M : Mdl) : Mdl := ⟨M.L, M.T, M.L.map (·.f1)⟩
/-- A zone has another text. -/
def withM (M : Mdl) (i : Int) (t : ByteArray) (s : Int) : Mdl := ⟨M.L, M.T.set i.toNat t, M.S.set i.toNat s⟩
/-- The table of an answer that is no error. -/
def tabOf (r : Option (List S59)) (L : List S59) : List S59 := r.getD L
/-- Blocks more. -/
def writeM (id m u b c z s me o a l : Int) (M : Mdl) (i p : Int) (d : List Int) (f : Bool) : Mdl × Int :=
  if ¬ (0 ≤ i ∧ i < (M.T.length : Int)) then (M, 2)
  else if ¬ (d.length : Int) % b = 0 then (M, 3)
  else if ¬ (writeZ id m u b c z s me o a l M.L i p ((d.length : Int) / b)).2 = 0 then (M, (writeZ id m u b c z s me o a l M.L i p ((d.length : Int) / b)).2)
  else ((fun N => if f = true then flushM N else N) ⟨tabOf (writeZ id m u b c z s me o a l M.L i p ((d.length : Int) / b)).1 M.L, M.T.set i.toNat (rdOf default M.T i ++ strOfNums d), M.S.set i.toNat (rdOf default M.S i)⟩, 0)
/-- What is read. -/
def readM (id m u b c z s me o a l : Int) (M : Mdl) (i p n : Int) : Int × ByteArray :=
  if ¬ readZ id m u b c z s me o a l M.L i p n = 0 then (readZ id m u b c z s me o a l M.L i p n, ByteArray.empty) else (0, (rdOf default M.T i).extract (p * b).toNat ((p + n) * b).toNat)
/-- A zone's state: k is the command's number, r the table's answer. -/
def changeM (M : Mdl) (k i : Int) (r : Option (List S59) × Int) : Mdl × Int :=
  if ¬ r.2 = 0 then (M, r.2)
  else if k = 3 then (withM ⟨tabOf r.1 M.L, M.T, M.S⟩ i ByteArray.empty 0, 0)
  else if k = 4 then (flushM ⟨tabOf r.1 M.L, M.T, M.S⟩, 0)
  else (⟨tabOf r.1 M.L, M.T, M.S⟩, 0)
/-- A command: the model, the error, the data, the zone. -/
def doM (id m u b c z s me o a l : Int) (M : Mdl) (x : S65) : Mdl × Int × ByteArray × S59 :=
  if x.f0 = 0 then ((writeM id m u b c z s me o a l M x.f1 x.f2 x.f4 x.f5).1, (writeM id m u b c z s me o a l M x.f1 x.f2 x.f4 x.f5).2, ByteArray.empty, z59)
  else if x.f0 = 1 then (M, (readM id m u b c z s me o a l M x.f1 x.f2 x.f3).1, (readM id m u b c z s me o a l M x.f1 x.f2 x.f3).2, z59)
  else if x.f0 = 2 then (flushM M, 0, ByteArray.empty, z59)
  else if x.f0 = 3 then ((changeM M 3 x.f1 (resetZ id m u b c z s me o a l M.L x.f1)).1, (changeM M 3 x.f1 (resetZ id m u b c z s me o a l M.L x.f1)).2, ByteArray.empty, z59)
  else if x.f0 = 4 then ((changeM M 4 x.f1 (finishZ id m u b c z s me o a l M.L x.f1)).1, (changeM M 4 x.f1 (finishZ id m u b c z s me o a l M.L x.f1)).2, ByteArray.empty, z59)
  else if x.f0 = 5 then ((changeM M 5 x.f1 (openZ id m u b c z s me o a l M.L x.f1)).1, (changeM M 5 x.f1 (openZ id m u b c z s me o a l M.L x.f1)).2, ByteArray.empty, z59)
  else if x.f0 = 6 then ((changeM M 6 x.f1 (closeZ id m u b c z s me o a l M.L x.f1)).1, (changeM M 6 x.f1 (closeZ id m u b c z s me o a l M.L x.f1)).2, ByteArray.empty, z59)
  else if x.f0 = 7 then (if 0 ≤ x.f1 ∧ x.f1 < (M.T.length : Int) then (M, 0, ByteArray.empty, rd_T59 M.L x.f1) else (M, 2, ByteArray.empty, z59))
  else (M, 1, ByteArray.empty, z59)
/-- What a model holds: the zones may be, and each text is as long as its zone says. -/
def MInv (id m u b c z s me o a l : Int) (M : Mdl) : Prop :=
  rightZ id m u b c z s me o a l M.L = true ∧ M.T.length = M.L.length ∧ M.S.length = M.L.length ∧
  ∀ j : Nat, j < M.L.length → ((rdOf default M.T j).size : Int) = (rd_T59 M.L j).f1 * b ∧ 0 ≤ rdOf default M.S j ∧ rdOf default M.S j ≤ (rd_T59 M.L j).f1
/-- A model as arguments and as an answer. -/
def MC (w : World) (x y q : Value) (M : Mdl) : Prop := SlC k59 w x M.L ∧ SlC Kd.string w y M.T ∧ SlC (Kd.int .i64) w q M.S
def MD (base : Nat) (w : World) (x0 y0 q0 : Value) (M0 : Mdl) (x y q : Value) (M : Mdl) : Prop :=
  RowD k59 59 base w x0 M0.L x M.L ∧ RowD Kd.string 9 base w y0 M0.T y M.T ∧ RowD (Kd.int .i64) 3 base w q0 M0.S q M.S
def MR (base : Nat) (w : World) (x y q : Value) (M : Mdl) : Prop :=
  Kd.R k59 59 w base (fun _ => True) x M.L ∧ Kd.R Kd.string 9 w base (fun _ => True) y M.T ∧ Kd.R (Kd.int .i64) 3 w base (fun _ => True) q M.S
theorem MC_below {w w' : World} {x y q : Value} {M : Mdl} (h : MC w x y q M) (hb : Below w.heap.size w w') : MC w' x y q M := ⟨SlC_below h.1 hb, SlC_below h.2.1 hb, SlC_below h.2.2 hb⟩
theorem MC_R {base : Nat} {w : World} {x y q : Value} {M : Mdl} (h : MR base w x y q M) : MC w x y q M := ⟨SlC_R h.1, SlC_R h.2.1, SlC_R h.2.2⟩
theorem MD_C {base : Nat} {w : World} {x0 y0 q0 x y q : Value} {M0 M : Mdl} (h : MD base w x0 y0 q0 M0 x y q M) (h0 : MC w x0 y0 q0 M0) : MC w x y q M := ⟨RowD_slc h.1 h0.1, RowD_slc h.2.1 h0.2.1, RowD_slc h.2.2 h0.2.2⟩
theorem MD_R {base base' : Nat} {w : World} {x0 y0 q0 x y q : Value} {M0 M : Mdl} (h : MD base w x0 y0 q0 M0 x y q M) (h0 : MR base' w x0 y0 q0 M0) (hb : base' ≤ base) : MR base' w x y q M := ⟨RowD_R h.1 h0.1 hb, RowD_R h.2.1 h0.2.1 hb, RowD_R h.2.2 h0.2.2 hb⟩
theorem MD_same {base : Nat} {w : World} {x y q : Value} {M : Mdl} : MD base w x y q M x y q M := ⟨RowD_same, RowD_same, RowD_same⟩
end Go.Proofs.Ytgckcaoncjhgbaa
