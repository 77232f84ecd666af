/- Printed by the kit's print over stand-ins for some functions (xprint.py), with contracts of my own in their place. -/
import Derived.Test.YtbjpjddhkpnofaaPAx0
import Derived.Test.YtbjpjddhkpnofaaFSD
namespace Go.Proofs.Ytbjpjddhkpnofaa.PA
open Go.RowKit Go.Proofs.YtbjpjddhkpnofaaW.PrintWords Go.Proofs.YtbjpjddhkpnofaaW.PrintLast
set_option linter.unusedVariables false
set_option linter.unusedSimpArgs false

/-! ### extent_Merge: function 8 -/
def extent_Merge.f (l0 : List (S27)) : Option ((List (S27))) := if (l0).length < 41 then some (Geo.mergeF l0) else none
set_option maxHeartbeats 2000000 in
set_option maxRecDepth 100000 in
theorem extent_Merge.calls (A0 : Option Addr) (c0 : Nat) (l0 : List (S27)) (r : List (S27)) (w : World) (hr0 : Kd.C k27 w A0 l0.length l0) (hc0 : l0.length ≤ c0) (h : extent_Merge.f l0 = some r) :
  Calls Try.prog 8 #[.slice A0 l0.length c0] w fun e w' => ∃ v0_ : Value, e = .returned (v0_) ∧ Kd.R k27 27 w' w.heap.size (fun _ => True) v0_ r ∧ Below w.heap.size w w' := by
 simp only [extent_Merge.f] at h
 split at h
 ·rename_i hl
  obtain rfl := Option.some.inj h
  exact merge_any A0 c0 l0 w hr0 hc0 hl
 ·cases h

end Go.Proofs.Ytbjpjddhkpnofaa.PA
