/- Printed by the kit's print over stand-ins for some functions (xprint.py), with contracts of my own in their place. -/
import Derived.Test.YtlellnmpogimlaaPLx0
import Derived.Test.YtlellnmpogimlaaLzClone
namespace Go.Proofs.Ytlellnmpogimlaa.PL
open Go.RowKit Go.Proofs.YtlellnmpogimlaaW.PrintWords Go.Proofs.YtlellnmpogimlaaW.PrintLast
set_option linter.unusedVariables false
set_option linter.unusedSimpArgs false

/-! ### api_LZone_24: function 24 -/
def api_LZone_24.f (l0 : List (S57)) : Option ((List (S57))) := if (l0).length < 1000000000 then some (l0) else none
set_option maxHeartbeats 2000000 in
set_option maxRecDepth 100000 in
theorem api_LZone_24.calls (A0 : Option Addr) (c0 : Nat) (l0 : List (S57)) (r : List (S57)) (w : World) (hr0 : Kd.C k57 w A0 l0.length l0) (hc0 : l0.length ≤ c0) (h : api_LZone_24.f l0 = some r) :
  Calls Try.prog 24 #[.slice A0 l0.length c0] w fun e w' => ∃ v0_ : Value, e = .returned (v0_) ∧ Kd.R k57 57 w' w.heap.size (fun _ => True) v0_ r ∧ Below w.heap.size w w' := by
 simp only [api_LZone_24.f] at h
 split at h
 ·rename_i hl
  obtain rfl := Option.some.inj h
  exact cloneZ_any A0 c0 l0 w hr0 hc0 hl
 ·cases h

end Go.Proofs.Ytlellnmpogimlaa.PL
