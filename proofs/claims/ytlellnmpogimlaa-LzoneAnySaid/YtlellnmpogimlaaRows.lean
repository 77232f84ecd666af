/-
  No cell of these rows narrows 'for every input' (looked for: loops, veiled, ifaces, maps, wideKeys, modest, calm, conditions, laid).
  DERIVED. THE GIVEN ROWS OF THIS SEAT. 4 by the template 'for every input the law returns true; each argument reads behind the call as it read before'; 0 by the template 'total and deterministic' (their statements: YtlellnmpogimlaaTotals.lean).
  GIVEN WITH THE SEED: the statements are not yours to turn. If you find one false, say at which input.
  Laid BY PROGRAM, IN A SANDBOX (cutbox-rows.mjs): the forced cells as the released guide's own fill.sh prints them over the translation 0b4240a7ed2a4380… (all of the seat's roots in one cut). By AI agents, Wed Nov 11 2026. No macro, syntax, notation, axiom, sorry.
-/
import Derived.Test.YtlellnmpogimlaaChecked
import GoSem.Claim
import GoSem.ClaimJoined
import GoSem.ClaimMapViews
import Derived.JoinedTies
import Derived.KernelRfl
namespace Go.Proofs.Ytlellnmpogimlaa
/- THE CELL 'sum', in the pinned program and in every row, IS THE sha256 OF THE DUMP (.gsa) THAT YtlellnmpogimlaaProg.lean LOADS. Nothing in Lean hashes anything: it is a label: what it is worth is what the hold of that sum in a sandbox is worth. -/
noncomputable def Try.pinned : Pinned := { name := "ytlellnmpogimlaa", sum := "0b4240a7ed2a438056e2bf21611a5fb216cf6446445be2504032127c5fe01fcc", checked := Try.checked }
namespace Rows
def none {H : Type} : Left H := { results := [], args := [] }

/-- 'revetmentlaw17.LzoneLoads': WHATEVER THE INPUT: true; the input reads as it did. -/
def lzoneLoadsSpec : ChangeSpec := { name := "lzoneLoads", fn := fun _ => fun
  | [d1, d2] => { results := [.lit (.bool true)], args := [d1, d2] }
  | _ => none }
def lzoneLoadsRow : OpenClaim := { program := "ytlellnmpogimlaa", sum := "0b4240a7ed2a438056e2bf21611a5fb216cf6446445be2504032127c5fe01fcc", func := "revetment/revetmentlaw17.LzoneLoads", spec := "lzoneLoads", unfollowed := true, recurses := true, apart := false }
def LzoneLoadsSaid : Prop := lzoneLoadsRow.holds Try.pinned (OpenSpec.ofChange lzoneLoadsSpec)

/-- ITS FALSE NEIGHBOUR: 'it returns false'. Refute it at one input. -/
def lzoneLoadsWrong : ChangeSpec := { name := "lzoneLoads", fn := fun _ => fun
  | [d1, d2] => { results := [.lit (.bool false)], args := [d1, d2] }
  | _ => none }
def LzoneLoadsWrongFalsely : Prop := lzoneLoadsRow.holds Try.pinned (OpenSpec.ofChange lzoneLoadsWrong)

/-- 'revetmentlaw17.LzonePlays': WHATEVER THE INPUT: true; the input reads as it did. -/
def lzonePlaysSpec : ChangeSpec := { name := "lzonePlays", fn := fun _ => fun
  | [d1, d2] => { results := [.lit (.bool true)], args := [d1, d2] }
  | _ => none }
def lzonePlaysRow : OpenClaim := { program := "ytlellnmpogimlaa", sum := "0b4240a7ed2a438056e2bf21611a5fb216cf6446445be2504032127c5fe01fcc", func := "revetment/revetmentlaw17.LzonePlays", spec := "lzonePlays", unfollowed := true, recurses := true, apart := false }
def LzonePlaysSaid : Prop := lzonePlaysRow.holds Try.pinned (OpenSpec.ofChange lzonePlaysSpec)

/-- ITS FALSE NEIGHBOUR: 'it returns false'. Refute it at one input. -/
def lzonePlaysWrong : ChangeSpec := { name := "lzonePlays", fn := fun _ => fun
  | [d1, d2] => { results := [.lit (.bool false)], args := [d1, d2] }
  | _ => none }
def LzonePlaysWrongFalsely : Prop := lzonePlaysRow.holds Try.pinned (OpenSpec.ofChange lzonePlaysWrong)

/-- 'revetmentlaw17.LzoneAny': WHATEVER THE INPUT: true; the input reads as it did. -/
def lzoneAnySpec : ChangeSpec := { name := "lzoneAny", fn := fun _ => fun
  | [d1, d2, d3] => { results := [.lit (.bool true)], args := [d1, d2, d3] }
  | _ => none }
def lzoneAnyRow : OpenClaim := { program := "ytlellnmpogimlaa", sum := "0b4240a7ed2a438056e2bf21611a5fb216cf6446445be2504032127c5fe01fcc", func := "revetment/revetmentlaw17.LzoneAny", spec := "lzoneAny", unfollowed := true, recurses := true, apart := false }
def LzoneAnySaid : Prop := lzoneAnyRow.holds Try.pinned (OpenSpec.ofChange lzoneAnySpec)

/-- ITS FALSE NEIGHBOUR: 'it returns false'. Refute it at one input. -/
def lzoneAnyWrong : ChangeSpec := { name := "lzoneAny", fn := fun _ => fun
  | [d1, d2, d3] => { results := [.lit (.bool false)], args := [d1, d2, d3] }
  | _ => none }
def LzoneAnyWrongFalsely : Prop := lzoneAnyRow.holds Try.pinned (OpenSpec.ofChange lzoneAnyWrong)

/-- 'revetmentlaw17.LzoneLimits': WHATEVER THE INPUT: true; the input reads as it did. -/
def lzoneLimitsSpec : ChangeSpec := { name := "lzoneLimits", fn := fun _ => fun
  | [d1, d2] => { results := [.lit (.bool true)], args := [d1, d2] }
  | _ => none }
def lzoneLimitsRow : OpenClaim := { program := "ytlellnmpogimlaa", sum := "0b4240a7ed2a438056e2bf21611a5fb216cf6446445be2504032127c5fe01fcc", func := "revetment/revetmentlaw17.LzoneLimits", spec := "lzoneLimits", unfollowed := true, recurses := true, apart := false }
def LzoneLimitsSaid : Prop := lzoneLimitsRow.holds Try.pinned (OpenSpec.ofChange lzoneLimitsSpec)

/-- ITS FALSE NEIGHBOUR: 'it returns false'. Refute it at one input. -/
def lzoneLimitsWrong : ChangeSpec := { name := "lzoneLimits", fn := fun _ => fun
  | [d1, d2] => { results := [.lit (.bool false)], args := [d1, d2] }
  | _ => none }
def LzoneLimitsWrongFalsely : Prop := lzoneLimitsRow.holds Try.pinned (OpenSpec.ofChange lzoneLimitsWrong)

/- THE SECOND FORM. 'bulk': how many values and letters a reading holds, each counted each time it is reached (what is shared counts as often as it is met; a slice's spare places count too). A statement '..UptoSaid' is the law's where the arguments, and the package variables that the reading takes, are together of bulk at most 1048576: NARROWER than '..Said'. Prove '..Said' where nothing that the law and all that it calls make is longer than what came in: it says more and counts as full. Else prove '..UptoSaid'. A law counts once. -/
mutual
def uptoBulk {H : Type} : DataW H → Nat
  | .lit (.string bytes) => bytes.length + 1
  | .lit _ => 1
  | .nil => 1
  | .ptr d => uptoBulk d + 1
  | .slice elems spare => uptoBulkAll elems + uptoBulkAll spare + 1
  | .agg parts => uptoBulkAll parts + 1
  | .iface _ d => uptoBulk d + 1
  | .map entries => uptoBulkEntries entries + 1
  | .held _ => 1
def uptoBulkAll {H : Type} : List (DataW H) → Nat
  | [] => 0
  | d :: r => uptoBulk d + uptoBulkAll r
def uptoBulkEntries {H : Type} : List (Lit × DataW H) → Nat
  | [] => 0
  | x :: r => uptoBulkEntry x + uptoBulkEntries r
def uptoBulkEntry {H : Type} : Lit × DataW H → Nat
  | (.string bytes, d) => bytes.length + uptoBulk d + 1
  | (_, d) => uptoBulk d + 1
 end
def uptoSmall : (H : Type) → List (DataW H) → Bool := fun _ ds => decide (uptoBulkAll ds ≤ 1048576)
def OpenSpec.upto (s : _root_.Go.ChangeSpec) : _root_.Go.OpenSpec := { _root_.Go.OpenSpec.ofChange s with cond := some uptoSmall }

/-- 'revetmentlaw17.LzoneLoads', WHERE WHAT IT READS IS OF BULK AT MOST 1048576: true; the input reads as it did. -/
def lzoneLoadsUptoRow : OpenClaim := { program := "ytlellnmpogimlaa", sum := "0b4240a7ed2a438056e2bf21611a5fb216cf6446445be2504032127c5fe01fcc", func := "revetment/revetmentlaw17.LzoneLoads", spec := "lzoneLoads", unfollowed := true, recurses := true, apart := false, narrowed := true }
def LzoneLoadsUptoSaid : Prop := lzoneLoadsUptoRow.holds Try.pinned (OpenSpec.upto lzoneLoadsSpec)

/-- 'revetmentlaw17.LzonePlays', WHERE WHAT IT READS IS OF BULK AT MOST 1048576: true; the input reads as it did. -/
def lzonePlaysUptoRow : OpenClaim := { program := "ytlellnmpogimlaa", sum := "0b4240a7ed2a438056e2bf21611a5fb216cf6446445be2504032127c5fe01fcc", func := "revetment/revetmentlaw17.LzonePlays", spec := "lzonePlays", unfollowed := true, recurses := true, apart := false, narrowed := true }
def LzonePlaysUptoSaid : Prop := lzonePlaysUptoRow.holds Try.pinned (OpenSpec.upto lzonePlaysSpec)

/-- 'revetmentlaw17.LzoneAny', WHERE WHAT IT READS IS OF BULK AT MOST 1048576: true; the input reads as it did. -/
def lzoneAnyUptoRow : OpenClaim := { program := "ytlellnmpogimlaa", sum := "0b4240a7ed2a438056e2bf21611a5fb216cf6446445be2504032127c5fe01fcc", func := "revetment/revetmentlaw17.LzoneAny", spec := "lzoneAny", unfollowed := true, recurses := true, apart := false, narrowed := true }
def LzoneAnyUptoSaid : Prop := lzoneAnyUptoRow.holds Try.pinned (OpenSpec.upto lzoneAnySpec)

/-- 'revetmentlaw17.LzoneLimits', WHERE WHAT IT READS IS OF BULK AT MOST 1048576: true; the input reads as it did. -/
def lzoneLimitsUptoRow : OpenClaim := { program := "ytlellnmpogimlaa", sum := "0b4240a7ed2a438056e2bf21611a5fb216cf6446445be2504032127c5fe01fcc", func := "revetment/revetmentlaw17.LzoneLimits", spec := "lzoneLimits", unfollowed := true, recurses := true, apart := false, narrowed := true }
def LzoneLimitsUptoSaid : Prop := lzoneLimitsUptoRow.holds Try.pinned (OpenSpec.upto lzoneLimitsSpec)

end Rows
end Go.Proofs.Ytlellnmpogimlaa
