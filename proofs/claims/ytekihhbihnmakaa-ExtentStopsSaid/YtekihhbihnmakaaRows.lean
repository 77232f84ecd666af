/-
  No cell of these rows narrows 'for every input' (looked for: loops, veiled, ifaces, maps, wideKeys, modest, calm, conditions, laid).
  DERIVED. THE GIVEN ROWS OF THIS SEAT. 14 by the template 'for every input the law returns true; each argument reads behind the call as it read before'; 0 by the template 'total and deterministic' (their statements: YtekihhbihnmakaaTotals.lean).
  GIVEN WITH THE SEED: the statements are not yours to turn. If you find one false, say at which input.
  Laid BY PROGRAM, IN A SANDBOX (cutbox-rows.mjs): the forced cells as the released guide's own fill.sh prints them over the translation 4dfd6188147902b1… (all of the seat's roots in one cut). By AI agents, Wed Nov 11 2026. No macro, syntax, notation, axiom, sorry.
-/
import Derived.Test.YtekihhbihnmakaaChecked
import GoSem.Claim
import GoSem.ClaimJoined
import GoSem.ClaimMapViews
import Derived.JoinedTies
import Derived.KernelRfl
namespace Go.Proofs.Ytekihhbihnmakaa
/- THE CELL 'sum', in the pinned program and in every row, IS THE sha256 OF THE DUMP (.gsa) THAT YtekihhbihnmakaaProg.lean LOADS. Nothing in Lean hashes anything: it is a label: what it is worth is what the hold of that sum in a sandbox is worth. -/
noncomputable def Try.pinned : Pinned := { name := "ytekihhbihnmakaa", sum := "4dfd6188147902b1e75932b9d505f7662fe24fa212c443ef5faa581fd7269d39", checked := Try.checked }
namespace Rows
def none {H : Type} : Left H := { results := [], args := [] }

/-- 'revetmentlaw08.GeomOf': WHATEVER THE INPUT: true; the input reads as it did. -/
def geomOfSpec : ChangeSpec := { name := "geomOf", fn := fun _ => fun
  | [d1, d2, d3, d4, d5, d6] => { results := [.lit (.bool true)], args := [d1, d2, d3, d4, d5, d6] }
  | _ => none }
def geomOfRow : OpenClaim := { program := "ytekihhbihnmakaa", sum := "4dfd6188147902b1e75932b9d505f7662fe24fa212c443ef5faa581fd7269d39", func := "revetment/revetmentlaw08.GeomOf", spec := "geomOf", unfollowed := true, recurses := true, apart := false }
def GeomOfSaid : Prop := geomOfRow.holds Try.pinned (OpenSpec.ofChange geomOfSpec)

/-- ITS FALSE NEIGHBOUR: 'it returns false'. Refute it at one input. -/
def geomOfWrong : ChangeSpec := { name := "geomOf", fn := fun _ => fun
  | [d1, d2, d3, d4, d5, d6] => { results := [.lit (.bool false)], args := [d1, d2, d3, d4, d5, d6] }
  | _ => none }
def GeomOfWrongFalsely : Prop := geomOfRow.holds Try.pinned (OpenSpec.ofChange geomOfWrong)

/-- 'revetmentlaw08.GeomNeeds': WHATEVER THE INPUT: true; the input reads as it did. -/
def geomNeedsSpec : ChangeSpec := { name := "geomNeeds", fn := fun _ => fun
  | [d1, d2, d3] => { results := [.lit (.bool true)], args := [d1, d2, d3] }
  | _ => none }
def geomNeedsRow : OpenClaim := { program := "ytekihhbihnmakaa", sum := "4dfd6188147902b1e75932b9d505f7662fe24fa212c443ef5faa581fd7269d39", func := "revetment/revetmentlaw08.GeomNeeds", spec := "geomNeeds", unfollowed := true, recurses := true, apart := false }
def GeomNeedsSaid : Prop := geomNeedsRow.holds Try.pinned (OpenSpec.ofChange geomNeedsSpec)

/-- ITS FALSE NEIGHBOUR: 'it returns false'. Refute it at one input. -/
def geomNeedsWrong : ChangeSpec := { name := "geomNeeds", fn := fun _ => fun
  | [d1, d2, d3] => { results := [.lit (.bool false)], args := [d1, d2, d3] }
  | _ => none }
def GeomNeedsWrongFalsely : Prop := geomNeedsRow.holds Try.pinned (OpenSpec.ofChange geomNeedsWrong)

/-- 'revetmentlaw08.GeomApart': WHATEVER THE INPUT: true; the input reads as it did. -/
def geomApartSpec : ChangeSpec := { name := "geomApart", fn := fun _ => fun
  | [d1, d2, d3] => { results := [.lit (.bool true)], args := [d1, d2, d3] }
  | _ => none }
def geomApartRow : OpenClaim := { program := "ytekihhbihnmakaa", sum := "4dfd6188147902b1e75932b9d505f7662fe24fa212c443ef5faa581fd7269d39", func := "revetment/revetmentlaw08.GeomApart", spec := "geomApart", unfollowed := true, recurses := true, apart := false }
def GeomApartSaid : Prop := geomApartRow.holds Try.pinned (OpenSpec.ofChange geomApartSpec)

/-- ITS FALSE NEIGHBOUR: 'it returns false'. Refute it at one input. -/
def geomApartWrong : ChangeSpec := { name := "geomApart", fn := fun _ => fun
  | [d1, d2, d3] => { results := [.lit (.bool false)], args := [d1, d2, d3] }
  | _ => none }
def GeomApartWrongFalsely : Prop := geomApartRow.holds Try.pinned (OpenSpec.ofChange geomApartWrong)

/-- 'revetmentlaw41.ExtentStops': WHATEVER THE INPUT: true; the input reads as it did. -/
def extentStopsSpec : ChangeSpec := { name := "extentStops", fn := fun _ => fun
  | [d1, d2, d3, d4] => { results := [.lit (.bool true)], args := [d1, d2, d3, d4] }
  | _ => none }
def extentStopsRow : OpenClaim := { program := "ytekihhbihnmakaa", sum := "4dfd6188147902b1e75932b9d505f7662fe24fa212c443ef5faa581fd7269d39", func := "revetment/revetmentlaw41.ExtentStops", spec := "extentStops", unfollowed := true, recurses := true, apart := false }
def ExtentStopsSaid : Prop := extentStopsRow.holds Try.pinned (OpenSpec.ofChange extentStopsSpec)

/-- ITS FALSE NEIGHBOUR: 'it returns false'. Refute it at one input. -/
def extentStopsWrong : ChangeSpec := { name := "extentStops", fn := fun _ => fun
  | [d1, d2, d3, d4] => { results := [.lit (.bool false)], args := [d1, d2, d3, d4] }
  | _ => none }
def ExtentStopsWrongFalsely : Prop := extentStopsRow.holds Try.pinned (OpenSpec.ofChange extentStopsWrong)

/-- 'revetmentlaw09.PlanParts': WHATEVER THE INPUT: true; the input reads as it did. -/
def planPartsSpec : ChangeSpec := { name := "planParts", fn := fun _ => fun
  | [d1, d2, d3] => { results := [.lit (.bool true)], args := [d1, d2, d3] }
  | _ => none }
def planPartsRow : OpenClaim := { program := "ytekihhbihnmakaa", sum := "4dfd6188147902b1e75932b9d505f7662fe24fa212c443ef5faa581fd7269d39", func := "revetment/revetmentlaw09.PlanParts", spec := "planParts", unfollowed := true, recurses := true, apart := false }
def PlanPartsSaid : Prop := planPartsRow.holds Try.pinned (OpenSpec.ofChange planPartsSpec)

/-- ITS FALSE NEIGHBOUR: 'it returns false'. Refute it at one input. -/
def planPartsWrong : ChangeSpec := { name := "planParts", fn := fun _ => fun
  | [d1, d2, d3] => { results := [.lit (.bool false)], args := [d1, d2, d3] }
  | _ => none }
def PlanPartsWrongFalsely : Prop := planPartsRow.holds Try.pinned (OpenSpec.ofChange planPartsWrong)

/-- 'revetmentlaw09.PlanSteps': WHATEVER THE INPUT: true; the input reads as it did. -/
def planStepsSpec : ChangeSpec := { name := "planSteps", fn := fun _ => fun
  | [d1, d2, d3] => { results := [.lit (.bool true)], args := [d1, d2, d3] }
  | _ => none }
def planStepsRow : OpenClaim := { program := "ytekihhbihnmakaa", sum := "4dfd6188147902b1e75932b9d505f7662fe24fa212c443ef5faa581fd7269d39", func := "revetment/revetmentlaw09.PlanSteps", spec := "planSteps", unfollowed := true, recurses := true, apart := false }
def PlanStepsSaid : Prop := planStepsRow.holds Try.pinned (OpenSpec.ofChange planStepsSpec)

/-- ITS FALSE NEIGHBOUR: 'it returns false'. Refute it at one input. -/
def planStepsWrong : ChangeSpec := { name := "planSteps", fn := fun _ => fun
  | [d1, d2, d3] => { results := [.lit (.bool false)], args := [d1, d2, d3] }
  | _ => none }
def PlanStepsWrongFalsely : Prop := planStepsRow.holds Try.pinned (OpenSpec.ofChange planStepsWrong)

/-- 'revetmentlaw09.PlanPeers': WHATEVER THE INPUT: true; the input reads as it did. -/
def planPeersSpec : ChangeSpec := { name := "planPeers", fn := fun _ => fun
  | [d1, d2, d3] => { results := [.lit (.bool true)], args := [d1, d2, d3] }
  | _ => none }
def planPeersRow : OpenClaim := { program := "ytekihhbihnmakaa", sum := "4dfd6188147902b1e75932b9d505f7662fe24fa212c443ef5faa581fd7269d39", func := "revetment/revetmentlaw09.PlanPeers", spec := "planPeers", unfollowed := true, recurses := true, apart := false }
def PlanPeersSaid : Prop := planPeersRow.holds Try.pinned (OpenSpec.ofChange planPeersSpec)

/-- ITS FALSE NEIGHBOUR: 'it returns false'. Refute it at one input. -/
def planPeersWrong : ChangeSpec := { name := "planPeers", fn := fun _ => fun
  | [d1, d2, d3] => { results := [.lit (.bool false)], args := [d1, d2, d3] }
  | _ => none }
def PlanPeersWrongFalsely : Prop := planPeersRow.holds Try.pinned (OpenSpec.ofChange planPeersWrong)

/-- 'revetmentlaw16.PrefixOfs': WHATEVER THE INPUT: true; the input reads as it did. -/
def prefixOfsSpec : ChangeSpec := { name := "prefixOfs", fn := fun _ => fun
  | [d] => { results := [.lit (.bool true)], args := [d] }
  | _ => none }
def prefixOfsRow : OpenClaim := { program := "ytekihhbihnmakaa", sum := "4dfd6188147902b1e75932b9d505f7662fe24fa212c443ef5faa581fd7269d39", func := "revetment/revetmentlaw16.PrefixOfs", spec := "prefixOfs", unfollowed := true, recurses := true, apart := false }
def PrefixOfsSaid : Prop := prefixOfsRow.holds Try.pinned (OpenSpec.ofChange prefixOfsSpec)

/-- ITS FALSE NEIGHBOUR: 'it returns false'. Refute it at one input. -/
def prefixOfsWrong : ChangeSpec := { name := "prefixOfs", fn := fun _ => fun
  | [d] => { results := [.lit (.bool false)], args := [d] }
  | _ => none }
def PrefixOfsWrongFalsely : Prop := prefixOfsRow.holds Try.pinned (OpenSpec.ofChange prefixOfsWrong)

/-- 'revetmentlaw16.PrefixGrows': WHATEVER THE INPUT: true; the input reads as it did. -/
def prefixGrowsSpec : ChangeSpec := { name := "prefixGrows", fn := fun _ => fun
  | [d1, d2, d3] => { results := [.lit (.bool true)], args := [d1, d2, d3] }
  | _ => none }
def prefixGrowsRow : OpenClaim := { program := "ytekihhbihnmakaa", sum := "4dfd6188147902b1e75932b9d505f7662fe24fa212c443ef5faa581fd7269d39", func := "revetment/revetmentlaw16.PrefixGrows", spec := "prefixGrows", unfollowed := true, recurses := true, apart := false }
def PrefixGrowsSaid : Prop := prefixGrowsRow.holds Try.pinned (OpenSpec.ofChange prefixGrowsSpec)

/-- ITS FALSE NEIGHBOUR: 'it returns false'. Refute it at one input. -/
def prefixGrowsWrong : ChangeSpec := { name := "prefixGrows", fn := fun _ => fun
  | [d1, d2, d3] => { results := [.lit (.bool false)], args := [d1, d2, d3] }
  | _ => none }
def PrefixGrowsWrongFalsely : Prop := prefixGrowsRow.holds Try.pinned (OpenSpec.ofChange prefixGrowsWrong)

/-- 'revetmentlaw09.PlanMissing': WHATEVER THE INPUT: true; the input reads as it did. -/
def planMissingSpec : ChangeSpec := { name := "planMissing", fn := fun _ => fun
  | [d1, d2, d3] => { results := [.lit (.bool true)], args := [d1, d2, d3] }
  | _ => none }
def planMissingRow : OpenClaim := { program := "ytekihhbihnmakaa", sum := "4dfd6188147902b1e75932b9d505f7662fe24fa212c443ef5faa581fd7269d39", func := "revetment/revetmentlaw09.PlanMissing", spec := "planMissing", unfollowed := true, recurses := true, apart := false }
def PlanMissingSaid : Prop := planMissingRow.holds Try.pinned (OpenSpec.ofChange planMissingSpec)

/-- ITS FALSE NEIGHBOUR: 'it returns false'. Refute it at one input. -/
def planMissingWrong : ChangeSpec := { name := "planMissing", fn := fun _ => fun
  | [d1, d2, d3] => { results := [.lit (.bool false)], args := [d1, d2, d3] }
  | _ => none }
def PlanMissingWrongFalsely : Prop := planMissingRow.holds Try.pinned (OpenSpec.ofChange planMissingWrong)

/-- 'revetmentlaw16.PrefixHows': WHATEVER THE INPUT: true; the input reads as it did. -/
def prefixHowsSpec : ChangeSpec := { name := "prefixHows", fn := fun _ => fun
  | [d1, d2, d3, d4] => { results := [.lit (.bool true)], args := [d1, d2, d3, d4] }
  | _ => none }
def prefixHowsRow : OpenClaim := { program := "ytekihhbihnmakaa", sum := "4dfd6188147902b1e75932b9d505f7662fe24fa212c443ef5faa581fd7269d39", func := "revetment/revetmentlaw16.PrefixHows", spec := "prefixHows", unfollowed := true, recurses := true, apart := false }
def PrefixHowsSaid : Prop := prefixHowsRow.holds Try.pinned (OpenSpec.ofChange prefixHowsSpec)

/-- ITS FALSE NEIGHBOUR: 'it returns false'. Refute it at one input. -/
def prefixHowsWrong : ChangeSpec := { name := "prefixHows", fn := fun _ => fun
  | [d1, d2, d3, d4] => { results := [.lit (.bool false)], args := [d1, d2, d3, d4] }
  | _ => none }
def PrefixHowsWrongFalsely : Prop := prefixHowsRow.holds Try.pinned (OpenSpec.ofChange prefixHowsWrong)

/-- 'revetmentlaw16.PrefixEnough': WHATEVER THE INPUT: true; the input reads as it did. -/
def prefixEnoughSpec : ChangeSpec := { name := "prefixEnough", fn := fun _ => fun
  | [d1, d2, d3] => { results := [.lit (.bool true)], args := [d1, d2, d3] }
  | _ => none }
def prefixEnoughRow : OpenClaim := { program := "ytekihhbihnmakaa", sum := "4dfd6188147902b1e75932b9d505f7662fe24fa212c443ef5faa581fd7269d39", func := "revetment/revetmentlaw16.PrefixEnough", spec := "prefixEnough", unfollowed := true, recurses := true, apart := false }
def PrefixEnoughSaid : Prop := prefixEnoughRow.holds Try.pinned (OpenSpec.ofChange prefixEnoughSpec)

/-- ITS FALSE NEIGHBOUR: 'it returns false'. Refute it at one input. -/
def prefixEnoughWrong : ChangeSpec := { name := "prefixEnough", fn := fun _ => fun
  | [d1, d2, d3] => { results := [.lit (.bool false)], args := [d1, d2, d3] }
  | _ => none }
def PrefixEnoughWrongFalsely : Prop := prefixEnoughRow.holds Try.pinned (OpenSpec.ofChange prefixEnoughWrong)

/-- 'revetmentlaw44.LoadsEven': WHATEVER THE INPUT: true; the input reads as it did. -/
def loadsEvenSpec : ChangeSpec := { name := "loadsEven", fn := fun _ => fun
  | [d1, d2] => { results := [.lit (.bool true)], args := [d1, d2] }
  | _ => none }
def loadsEvenRow : OpenClaim := { program := "ytekihhbihnmakaa", sum := "4dfd6188147902b1e75932b9d505f7662fe24fa212c443ef5faa581fd7269d39", func := "revetment/revetmentlaw44.LoadsEven", spec := "loadsEven", unfollowed := true, recurses := true, apart := false }
def LoadsEvenSaid : Prop := loadsEvenRow.holds Try.pinned (OpenSpec.ofChange loadsEvenSpec)

/-- ITS FALSE NEIGHBOUR: 'it returns false'. Refute it at one input. -/
def loadsEvenWrong : ChangeSpec := { name := "loadsEven", fn := fun _ => fun
  | [d1, d2] => { results := [.lit (.bool false)], args := [d1, d2] }
  | _ => none }
def LoadsEvenWrongFalsely : Prop := loadsEvenRow.holds Try.pinned (OpenSpec.ofChange loadsEvenWrong)

/-- 'revetmentlaw44.LoadsSums': WHATEVER THE INPUT: true; the input reads as it did. -/
def loadsSumsSpec : ChangeSpec := { name := "loadsSums", fn := fun _ => fun
  | [d1, d2] => { results := [.lit (.bool true)], args := [d1, d2] }
  | _ => none }
def loadsSumsRow : OpenClaim := { program := "ytekihhbihnmakaa", sum := "4dfd6188147902b1e75932b9d505f7662fe24fa212c443ef5faa581fd7269d39", func := "revetment/revetmentlaw44.LoadsSums", spec := "loadsSums", unfollowed := true, recurses := true, apart := false }
def LoadsSumsSaid : Prop := loadsSumsRow.holds Try.pinned (OpenSpec.ofChange loadsSumsSpec)

/-- ITS FALSE NEIGHBOUR: 'it returns false'. Refute it at one input. -/
def loadsSumsWrong : ChangeSpec := { name := "loadsSums", fn := fun _ => fun
  | [d1, d2] => { results := [.lit (.bool false)], args := [d1, d2] }
  | _ => none }
def LoadsSumsWrongFalsely : Prop := loadsSumsRow.holds Try.pinned (OpenSpec.ofChange loadsSumsWrong)

/- THE SECOND FORM. 'bulk': how many values and letters a reading holds, each counted each time it is reached (what is shared counts as often as it is met; a slice's spare places count too). A statement '..UptoSaid' is the law's where the arguments, and the package variables that the reading takes, are together of bulk at most 1048576: NARROWER than '..Said'. Prove '..Said' where nothing that the law and all that it calls make is longer than what came in: it says more and counts as full. Else prove '..UptoSaid'. A law counts once. -/
mutual
def uptoBulk {H : Type} : DataW H → Nat
  | .lit (.string bytes) => bytes.length + 1
  | .lit _ => 1
  | .nil => 1
  | .ptr d => uptoBulk d + 1
  | .slice elems spare => uptoBulkAll elems + uptoBulkAll spare + 1
  | .agg parts => uptoBulkAll parts + 1
  | .iface _ d => uptoBulk d + 1
  | .map entries => uptoBulkEntries entries + 1
  | .held _ => 1
def uptoBulkAll {H : Type} : List (DataW H) → Nat
  | [] => 0
  | d :: r => uptoBulk d + uptoBulkAll r
def uptoBulkEntries {H : Type} : List (Lit × DataW H) → Nat
  | [] => 0
  | x :: r => uptoBulkEntry x + uptoBulkEntries r
def uptoBulkEntry {H : Type} : Lit × DataW H → Nat
  | (.string bytes, d) => bytes.length + uptoBulk d + 1
  | (_, d) => uptoBulk d + 1
 end
def uptoSmall : (H : Type) → List (DataW H) → Bool := fun _ ds => decide (uptoBulkAll ds ≤ 1048576)
def OpenSpec.upto (s : _root_.Go.ChangeSpec) : _root_.Go.OpenSpec := { _root_.Go.OpenSpec.ofChange s with cond := some uptoSmall }

/-- 'revetmentlaw08.GeomOf', WHERE WHAT IT READS IS OF BULK AT MOST 1048576: true; the input reads as it did. -/
def geomOfUptoRow : OpenClaim := { program := "ytekihhbihnmakaa", sum := "4dfd6188147902b1e75932b9d505f7662fe24fa212c443ef5faa581fd7269d39", func := "revetment/revetmentlaw08.GeomOf", spec := "geomOf", unfollowed := true, recurses := true, apart := false, narrowed := true }
def GeomOfUptoSaid : Prop := geomOfUptoRow.holds Try.pinned (OpenSpec.upto geomOfSpec)

/-- 'revetmentlaw08.GeomNeeds', WHERE WHAT IT READS IS OF BULK AT MOST 1048576: true; the input reads as it did. -/
def geomNeedsUptoRow : OpenClaim := { program := "ytekihhbihnmakaa", sum := "4dfd6188147902b1e75932b9d505f7662fe24fa212c443ef5faa581fd7269d39", func := "revetment/revetmentlaw08.GeomNeeds", spec := "geomNeeds", unfollowed := true, recurses := true, apart := false, narrowed := true }
def GeomNeedsUptoSaid : Prop := geomNeedsUptoRow.holds Try.pinned (OpenSpec.upto geomNeedsSpec)

/-- 'revetmentlaw08.GeomApart', WHERE WHAT IT READS IS OF BULK AT MOST 1048576: true; the input reads as it did. -/
def geomApartUptoRow : OpenClaim := { program := "ytekihhbihnmakaa", sum := "4dfd6188147902b1e75932b9d505f7662fe24fa212c443ef5faa581fd7269d39", func := "revetment/revetmentlaw08.GeomApart", spec := "geomApart", unfollowed := true, recurses := true, apart := false, narrowed := true }
def GeomApartUptoSaid : Prop := geomApartUptoRow.holds Try.pinned (OpenSpec.upto geomApartSpec)

/-- 'revetmentlaw41.ExtentStops', WHERE WHAT IT READS IS OF BULK AT MOST 1048576: true; the input reads as it did. -/
def extentStopsUptoRow : OpenClaim := { program := "ytekihhbihnmakaa", sum := "4dfd6188147902b1e75932b9d505f7662fe24fa212c443ef5faa581fd7269d39", func := "revetment/revetmentlaw41.ExtentStops", spec := "extentStops", unfollowed := true, recurses := true, apart := false, narrowed := true }
def ExtentStopsUptoSaid : Prop := extentStopsUptoRow.holds Try.pinned (OpenSpec.upto extentStopsSpec)

/-- 'revetmentlaw09.PlanParts', WHERE WHAT IT READS IS OF BULK AT MOST 1048576: true; the input reads as it did. -/
def planPartsUptoRow : OpenClaim := { program := "ytekihhbihnmakaa", sum := "4dfd6188147902b1e75932b9d505f7662fe24fa212c443ef5faa581fd7269d39", func := "revetment/revetmentlaw09.PlanParts", spec := "planParts", unfollowed := true, recurses := true, apart := false, narrowed := true }
def PlanPartsUptoSaid : Prop := planPartsUptoRow.holds Try.pinned (OpenSpec.upto planPartsSpec)

/-- 'revetmentlaw09.PlanSteps', WHERE WHAT IT READS IS OF BULK AT MOST 1048576: true; the input reads as it did. -/
def planStepsUptoRow : OpenClaim := { program := "ytekihhbihnmakaa", sum := "4dfd6188147902b1e75932b9d505f7662fe24fa212c443ef5faa581fd7269d39", func := "revetment/revetmentlaw09.PlanSteps", spec := "planSteps", unfollowed := true, recurses := true, apart := false, narrowed := true }
def PlanStepsUptoSaid : Prop := planStepsUptoRow.holds Try.pinned (OpenSpec.upto planStepsSpec)

/-- 'revetmentlaw09.PlanPeers', WHERE WHAT IT READS IS OF BULK AT MOST 1048576: true; the input reads as it did. -/
def planPeersUptoRow : OpenClaim := { program := "ytekihhbihnmakaa", sum := "4dfd6188147902b1e75932b9d505f7662fe24fa212c443ef5faa581fd7269d39", func := "revetment/revetmentlaw09.PlanPeers", spec := "planPeers", unfollowed := true, recurses := true, apart := false, narrowed := true }
def PlanPeersUptoSaid : Prop := planPeersUptoRow.holds Try.pinned (OpenSpec.upto planPeersSpec)

/-- 'revetmentlaw16.PrefixOfs', WHERE WHAT IT READS IS OF BULK AT MOST 1048576: true; the input reads as it did. -/
def prefixOfsUptoRow : OpenClaim := { program := "ytekihhbihnmakaa", sum := "4dfd6188147902b1e75932b9d505f7662fe24fa212c443ef5faa581fd7269d39", func := "revetment/revetmentlaw16.PrefixOfs", spec := "prefixOfs", unfollowed := true, recurses := true, apart := false, narrowed := true }
def PrefixOfsUptoSaid : Prop := prefixOfsUptoRow.holds Try.pinned (OpenSpec.upto prefixOfsSpec)

/-- 'revetmentlaw16.PrefixGrows', WHERE WHAT IT READS IS OF BULK AT MOST 1048576: true; the input reads as it did. -/
def prefixGrowsUptoRow : OpenClaim := { program := "ytekihhbihnmakaa", sum := "4dfd6188147902b1e75932b9d505f7662fe24fa212c443ef5faa581fd7269d39", func := "revetment/revetmentlaw16.PrefixGrows", spec := "prefixGrows", unfollowed := true, recurses := true, apart := false, narrowed := true }
def PrefixGrowsUptoSaid : Prop := prefixGrowsUptoRow.holds Try.pinned (OpenSpec.upto prefixGrowsSpec)

/-- 'revetmentlaw09.PlanMissing', WHERE WHAT IT READS IS OF BULK AT MOST 1048576: true; the input reads as it did. -/
def planMissingUptoRow : OpenClaim := { program := "ytekihhbihnmakaa", sum := "4dfd6188147902b1e75932b9d505f7662fe24fa212c443ef5faa581fd7269d39", func := "revetment/revetmentlaw09.PlanMissing", spec := "planMissing", unfollowed := true, recurses := true, apart := false, narrowed := true }
def PlanMissingUptoSaid : Prop := planMissingUptoRow.holds Try.pinned (OpenSpec.upto planMissingSpec)

/-- 'revetmentlaw16.PrefixHows', WHERE WHAT IT READS IS OF BULK AT MOST 1048576: true; the input reads as it did. -/
def prefixHowsUptoRow : OpenClaim := { program := "ytekihhbihnmakaa", sum := "4dfd6188147902b1e75932b9d505f7662fe24fa212c443ef5faa581fd7269d39", func := "revetment/revetmentlaw16.PrefixHows", spec := "prefixHows", unfollowed := true, recurses := true, apart := false, narrowed := true }
def PrefixHowsUptoSaid : Prop := prefixHowsUptoRow.holds Try.pinned (OpenSpec.upto prefixHowsSpec)

/-- 'revetmentlaw16.PrefixEnough', WHERE WHAT IT READS IS OF BULK AT MOST 1048576: true; the input reads as it did. -/
def prefixEnoughUptoRow : OpenClaim := { program := "ytekihhbihnmakaa", sum := "4dfd6188147902b1e75932b9d505f7662fe24fa212c443ef5faa581fd7269d39", func := "revetment/revetmentlaw16.PrefixEnough", spec := "prefixEnough", unfollowed := true, recurses := true, apart := false, narrowed := true }
def PrefixEnoughUptoSaid : Prop := prefixEnoughUptoRow.holds Try.pinned (OpenSpec.upto prefixEnoughSpec)

/-- 'revetmentlaw44.LoadsEven', WHERE WHAT IT READS IS OF BULK AT MOST 1048576: true; the input reads as it did. -/
def loadsEvenUptoRow : OpenClaim := { program := "ytekihhbihnmakaa", sum := "4dfd6188147902b1e75932b9d505f7662fe24fa212c443ef5faa581fd7269d39", func := "revetment/revetmentlaw44.LoadsEven", spec := "loadsEven", unfollowed := true, recurses := true, apart := false, narrowed := true }
def LoadsEvenUptoSaid : Prop := loadsEvenUptoRow.holds Try.pinned (OpenSpec.upto loadsEvenSpec)

/-- 'revetmentlaw44.LoadsSums', WHERE WHAT IT READS IS OF BULK AT MOST 1048576: true; the input reads as it did. -/
def loadsSumsUptoRow : OpenClaim := { program := "ytekihhbihnmakaa", sum := "4dfd6188147902b1e75932b9d505f7662fe24fa212c443ef5faa581fd7269d39", func := "revetment/revetmentlaw44.LoadsSums", spec := "loadsSums", unfollowed := true, recurses := true, apart := false, narrowed := true }
def LoadsSumsUptoSaid : Prop := loadsSumsUptoRow.holds Try.pinned (OpenSpec.upto loadsSumsSpec)

end Rows
end Go.Proofs.Ytekihhbihnmakaa
