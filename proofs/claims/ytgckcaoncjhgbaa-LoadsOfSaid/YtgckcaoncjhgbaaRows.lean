/-
  No cell of these rows narrows 'for every input' (looked for: loops, veiled, ifaces, maps, wideKeys, modest, calm, conditions, laid).
  DERIVED. THE GIVEN ROWS OF THIS SEAT. 8 by the template 'for every input the law returns true; each argument reads behind the call as it read before'; 0 by the template 'total and deterministic' (their statements: YtgckcaoncjhgbaaTotals.lean).
  GIVEN WITH THE SEED: the statements are not yours to turn. If you find one false, say at which input.
  Laid BY PROGRAM, IN A SANDBOX (cutbox-rows.mjs): the forced cells as the released guide's own fill.sh prints them over the translation e7676bc98db8b891… (all of the seat's roots in one cut). By AI agents, Wed Nov 11 2026. No macro, syntax, notation, axiom, sorry.
-/
import Derived.Test.YtgckcaoncjhgbaaChecked
import GoSem.Claim
import GoSem.ClaimJoined
import GoSem.ClaimMapViews
import Derived.JoinedTies
import Derived.KernelRfl
namespace Go.Proofs.Ytgckcaoncjhgbaa
/- THE CELL 'sum', in the pinned program and in every row, IS THE sha256 OF THE DUMP (.gsa) THAT YtgckcaoncjhgbaaProg.lean LOADS. Nothing in Lean hashes anything: it is a label: what it is worth is what the hold of that sum in a sandbox is worth. -/
noncomputable def Try.pinned : Pinned := { name := "ytgckcaoncjhgbaa", sum := "e7676bc98db8b8911d61e3f8f266fea3f7546c77c4756c188d78a66c717a1b8c", checked := Try.checked }
namespace Rows
def none {H : Type} : Left H := { results := [], args := [] }

/-- 'revetmentlaw17.LzonePlays': WHATEVER THE INPUT: true; the input reads as it did. -/
def lzonePlaysSpec : ChangeSpec := { name := "lzonePlays", fn := fun _ => fun
  | [d1, d2] => { results := [.lit (.bool true)], args := [d1, d2] }
  | _ => none }
def lzonePlaysRow : OpenClaim := { program := "ytgckcaoncjhgbaa", sum := "e7676bc98db8b8911d61e3f8f266fea3f7546c77c4756c188d78a66c717a1b8c", func := "revetment/revetmentlaw17.LzonePlays", spec := "lzonePlays", unfollowed := true, recurses := true, apart := false }
def LzonePlaysSaid : Prop := lzonePlaysRow.holds Try.pinned (OpenSpec.ofChange lzonePlaysSpec)

/-- ITS FALSE NEIGHBOUR: 'it returns false'. Refute it at one input. -/
def lzonePlaysWrong : ChangeSpec := { name := "lzonePlays", fn := fun _ => fun
  | [d1, d2] => { results := [.lit (.bool false)], args := [d1, d2] }
  | _ => none }
def LzonePlaysWrongFalsely : Prop := lzonePlaysRow.holds Try.pinned (OpenSpec.ofChange lzonePlaysWrong)

/-- 'revetmentlaw18.ModelReads': WHATEVER THE INPUT: true; the input reads as it did. -/
def modelReadsSpec : ChangeSpec := { name := "modelReads", fn := fun _ => fun
  | [d1, d2, d3, d4] => { results := [.lit (.bool true)], args := [d1, d2, d3, d4] }
  | _ => none }
def modelReadsRow : OpenClaim := { program := "ytgckcaoncjhgbaa", sum := "e7676bc98db8b8911d61e3f8f266fea3f7546c77c4756c188d78a66c717a1b8c", func := "revetment/revetmentlaw18.ModelReads", spec := "modelReads", unfollowed := true, recurses := true, apart := false }
def ModelReadsSaid : Prop := modelReadsRow.holds Try.pinned (OpenSpec.ofChange modelReadsSpec)

/-- ITS FALSE NEIGHBOUR: 'it returns false'. Refute it at one input. -/
def modelReadsWrong : ChangeSpec := { name := "modelReads", fn := fun _ => fun
  | [d1, d2, d3, d4] => { results := [.lit (.bool false)], args := [d1, d2, d3, d4] }
  | _ => none }
def ModelReadsWrongFalsely : Prop := modelReadsRow.holds Try.pinned (OpenSpec.ofChange modelReadsWrong)

/-- 'revetmentlaw18.ModelPlays': WHATEVER THE INPUT: true; the input reads as it did. -/
def modelPlaysSpec : ChangeSpec := { name := "modelPlays", fn := fun _ => fun
  | [d1, d2] => { results := [.lit (.bool true)], args := [d1, d2] }
  | _ => none }
def modelPlaysRow : OpenClaim := { program := "ytgckcaoncjhgbaa", sum := "e7676bc98db8b8911d61e3f8f266fea3f7546c77c4756c188d78a66c717a1b8c", func := "revetment/revetmentlaw18.ModelPlays", spec := "modelPlays", unfollowed := true, recurses := true, apart := false }
def ModelPlaysSaid : Prop := modelPlaysRow.holds Try.pinned (OpenSpec.ofChange modelPlaysSpec)

/-- ITS FALSE NEIGHBOUR: 'it returns false'. Refute it at one input. -/
def modelPlaysWrong : ChangeSpec := { name := "modelPlays", fn := fun _ => fun
  | [d1, d2] => { results := [.lit (.bool false)], args := [d1, d2] }
  | _ => none }
def ModelPlaysWrongFalsely : Prop := modelPlaysRow.holds Try.pinned (OpenSpec.ofChange modelPlaysWrong)

/-- 'revetmentlaw18.ModelAdopts': WHATEVER THE INPUT: true; the input reads as it did. -/
def modelAdoptsSpec : ChangeSpec := { name := "modelAdopts", fn := fun _ => fun
  | [d1, d2, d3, d4, d5] => { results := [.lit (.bool true)], args := [d1, d2, d3, d4, d5] }
  | _ => none }
def modelAdoptsRow : OpenClaim := { program := "ytgckcaoncjhgbaa", sum := "e7676bc98db8b8911d61e3f8f266fea3f7546c77c4756c188d78a66c717a1b8c", func := "revetment/revetmentlaw18.ModelAdopts", spec := "modelAdopts", unfollowed := true, recurses := true, apart := false }
def ModelAdoptsSaid : Prop := modelAdoptsRow.holds Try.pinned (OpenSpec.ofChange modelAdoptsSpec)

/-- ITS FALSE NEIGHBOUR: 'it returns false'. Refute it at one input. -/
def modelAdoptsWrong : ChangeSpec := { name := "modelAdopts", fn := fun _ => fun
  | [d1, d2, d3, d4, d5] => { results := [.lit (.bool false)], args := [d1, d2, d3, d4, d5] }
  | _ => none }
def ModelAdoptsWrongFalsely : Prop := modelAdoptsRow.holds Try.pinned (OpenSpec.ofChange modelAdoptsWrong)

/-- 'revetmentlaw29.JudgeZones': WHATEVER THE INPUT: true; the input reads as it did. -/
def judgeZonesSpec : ChangeSpec := { name := "judgeZones", fn := fun _ => fun
  | [d1, d2, d3, d4, d5, d6, d7] => { results := [.lit (.bool true)], args := [d1, d2, d3, d4, d5, d6, d7] }
  | _ => none }
def judgeZonesRow : OpenClaim := { program := "ytgckcaoncjhgbaa", sum := "e7676bc98db8b8911d61e3f8f266fea3f7546c77c4756c188d78a66c717a1b8c", func := "revetment/revetmentlaw29.JudgeZones", spec := "judgeZones", unfollowed := true, recurses := true, apart := false }
def JudgeZonesSaid : Prop := judgeZonesRow.holds Try.pinned (OpenSpec.ofChange judgeZonesSpec)

/-- ITS FALSE NEIGHBOUR: 'it returns false'. Refute it at one input. -/
def judgeZonesWrong : ChangeSpec := { name := "judgeZones", fn := fun _ => fun
  | [d1, d2, d3, d4, d5, d6, d7] => { results := [.lit (.bool false)], args := [d1, d2, d3, d4, d5, d6, d7] }
  | _ => none }
def JudgeZonesWrongFalsely : Prop := judgeZonesRow.holds Try.pinned (OpenSpec.ofChange judgeZonesWrong)

/-- 'revetmentlaw29.JudgeRests': WHATEVER THE INPUT: true; the input reads as it did. -/
def judgeRestsSpec : ChangeSpec := { name := "judgeRests", fn := fun _ => fun
  | [d1, d2, d3, d4, d5] => { results := [.lit (.bool true)], args := [d1, d2, d3, d4, d5] }
  | _ => none }
def judgeRestsRow : OpenClaim := { program := "ytgckcaoncjhgbaa", sum := "e7676bc98db8b8911d61e3f8f266fea3f7546c77c4756c188d78a66c717a1b8c", func := "revetment/revetmentlaw29.JudgeRests", spec := "judgeRests", unfollowed := true, recurses := true, apart := false }
def JudgeRestsSaid : Prop := judgeRestsRow.holds Try.pinned (OpenSpec.ofChange judgeRestsSpec)

/-- ITS FALSE NEIGHBOUR: 'it returns false'. Refute it at one input. -/
def judgeRestsWrong : ChangeSpec := { name := "judgeRests", fn := fun _ => fun
  | [d1, d2, d3, d4, d5] => { results := [.lit (.bool false)], args := [d1, d2, d3, d4, d5] }
  | _ => none }
def JudgeRestsWrongFalsely : Prop := judgeRestsRow.holds Try.pinned (OpenSpec.ofChange judgeRestsWrong)

/-- 'revetmentlaw29.JudgeReplies': WHATEVER THE INPUT: true; the input reads as it did. -/
def judgeRepliesSpec : ChangeSpec := { name := "judgeReplies", fn := fun _ => fun
  | [d1, d2, d3, d4, d5] => { results := [.lit (.bool true)], args := [d1, d2, d3, d4, d5] }
  | _ => none }
def judgeRepliesRow : OpenClaim := { program := "ytgckcaoncjhgbaa", sum := "e7676bc98db8b8911d61e3f8f266fea3f7546c77c4756c188d78a66c717a1b8c", func := "revetment/revetmentlaw29.JudgeReplies", spec := "judgeReplies", unfollowed := true, recurses := true, apart := false }
def JudgeRepliesSaid : Prop := judgeRepliesRow.holds Try.pinned (OpenSpec.ofChange judgeRepliesSpec)

/-- ITS FALSE NEIGHBOUR: 'it returns false'. Refute it at one input. -/
def judgeRepliesWrong : ChangeSpec := { name := "judgeReplies", fn := fun _ => fun
  | [d1, d2, d3, d4, d5] => { results := [.lit (.bool false)], args := [d1, d2, d3, d4, d5] }
  | _ => none }
def JudgeRepliesWrongFalsely : Prop := judgeRepliesRow.holds Try.pinned (OpenSpec.ofChange judgeRepliesWrong)

/-- 'revetmentlaw44.LoadsOf': WHATEVER THE INPUT: true; the input reads as it did. -/
def loadsOfSpec : ChangeSpec := { name := "loadsOf", fn := fun _ => fun
  | [d1, d2, d3, d4] => { results := [.lit (.bool true)], args := [d1, d2, d3, d4] }
  | _ => none }
def loadsOfRow : OpenClaim := { program := "ytgckcaoncjhgbaa", sum := "e7676bc98db8b8911d61e3f8f266fea3f7546c77c4756c188d78a66c717a1b8c", func := "revetment/revetmentlaw44.LoadsOf", spec := "loadsOf", unfollowed := true, recurses := true, apart := false }
def LoadsOfSaid : Prop := loadsOfRow.holds Try.pinned (OpenSpec.ofChange loadsOfSpec)

/-- ITS FALSE NEIGHBOUR: 'it returns false'. Refute it at one input. -/
def loadsOfWrong : ChangeSpec := { name := "loadsOf", fn := fun _ => fun
  | [d1, d2, d3, d4] => { results := [.lit (.bool false)], args := [d1, d2, d3, d4] }
  | _ => none }
def LoadsOfWrongFalsely : Prop := loadsOfRow.holds Try.pinned (OpenSpec.ofChange loadsOfWrong)

/- THE SECOND FORM. 'bulk': how many values and letters a reading holds, each counted each time it is reached (what is shared counts as often as it is met; a slice's spare places count too). A statement '..UptoSaid' is the law's where the arguments, and the package variables that the reading takes, are together of bulk at most 1048576: NARROWER than '..Said'. Prove '..Said' where nothing that the law and all that it calls make is longer than what came in: it says more and counts as full. Else prove '..UptoSaid'. A law counts once. -/
mutual
def uptoBulk {H : Type} : DataW H → Nat
  | .lit (.string bytes) => bytes.length + 1
  | .lit _ => 1
  | .nil => 1
  | .ptr d => uptoBulk d + 1
  | .slice elems spare => uptoBulkAll elems + uptoBulkAll spare + 1
  | .agg parts => uptoBulkAll parts + 1
  | .iface _ d => uptoBulk d + 1
  | .map entries => uptoBulkEntries entries + 1
  | .held _ => 1
def uptoBulkAll {H : Type} : List (DataW H) → Nat
  | [] => 0
  | d :: r => uptoBulk d + uptoBulkAll r
def uptoBulkEntries {H : Type} : List (Lit × DataW H) → Nat
  | [] => 0
  | x :: r => uptoBulkEntry x + uptoBulkEntries r
def uptoBulkEntry {H : Type} : Lit × DataW H → Nat
  | (.string bytes, d) => bytes.length + uptoBulk d + 1
  | (_, d) => uptoBulk d + 1
 end
def uptoSmall : (H : Type) → List (DataW H) → Bool := fun _ ds => decide (uptoBulkAll ds ≤ 1048576)
def OpenSpec.upto (s : _root_.Go.ChangeSpec) : _root_.Go.OpenSpec := { _root_.Go.OpenSpec.ofChange s with cond := some uptoSmall }

/-- 'revetmentlaw17.LzonePlays', WHERE WHAT IT READS IS OF BULK AT MOST 1048576: true; the input reads as it did. -/
def lzonePlaysUptoRow : OpenClaim := { program := "ytgckcaoncjhgbaa", sum := "e7676bc98db8b8911d61e3f8f266fea3f7546c77c4756c188d78a66c717a1b8c", func := "revetment/revetmentlaw17.LzonePlays", spec := "lzonePlays", unfollowed := true, recurses := true, apart := false, narrowed := true }
def LzonePlaysUptoSaid : Prop := lzonePlaysUptoRow.holds Try.pinned (OpenSpec.upto lzonePlaysSpec)

/-- 'revetmentlaw18.ModelReads', WHERE WHAT IT READS IS OF BULK AT MOST 1048576: true; the input reads as it did. -/
def modelReadsUptoRow : OpenClaim := { program := "ytgckcaoncjhgbaa", sum := "e7676bc98db8b8911d61e3f8f266fea3f7546c77c4756c188d78a66c717a1b8c", func := "revetment/revetmentlaw18.ModelReads", spec := "modelReads", unfollowed := true, recurses := true, apart := false, narrowed := true }
def ModelReadsUptoSaid : Prop := modelReadsUptoRow.holds Try.pinned (OpenSpec.upto modelReadsSpec)

/-- 'revetmentlaw18.ModelPlays', WHERE WHAT IT READS IS OF BULK AT MOST 1048576: true; the input reads as it did. -/
def modelPlaysUptoRow : OpenClaim := { program := "ytgckcaoncjhgbaa", sum := "e7676bc98db8b8911d61e3f8f266fea3f7546c77c4756c188d78a66c717a1b8c", func := "revetment/revetmentlaw18.ModelPlays", spec := "modelPlays", unfollowed := true, recurses := true, apart := false, narrowed := true }
def ModelPlaysUptoSaid : Prop := modelPlaysUptoRow.holds Try.pinned (OpenSpec.upto modelPlaysSpec)

/-- 'revetmentlaw18.ModelAdopts', WHERE WHAT IT READS IS OF BULK AT MOST 1048576: true; the input reads as it did. -/
def modelAdoptsUptoRow : OpenClaim := { program := "ytgckcaoncjhgbaa", sum := "e7676bc98db8b8911d61e3f8f266fea3f7546c77c4756c188d78a66c717a1b8c", func := "revetment/revetmentlaw18.ModelAdopts", spec := "modelAdopts", unfollowed := true, recurses := true, apart := false, narrowed := true }
def ModelAdoptsUptoSaid : Prop := modelAdoptsUptoRow.holds Try.pinned (OpenSpec.upto modelAdoptsSpec)

/-- 'revetmentlaw29.JudgeZones', WHERE WHAT IT READS IS OF BULK AT MOST 1048576: true; the input reads as it did. -/
def judgeZonesUptoRow : OpenClaim := { program := "ytgckcaoncjhgbaa", sum := "e7676bc98db8b8911d61e3f8f266fea3f7546c77c4756c188d78a66c717a1b8c", func := "revetment/revetmentlaw29.JudgeZones", spec := "judgeZones", unfollowed := true, recurses := true, apart := false, narrowed := true }
def JudgeZonesUptoSaid : Prop := judgeZonesUptoRow.holds Try.pinned (OpenSpec.upto judgeZonesSpec)

/-- 'revetmentlaw29.JudgeRests', WHERE WHAT IT READS IS OF BULK AT MOST 1048576: true; the input reads as it did. -/
def judgeRestsUptoRow : OpenClaim := { program := "ytgckcaoncjhgbaa", sum := "e7676bc98db8b8911d61e3f8f266fea3f7546c77c4756c188d78a66c717a1b8c", func := "revetment/revetmentlaw29.JudgeRests", spec := "judgeRests", unfollowed := true, recurses := true, apart := false, narrowed := true }
def JudgeRestsUptoSaid : Prop := judgeRestsUptoRow.holds Try.pinned (OpenSpec.upto judgeRestsSpec)

/-- 'revetmentlaw29.JudgeReplies', WHERE WHAT IT READS IS OF BULK AT MOST 1048576: true; the input reads as it did. -/
def judgeRepliesUptoRow : OpenClaim := { program := "ytgckcaoncjhgbaa", sum := "e7676bc98db8b8911d61e3f8f266fea3f7546c77c4756c188d78a66c717a1b8c", func := "revetment/revetmentlaw29.JudgeReplies", spec := "judgeReplies", unfollowed := true, recurses := true, apart := false, narrowed := true }
def JudgeRepliesUptoSaid : Prop := judgeRepliesUptoRow.holds Try.pinned (OpenSpec.upto judgeRepliesSpec)

/-- 'revetmentlaw44.LoadsOf', WHERE WHAT IT READS IS OF BULK AT MOST 1048576: true; the input reads as it did. -/
def loadsOfUptoRow : OpenClaim := { program := "ytgckcaoncjhgbaa", sum := "e7676bc98db8b8911d61e3f8f266fea3f7546c77c4756c188d78a66c717a1b8c", func := "revetment/revetmentlaw44.LoadsOf", spec := "loadsOf", unfollowed := true, recurses := true, apart := false, narrowed := true }
def LoadsOfUptoSaid : Prop := loadsOfUptoRow.holds Try.pinned (OpenSpec.upto loadsOfSpec)

end Rows
end Go.Proofs.Ytgckcaoncjhgbaa
