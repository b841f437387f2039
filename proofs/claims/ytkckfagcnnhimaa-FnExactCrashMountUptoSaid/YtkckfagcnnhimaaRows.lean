/-
  No cell of these rows narrows 'for every input' (looked for: loops, veiled, ifaces, maps, wideKeys, modest, calm, conditions, laid).
  DERIVED. THE GIVEN ROWS OF THIS SEAT. 11 by the template 'for every input the law returns true; each argument reads behind the call as it read before'; 0 by the template 'total and deterministic' (their statements: YtkckfagcnnhimaaTotals.lean).
  GIVEN WITH THE SEED: the statements are not yours to turn. If you find one false, say at which input.
  Laid BY PROGRAM, IN A SANDBOX (cutbox-rows.mjs): the forced cells as the released guide's own fill.sh prints them over the translation 69d33a455989bedf… (all of the seat's roots in one cut). By AI agents, Wed Nov 11 2026. No macro, syntax, notation, axiom, sorry.
-/
import Derived.Test.YtkckfagcnnhimaaChecked
import GoSem.Claim
import GoSem.ClaimJoined
import GoSem.ClaimMapViews
import Derived.JoinedTies
import Derived.KernelRfl
namespace Go.Proofs.Ytkckfagcnnhimaa
/- THE CELL 'sum', in the pinned program and in every row, IS THE sha256 OF THE DUMP (.gsa) THAT YtkckfagcnnhimaaProg.lean LOADS. Nothing in Lean hashes anything: it is a label: what it is worth is what the hold of that sum in a sandbox is worth. -/
noncomputable def Try.pinned : Pinned := { name := "ytkckfagcnnhimaa", sum := "69d33a455989bedf7b3687481701bb69f3fe82e54d1034f71bced0c32499d192", checked := Try.checked }
namespace Rows
def none {H : Type} : Left H := { results := [], args := [] }

/-- 'laws.FnExactCallFault': WHATEVER THE INPUT: true; the input reads as it did. -/
def fnExactCallFaultSpec : ChangeSpec := { name := "fnExactCallFault", fn := fun _ => fun
  | [d] => { results := [.lit (.bool true)], args := [d] }
  | _ => none }
def fnExactCallFaultRow : OpenClaim := { program := "ytkckfagcnnhimaa", sum := "69d33a455989bedf7b3687481701bb69f3fe82e54d1034f71bced0c32499d192", func := "loop.example/g00295/laws.FnExactCallFault", spec := "fnExactCallFault", apart := false }
def FnExactCallFaultSaid : Prop := fnExactCallFaultRow.holds Try.pinned (OpenSpec.ofChange fnExactCallFaultSpec)

/-- ITS FALSE NEIGHBOUR: 'it returns false'. Refute it at one input. -/
def fnExactCallFaultWrong : ChangeSpec := { name := "fnExactCallFault", fn := fun _ => fun
  | [d] => { results := [.lit (.bool false)], args := [d] }
  | _ => none }
def FnExactCallFaultWrongFalsely : Prop := fnExactCallFaultRow.holds Try.pinned (OpenSpec.ofChange fnExactCallFaultWrong)

/-- 'laws.FnExactStepFault': WHATEVER THE INPUT: true; the input reads as it did. -/
def fnExactStepFaultSpec : ChangeSpec := { name := "fnExactStepFault", fn := fun _ => fun
  | [d] => { results := [.lit (.bool true)], args := [d] }
  | _ => none }
def fnExactStepFaultRow : OpenClaim := { program := "ytkckfagcnnhimaa", sum := "69d33a455989bedf7b3687481701bb69f3fe82e54d1034f71bced0c32499d192", func := "loop.example/g00295/laws.FnExactStepFault", spec := "fnExactStepFault", unfollowed := true, recurses := true, apart := false }
def FnExactStepFaultSaid : Prop := fnExactStepFaultRow.holds Try.pinned (OpenSpec.ofChange fnExactStepFaultSpec)

/-- ITS FALSE NEIGHBOUR: 'it returns false'. Refute it at one input. -/
def fnExactStepFaultWrong : ChangeSpec := { name := "fnExactStepFault", fn := fun _ => fun
  | [d] => { results := [.lit (.bool false)], args := [d] }
  | _ => none }
def FnExactStepFaultWrongFalsely : Prop := fnExactStepFaultRow.holds Try.pinned (OpenSpec.ofChange fnExactStepFaultWrong)

/-- 'laws.FnExactFormatDisk': WHATEVER THE INPUT: true; the input reads as it did. -/
def fnExactFormatDiskSpec : ChangeSpec := { name := "fnExactFormatDisk", fn := fun _ => fun
  | [d] => { results := [.lit (.bool true)], args := [d] }
  | _ => none }
def fnExactFormatDiskRow : OpenClaim := { program := "ytkckfagcnnhimaa", sum := "69d33a455989bedf7b3687481701bb69f3fe82e54d1034f71bced0c32499d192", func := "loop.example/g00295/laws.FnExactFormatDisk", spec := "fnExactFormatDisk", apart := false }
def FnExactFormatDiskSaid : Prop := fnExactFormatDiskRow.holds Try.pinned (OpenSpec.ofChange fnExactFormatDiskSpec)

/-- ITS FALSE NEIGHBOUR: 'it returns false'. Refute it at one input. -/
def fnExactFormatDiskWrong : ChangeSpec := { name := "fnExactFormatDisk", fn := fun _ => fun
  | [d] => { results := [.lit (.bool false)], args := [d] }
  | _ => none }
def FnExactFormatDiskWrongFalsely : Prop := fnExactFormatDiskRow.holds Try.pinned (OpenSpec.ofChange fnExactFormatDiskWrong)

/-- 'laws.FnExactCommitAt': WHATEVER THE INPUT: true; the input reads as it did. -/
def fnExactCommitAtSpec : ChangeSpec := { name := "fnExactCommitAt", fn := fun _ => fun
  | [d] => { results := [.lit (.bool true)], args := [d] }
  | _ => none }
def fnExactCommitAtRow : OpenClaim := { program := "ytkckfagcnnhimaa", sum := "69d33a455989bedf7b3687481701bb69f3fe82e54d1034f71bced0c32499d192", func := "loop.example/g00295/laws.FnExactCommitAt", spec := "fnExactCommitAt", unfollowed := true, recurses := true, apart := false }
def FnExactCommitAtSaid : Prop := fnExactCommitAtRow.holds Try.pinned (OpenSpec.ofChange fnExactCommitAtSpec)

/-- ITS FALSE NEIGHBOUR: 'it returns false'. Refute it at one input. -/
def fnExactCommitAtWrong : ChangeSpec := { name := "fnExactCommitAt", fn := fun _ => fun
  | [d] => { results := [.lit (.bool false)], args := [d] }
  | _ => none }
def FnExactCommitAtWrongFalsely : Prop := fnExactCommitAtRow.holds Try.pinned (OpenSpec.ofChange fnExactCommitAtWrong)

/-- 'laws.FnExactSeqOf': WHATEVER THE INPUT: true; the input reads as it did. -/
def fnExactSeqOfSpec : ChangeSpec := { name := "fnExactSeqOf", fn := fun _ => fun
  | [d] => { results := [.lit (.bool true)], args := [d] }
  | _ => none }
def fnExactSeqOfRow : OpenClaim := { program := "ytkckfagcnnhimaa", sum := "69d33a455989bedf7b3687481701bb69f3fe82e54d1034f71bced0c32499d192", func := "loop.example/g00295/laws.FnExactSeqOf", spec := "fnExactSeqOf", unfollowed := true, recurses := true, apart := false }
def FnExactSeqOfSaid : Prop := fnExactSeqOfRow.holds Try.pinned (OpenSpec.ofChange fnExactSeqOfSpec)

/-- ITS FALSE NEIGHBOUR: 'it returns false'. Refute it at one input. -/
def fnExactSeqOfWrong : ChangeSpec := { name := "fnExactSeqOf", fn := fun _ => fun
  | [d] => { results := [.lit (.bool false)], args := [d] }
  | _ => none }
def FnExactSeqOfWrongFalsely : Prop := fnExactSeqOfRow.holds Try.pinned (OpenSpec.ofChange fnExactSeqOfWrong)

/-- 'laws.FnExactChangedPuts': WHATEVER THE INPUT: true; the input reads as it did. -/
def fnExactChangedPutsSpec : ChangeSpec := { name := "fnExactChangedPuts", fn := fun _ => fun
  | [d1, d2] => { results := [.lit (.bool true)], args := [d1, d2] }
  | _ => none }
def fnExactChangedPutsRow : OpenClaim := { program := "ytkckfagcnnhimaa", sum := "69d33a455989bedf7b3687481701bb69f3fe82e54d1034f71bced0c32499d192", func := "loop.example/g00295/laws.FnExactChangedPuts", spec := "fnExactChangedPuts", unfollowed := true, recurses := true, apart := false }
def FnExactChangedPutsSaid : Prop := fnExactChangedPutsRow.holds Try.pinned (OpenSpec.ofChange fnExactChangedPutsSpec)

/-- ITS FALSE NEIGHBOUR: 'it returns false'. Refute it at one input. -/
def fnExactChangedPutsWrong : ChangeSpec := { name := "fnExactChangedPuts", fn := fun _ => fun
  | [d1, d2] => { results := [.lit (.bool false)], args := [d1, d2] }
  | _ => none }
def FnExactChangedPutsWrongFalsely : Prop := fnExactChangedPutsRow.holds Try.pinned (OpenSpec.ofChange fnExactChangedPutsWrong)

/-- 'laws.FnExactScanJournal': WHATEVER THE INPUT: true; the input reads as it did. -/
def fnExactScanJournalSpec : ChangeSpec := { name := "fnExactScanJournal", fn := fun _ => fun
  | [d] => { results := [.lit (.bool true)], args := [d] }
  | _ => none }
def fnExactScanJournalRow : OpenClaim := { program := "ytkckfagcnnhimaa", sum := "69d33a455989bedf7b3687481701bb69f3fe82e54d1034f71bced0c32499d192", func := "loop.example/g00295/laws.FnExactScanJournal", spec := "fnExactScanJournal", unfollowed := true, recurses := true, apart := false }
def FnExactScanJournalSaid : Prop := fnExactScanJournalRow.holds Try.pinned (OpenSpec.ofChange fnExactScanJournalSpec)

/-- ITS FALSE NEIGHBOUR: 'it returns false'. Refute it at one input. -/
def fnExactScanJournalWrong : ChangeSpec := { name := "fnExactScanJournal", fn := fun _ => fun
  | [d] => { results := [.lit (.bool false)], args := [d] }
  | _ => none }
def FnExactScanJournalWrongFalsely : Prop := fnExactScanJournalRow.holds Try.pinned (OpenSpec.ofChange fnExactScanJournalWrong)

/-- 'laws.FnExactPlanMount': WHATEVER THE INPUT: true; the input reads as it did. -/
def fnExactPlanMountSpec : ChangeSpec := { name := "fnExactPlanMount", fn := fun _ => fun
  | [d] => { results := [.lit (.bool true)], args := [d] }
  | _ => none }
def fnExactPlanMountRow : OpenClaim := { program := "ytkckfagcnnhimaa", sum := "69d33a455989bedf7b3687481701bb69f3fe82e54d1034f71bced0c32499d192", func := "loop.example/g00295/laws.FnExactPlanMount", spec := "fnExactPlanMount", unfollowed := true, recurses := true, apart := false }
def FnExactPlanMountSaid : Prop := fnExactPlanMountRow.holds Try.pinned (OpenSpec.ofChange fnExactPlanMountSpec)

/-- ITS FALSE NEIGHBOUR: 'it returns false'. Refute it at one input. -/
def fnExactPlanMountWrong : ChangeSpec := { name := "fnExactPlanMount", fn := fun _ => fun
  | [d] => { results := [.lit (.bool false)], args := [d] }
  | _ => none }
def FnExactPlanMountWrongFalsely : Prop := fnExactPlanMountRow.holds Try.pinned (OpenSpec.ofChange fnExactPlanMountWrong)

/-- 'laws.FnExactRunSteps': WHATEVER THE INPUT: true; the input reads as it did. -/
def fnExactRunStepsSpec : ChangeSpec := { name := "fnExactRunSteps", fn := fun _ => fun
  | [d1, d2] => { results := [.lit (.bool true)], args := [d1, d2] }
  | _ => none }
def fnExactRunStepsRow : OpenClaim := { program := "ytkckfagcnnhimaa", sum := "69d33a455989bedf7b3687481701bb69f3fe82e54d1034f71bced0c32499d192", func := "loop.example/g00295/laws.FnExactRunSteps", spec := "fnExactRunSteps", unfollowed := true, recurses := true, apart := false }
def FnExactRunStepsSaid : Prop := fnExactRunStepsRow.holds Try.pinned (OpenSpec.ofChange fnExactRunStepsSpec)

/-- ITS FALSE NEIGHBOUR: 'it returns false'. Refute it at one input. -/
def fnExactRunStepsWrong : ChangeSpec := { name := "fnExactRunSteps", fn := fun _ => fun
  | [d1, d2] => { results := [.lit (.bool false)], args := [d1, d2] }
  | _ => none }
def FnExactRunStepsWrongFalsely : Prop := fnExactRunStepsRow.holds Try.pinned (OpenSpec.ofChange fnExactRunStepsWrong)

/-- 'laws.FnExactNewWorld': WHATEVER THE INPUT: true; the input reads as it did. -/
def fnExactNewWorldSpec : ChangeSpec := { name := "fnExactNewWorld", fn := fun _ => fun
  | [d] => { results := [.lit (.bool true)], args := [d] }
  | _ => none }
def fnExactNewWorldRow : OpenClaim := { program := "ytkckfagcnnhimaa", sum := "69d33a455989bedf7b3687481701bb69f3fe82e54d1034f71bced0c32499d192", func := "loop.example/g00295/laws.FnExactNewWorld", spec := "fnExactNewWorld", apart := false }
def FnExactNewWorldSaid : Prop := fnExactNewWorldRow.holds Try.pinned (OpenSpec.ofChange fnExactNewWorldSpec)

/-- ITS FALSE NEIGHBOUR: 'it returns false'. Refute it at one input. -/
def fnExactNewWorldWrong : ChangeSpec := { name := "fnExactNewWorld", fn := fun _ => fun
  | [d] => { results := [.lit (.bool false)], args := [d] }
  | _ => none }
def FnExactNewWorldWrongFalsely : Prop := fnExactNewWorldRow.holds Try.pinned (OpenSpec.ofChange fnExactNewWorldWrong)

/-- 'laws.FnExactCrashMount': WHATEVER THE INPUT: true; the input reads as it did. -/
def fnExactCrashMountSpec : ChangeSpec := { name := "fnExactCrashMount", fn := fun _ => fun
  | [d1, d2, d3] => { results := [.lit (.bool true)], args := [d1, d2, d3] }
  | _ => none }
def fnExactCrashMountRow : OpenClaim := { program := "ytkckfagcnnhimaa", sum := "69d33a455989bedf7b3687481701bb69f3fe82e54d1034f71bced0c32499d192", func := "loop.example/g00295/laws.FnExactCrashMount", spec := "fnExactCrashMount", unfollowed := true, recurses := true, apart := false }
def FnExactCrashMountSaid : Prop := fnExactCrashMountRow.holds Try.pinned (OpenSpec.ofChange fnExactCrashMountSpec)

/-- ITS FALSE NEIGHBOUR: 'it returns false'. Refute it at one input. -/
def fnExactCrashMountWrong : ChangeSpec := { name := "fnExactCrashMount", fn := fun _ => fun
  | [d1, d2, d3] => { results := [.lit (.bool false)], args := [d1, d2, d3] }
  | _ => none }
def FnExactCrashMountWrongFalsely : Prop := fnExactCrashMountRow.holds Try.pinned (OpenSpec.ofChange fnExactCrashMountWrong)

/- THE SECOND FORM. 'bulk': how many values and letters a reading holds, each counted each time it is reached (what is shared counts as often as it is met; a slice's spare places count too). A statement '..UptoSaid' is the law's where the arguments, and the package variables that the reading takes, are together of bulk at most 1048576: NARROWER than '..Said'. Prove '..Said' where nothing that the law and all that it calls make is longer than what came in: it says more and counts as full. Else prove '..UptoSaid'. A law counts once. -/
mutual
def uptoBulk {H : Type} : DataW H → Nat
  | .lit (.string bytes) => bytes.length + 1
  | .lit _ => 1
  | .nil => 1
  | .ptr d => uptoBulk d + 1
  | .slice elems spare => uptoBulkAll elems + uptoBulkAll spare + 1
  | .agg parts => uptoBulkAll parts + 1
  | .iface _ d => uptoBulk d + 1
  | .map entries => uptoBulkEntries entries + 1
  | .held _ => 1
def uptoBulkAll {H : Type} : List (DataW H) → Nat
  | [] => 0
  | d :: r => uptoBulk d + uptoBulkAll r
def uptoBulkEntries {H : Type} : List (Lit × DataW H) → Nat
  | [] => 0
  | x :: r => uptoBulkEntry x + uptoBulkEntries r
def uptoBulkEntry {H : Type} : Lit × DataW H → Nat
  | (.string bytes, d) => bytes.length + uptoBulk d + 1
  | (_, d) => uptoBulk d + 1
 end
def uptoSmall : (H : Type) → List (DataW H) → Bool := fun _ ds => decide (uptoBulkAll ds ≤ 1048576)
def OpenSpec.upto (s : _root_.Go.ChangeSpec) : _root_.Go.OpenSpec := { _root_.Go.OpenSpec.ofChange s with cond := some uptoSmall }

/-- 'laws.FnExactCallFault', WHERE WHAT IT READS IS OF BULK AT MOST 1048576: true; the input reads as it did. -/
def fnExactCallFaultUptoRow : OpenClaim := { program := "ytkckfagcnnhimaa", sum := "69d33a455989bedf7b3687481701bb69f3fe82e54d1034f71bced0c32499d192", func := "loop.example/g00295/laws.FnExactCallFault", spec := "fnExactCallFault", apart := false, narrowed := true }
def FnExactCallFaultUptoSaid : Prop := fnExactCallFaultUptoRow.holds Try.pinned (OpenSpec.upto fnExactCallFaultSpec)

/-- 'laws.FnExactStepFault', WHERE WHAT IT READS IS OF BULK AT MOST 1048576: true; the input reads as it did. -/
def fnExactStepFaultUptoRow : OpenClaim := { program := "ytkckfagcnnhimaa", sum := "69d33a455989bedf7b3687481701bb69f3fe82e54d1034f71bced0c32499d192", func := "loop.example/g00295/laws.FnExactStepFault", spec := "fnExactStepFault", unfollowed := true, recurses := true, apart := false, narrowed := true }
def FnExactStepFaultUptoSaid : Prop := fnExactStepFaultUptoRow.holds Try.pinned (OpenSpec.upto fnExactStepFaultSpec)

/-- 'laws.FnExactFormatDisk', WHERE WHAT IT READS IS OF BULK AT MOST 1048576: true; the input reads as it did. -/
def fnExactFormatDiskUptoRow : OpenClaim := { program := "ytkckfagcnnhimaa", sum := "69d33a455989bedf7b3687481701bb69f3fe82e54d1034f71bced0c32499d192", func := "loop.example/g00295/laws.FnExactFormatDisk", spec := "fnExactFormatDisk", apart := false, narrowed := true }
def FnExactFormatDiskUptoSaid : Prop := fnExactFormatDiskUptoRow.holds Try.pinned (OpenSpec.upto fnExactFormatDiskSpec)

/-- 'laws.FnExactCommitAt', WHERE WHAT IT READS IS OF BULK AT MOST 1048576: true; the input reads as it did. -/
def fnExactCommitAtUptoRow : OpenClaim := { program := "ytkckfagcnnhimaa", sum := "69d33a455989bedf7b3687481701bb69f3fe82e54d1034f71bced0c32499d192", func := "loop.example/g00295/laws.FnExactCommitAt", spec := "fnExactCommitAt", unfollowed := true, recurses := true, apart := false, narrowed := true }
def FnExactCommitAtUptoSaid : Prop := fnExactCommitAtUptoRow.holds Try.pinned (OpenSpec.upto fnExactCommitAtSpec)

/-- 'laws.FnExactSeqOf', WHERE WHAT IT READS IS OF BULK AT MOST 1048576: true; the input reads as it did. -/
def fnExactSeqOfUptoRow : OpenClaim := { program := "ytkckfagcnnhimaa", sum := "69d33a455989bedf7b3687481701bb69f3fe82e54d1034f71bced0c32499d192", func := "loop.example/g00295/laws.FnExactSeqOf", spec := "fnExactSeqOf", unfollowed := true, recurses := true, apart := false, narrowed := true }
def FnExactSeqOfUptoSaid : Prop := fnExactSeqOfUptoRow.holds Try.pinned (OpenSpec.upto fnExactSeqOfSpec)

/-- 'laws.FnExactChangedPuts', WHERE WHAT IT READS IS OF BULK AT MOST 1048576: true; the input reads as it did. -/
def fnExactChangedPutsUptoRow : OpenClaim := { program := "ytkckfagcnnhimaa", sum := "69d33a455989bedf7b3687481701bb69f3fe82e54d1034f71bced0c32499d192", func := "loop.example/g00295/laws.FnExactChangedPuts", spec := "fnExactChangedPuts", unfollowed := true, recurses := true, apart := false, narrowed := true }
def FnExactChangedPutsUptoSaid : Prop := fnExactChangedPutsUptoRow.holds Try.pinned (OpenSpec.upto fnExactChangedPutsSpec)

/-- 'laws.FnExactScanJournal', WHERE WHAT IT READS IS OF BULK AT MOST 1048576: true; the input reads as it did. -/
def fnExactScanJournalUptoRow : OpenClaim := { program := "ytkckfagcnnhimaa", sum := "69d33a455989bedf7b3687481701bb69f3fe82e54d1034f71bced0c32499d192", func := "loop.example/g00295/laws.FnExactScanJournal", spec := "fnExactScanJournal", unfollowed := true, recurses := true, apart := false, narrowed := true }
def FnExactScanJournalUptoSaid : Prop := fnExactScanJournalUptoRow.holds Try.pinned (OpenSpec.upto fnExactScanJournalSpec)

/-- 'laws.FnExactPlanMount', WHERE WHAT IT READS IS OF BULK AT MOST 1048576: true; the input reads as it did. -/
def fnExactPlanMountUptoRow : OpenClaim := { program := "ytkckfagcnnhimaa", sum := "69d33a455989bedf7b3687481701bb69f3fe82e54d1034f71bced0c32499d192", func := "loop.example/g00295/laws.FnExactPlanMount", spec := "fnExactPlanMount", unfollowed := true, recurses := true, apart := false, narrowed := true }
def FnExactPlanMountUptoSaid : Prop := fnExactPlanMountUptoRow.holds Try.pinned (OpenSpec.upto fnExactPlanMountSpec)

/-- 'laws.FnExactRunSteps', WHERE WHAT IT READS IS OF BULK AT MOST 1048576: true; the input reads as it did. -/
def fnExactRunStepsUptoRow : OpenClaim := { program := "ytkckfagcnnhimaa", sum := "69d33a455989bedf7b3687481701bb69f3fe82e54d1034f71bced0c32499d192", func := "loop.example/g00295/laws.FnExactRunSteps", spec := "fnExactRunSteps", unfollowed := true, recurses := true, apart := false, narrowed := true }
def FnExactRunStepsUptoSaid : Prop := fnExactRunStepsUptoRow.holds Try.pinned (OpenSpec.upto fnExactRunStepsSpec)

/-- 'laws.FnExactNewWorld', WHERE WHAT IT READS IS OF BULK AT MOST 1048576: true; the input reads as it did. -/
def fnExactNewWorldUptoRow : OpenClaim := { program := "ytkckfagcnnhimaa", sum := "69d33a455989bedf7b3687481701bb69f3fe82e54d1034f71bced0c32499d192", func := "loop.example/g00295/laws.FnExactNewWorld", spec := "fnExactNewWorld", apart := false, narrowed := true }
def FnExactNewWorldUptoSaid : Prop := fnExactNewWorldUptoRow.holds Try.pinned (OpenSpec.upto fnExactNewWorldSpec)

/-- 'laws.FnExactCrashMount', WHERE WHAT IT READS IS OF BULK AT MOST 1048576: true; the input reads as it did. -/
def fnExactCrashMountUptoRow : OpenClaim := { program := "ytkckfagcnnhimaa", sum := "69d33a455989bedf7b3687481701bb69f3fe82e54d1034f71bced0c32499d192", func := "loop.example/g00295/laws.FnExactCrashMount", spec := "fnExactCrashMount", unfollowed := true, recurses := true, apart := false, narrowed := true }
def FnExactCrashMountUptoSaid : Prop := fnExactCrashMountUptoRow.holds Try.pinned (OpenSpec.upto fnExactCrashMountSpec)

end Rows
end Go.Proofs.Ytkckfagcnnhimaa
