/-
  No cell of these rows narrows 'for every input' (looked for: loops, veiled, ifaces, maps, wideKeys, modest, calm, conditions, laid).
  DERIVED. THE GIVEN ROWS OF THIS SEAT. 6 by the template 'for every input the law returns true; each argument reads behind the call as it read before'; 0 by the template 'total and deterministic' (their statements: YtdmbfnplackmhaaGreatTotals.lean).
  GIVEN WITH THE SEED: the statements are not yours to turn. If you find one false, say at which input.
  Laid BY PROGRAM, IN A SANDBOX (cutbox-rows.mjs): the forced cells as the released guide's own fill.sh prints them over the translation 9db4c9d10e229c41… (all of the seat's roots in one cut). By AI agents, Wed Nov 11 2026. No macro, syntax, notation, axiom, sorry.
-/
import Derived.Test.YtdmbfnplackmhaaGreatChecked
import GoSem.Claim
import GoSem.ClaimJoined
import GoSem.ClaimMapViews
import Derived.JoinedTies
import Derived.KernelRfl
namespace Go.Proofs.YtdmbfnplackmhaaGreat
/- THE CELL 'sum', in the pinned program and in every row, IS THE sha256 OF THE DUMP (.gsa) THAT YtdmbfnplackmhaaGreatProg.lean LOADS. Nothing in Lean hashes anything: it is a label: what it is worth is what the hold of that sum in a sandbox is worth. -/
noncomputable def Tryz.pinned : Pinned := { name := "ytdmbfnplackmhaagreat", sum := "9db4c9d10e229c416af55983bfe463b2f798d97f7b9b1b0e19a2e6f98a760407", checked := Tryz.checked }
namespace Rows
def none {H : Type} : Left H := { results := [], args := [] }

/-- 'laws.FnExactWorldFault': WHATEVER THE INPUT: true; the input reads as it did. -/
def fnExactWorldFaultSpec : ChangeSpec := { name := "fnExactWorldFault", fn := fun _ => fun
  | [d] => { results := [.lit (.bool true)], args := [d] }
  | _ => none }
def fnExactWorldFaultRow : OpenClaim := { program := "ytdmbfnplackmhaagreat", sum := "9db4c9d10e229c416af55983bfe463b2f798d97f7b9b1b0e19a2e6f98a760407", func := "loop.example/g00295/laws.FnExactWorldFault", spec := "fnExactWorldFault", unfollowed := true, recurses := true, apart := false }
def FnExactWorldFaultSaid : Prop := fnExactWorldFaultRow.holds Tryz.pinned (OpenSpec.ofChange fnExactWorldFaultSpec)

/-- ITS FALSE NEIGHBOUR: 'it returns false'. Refute it at one input. -/
def fnExactWorldFaultWrong : ChangeSpec := { name := "fnExactWorldFault", fn := fun _ => fun
  | [d] => { results := [.lit (.bool false)], args := [d] }
  | _ => none }
def FnExactWorldFaultWrongFalsely : Prop := fnExactWorldFaultRow.holds Tryz.pinned (OpenSpec.ofChange fnExactWorldFaultWrong)

/-- 'laws.FnExactPlanSync': WHATEVER THE INPUT: true; the input reads as it did. -/
def fnExactPlanSyncSpec : ChangeSpec := { name := "fnExactPlanSync", fn := fun _ => fun
  | [d1, d2] => { results := [.lit (.bool true)], args := [d1, d2] }
  | _ => none }
def fnExactPlanSyncRow : OpenClaim := { program := "ytdmbfnplackmhaagreat", sum := "9db4c9d10e229c416af55983bfe463b2f798d97f7b9b1b0e19a2e6f98a760407", func := "loop.example/g00295/laws.FnExactPlanSync", spec := "fnExactPlanSync", unfollowed := true, recurses := true, apart := false }
def FnExactPlanSyncSaid : Prop := fnExactPlanSyncRow.holds Tryz.pinned (OpenSpec.ofChange fnExactPlanSyncSpec)

/-- ITS FALSE NEIGHBOUR: 'it returns false'. Refute it at one input. -/
def fnExactPlanSyncWrong : ChangeSpec := { name := "fnExactPlanSync", fn := fun _ => fun
  | [d1, d2] => { results := [.lit (.bool false)], args := [d1, d2] }
  | _ => none }
def FnExactPlanSyncWrongFalsely : Prop := fnExactPlanSyncRow.holds Tryz.pinned (OpenSpec.ofChange fnExactPlanSyncWrong)

/-- 'laws.FnRepairs': WHATEVER THE INPUT: true; the input reads as it did. -/
def fnRepairsSpec : ChangeSpec := { name := "fnRepairs", fn := fun _ => fun
  | [d] => { results := [.lit (.bool true)], args := [d] }
  | _ => none }
def fnRepairsRow : OpenClaim := { program := "ytdmbfnplackmhaagreat", sum := "9db4c9d10e229c416af55983bfe463b2f798d97f7b9b1b0e19a2e6f98a760407", func := "loop.example/g00295/laws.FnRepairs", spec := "fnRepairs", unfollowed := true, recurses := true, apart := false }
def FnRepairsSaid : Prop := fnRepairsRow.holds Tryz.pinned (OpenSpec.ofChange fnRepairsSpec)

/-- ITS FALSE NEIGHBOUR: 'it returns false'. Refute it at one input. -/
def fnRepairsWrong : ChangeSpec := { name := "fnRepairs", fn := fun _ => fun
  | [d] => { results := [.lit (.bool false)], args := [d] }
  | _ => none }
def FnRepairsWrongFalsely : Prop := fnRepairsRow.holds Tryz.pinned (OpenSpec.ofChange fnRepairsWrong)

/-- 'laws.FnExactCheckDisk': WHATEVER THE INPUT: true; the input reads as it did. -/
def fnExactCheckDiskSpec : ChangeSpec := { name := "fnExactCheckDisk", fn := fun _ => fun
  | [d] => { results := [.lit (.bool true)], args := [d] }
  | _ => none }
def fnExactCheckDiskRow : OpenClaim := { program := "ytdmbfnplackmhaagreat", sum := "9db4c9d10e229c416af55983bfe463b2f798d97f7b9b1b0e19a2e6f98a760407", func := "loop.example/g00295/laws.FnExactCheckDisk", spec := "fnExactCheckDisk", unfollowed := true, recurses := true, apart := false }
def FnExactCheckDiskSaid : Prop := fnExactCheckDiskRow.holds Tryz.pinned (OpenSpec.ofChange fnExactCheckDiskSpec)

/-- ITS FALSE NEIGHBOUR: 'it returns false'. Refute it at one input. -/
def fnExactCheckDiskWrong : ChangeSpec := { name := "fnExactCheckDisk", fn := fun _ => fun
  | [d] => { results := [.lit (.bool false)], args := [d] }
  | _ => none }
def FnExactCheckDiskWrongFalsely : Prop := fnExactCheckDiskRow.holds Tryz.pinned (OpenSpec.ofChange fnExactCheckDiskWrong)

/-- 'laws.FnImages': WHATEVER THE INPUT: true; the input reads as it did. -/
def fnImagesSpec : ChangeSpec := { name := "fnImages", fn := fun _ => fun
  | [d] => { results := [.lit (.bool true)], args := [d] }
  | _ => none }
def fnImagesRow : OpenClaim := { program := "ytdmbfnplackmhaagreat", sum := "9db4c9d10e229c416af55983bfe463b2f798d97f7b9b1b0e19a2e6f98a760407", func := "loop.example/g00295/laws.FnImages", spec := "fnImages", unfollowed := true, recurses := true, apart := false }
def FnImagesSaid : Prop := fnImagesRow.holds Tryz.pinned (OpenSpec.ofChange fnImagesSpec)

/-- ITS FALSE NEIGHBOUR: 'it returns false'. Refute it at one input. -/
def fnImagesWrong : ChangeSpec := { name := "fnImages", fn := fun _ => fun
  | [d] => { results := [.lit (.bool false)], args := [d] }
  | _ => none }
def FnImagesWrongFalsely : Prop := fnImagesRow.holds Tryz.pinned (OpenSpec.ofChange fnImagesWrong)

/-- 'laws.FnExactMountDisk': WHATEVER THE INPUT: true; the input reads as it did. -/
def fnExactMountDiskSpec : ChangeSpec := { name := "fnExactMountDisk", fn := fun _ => fun
  | [d] => { results := [.lit (.bool true)], args := [d] }
  | _ => none }
def fnExactMountDiskRow : OpenClaim := { program := "ytdmbfnplackmhaagreat", sum := "9db4c9d10e229c416af55983bfe463b2f798d97f7b9b1b0e19a2e6f98a760407", func := "loop.example/g00295/laws.FnExactMountDisk", spec := "fnExactMountDisk", unfollowed := true, recurses := true, apart := false }
def FnExactMountDiskSaid : Prop := fnExactMountDiskRow.holds Tryz.pinned (OpenSpec.ofChange fnExactMountDiskSpec)

/-- ITS FALSE NEIGHBOUR: 'it returns false'. Refute it at one input. -/
def fnExactMountDiskWrong : ChangeSpec := { name := "fnExactMountDisk", fn := fun _ => fun
  | [d] => { results := [.lit (.bool false)], args := [d] }
  | _ => none }
def FnExactMountDiskWrongFalsely : Prop := fnExactMountDiskRow.holds Tryz.pinned (OpenSpec.ofChange fnExactMountDiskWrong)

/- THE SECOND FORM. 'bulk': how many values and letters a reading holds, each counted each time it is reached (what is shared counts as often as it is met; a slice's spare places count too). A statement '..UptoSaid' is the law's where the arguments, and the package variables that the reading takes, are together of bulk at most 1048576: NARROWER than '..Said'. Prove '..Said' where nothing that the law and all that it calls make is longer than what came in: it says more and counts as full. Else prove '..UptoSaid'. A law counts once. -/
mutual
def uptoBulk {H : Type} : DataW H → Nat
  | .lit (.string bytes) => bytes.length + 1
  | .lit _ => 1
  | .nil => 1
  | .ptr d => uptoBulk d + 1
  | .slice elems spare => uptoBulkAll elems + uptoBulkAll spare + 1
  | .agg parts => uptoBulkAll parts + 1
  | .iface _ d => uptoBulk d + 1
  | .map entries => uptoBulkEntries entries + 1
  | .held _ => 1
def uptoBulkAll {H : Type} : List (DataW H) → Nat
  | [] => 0
  | d :: r => uptoBulk d + uptoBulkAll r
def uptoBulkEntries {H : Type} : List (Lit × DataW H) → Nat
  | [] => 0
  | x :: r => uptoBulkEntry x + uptoBulkEntries r
def uptoBulkEntry {H : Type} : Lit × DataW H → Nat
  | (.string bytes, d) => bytes.length + uptoBulk d + 1
  | (_, d) => uptoBulk d + 1
 end
def uptoSmall : (H : Type) → List (DataW H) → Bool := fun _ ds => decide (uptoBulkAll ds ≤ 1048576)
def OpenSpec.upto (s : _root_.Go.ChangeSpec) : _root_.Go.OpenSpec := { _root_.Go.OpenSpec.ofChange s with cond := some uptoSmall }

/-- 'laws.FnExactWorldFault', WHERE WHAT IT READS IS OF BULK AT MOST 1048576: true; the input reads as it did. -/
def fnExactWorldFaultUptoRow : OpenClaim := { program := "ytdmbfnplackmhaagreat", sum := "9db4c9d10e229c416af55983bfe463b2f798d97f7b9b1b0e19a2e6f98a760407", func := "loop.example/g00295/laws.FnExactWorldFault", spec := "fnExactWorldFault", unfollowed := true, recurses := true, apart := false, narrowed := true }
def FnExactWorldFaultUptoSaid : Prop := fnExactWorldFaultUptoRow.holds Tryz.pinned (OpenSpec.upto fnExactWorldFaultSpec)

/-- 'laws.FnExactPlanSync', WHERE WHAT IT READS IS OF BULK AT MOST 1048576: true; the input reads as it did. -/
def fnExactPlanSyncUptoRow : OpenClaim := { program := "ytdmbfnplackmhaagreat", sum := "9db4c9d10e229c416af55983bfe463b2f798d97f7b9b1b0e19a2e6f98a760407", func := "loop.example/g00295/laws.FnExactPlanSync", spec := "fnExactPlanSync", unfollowed := true, recurses := true, apart := false, narrowed := true }
def FnExactPlanSyncUptoSaid : Prop := fnExactPlanSyncUptoRow.holds Tryz.pinned (OpenSpec.upto fnExactPlanSyncSpec)

/-- 'laws.FnRepairs', WHERE WHAT IT READS IS OF BULK AT MOST 1048576: true; the input reads as it did. -/
def fnRepairsUptoRow : OpenClaim := { program := "ytdmbfnplackmhaagreat", sum := "9db4c9d10e229c416af55983bfe463b2f798d97f7b9b1b0e19a2e6f98a760407", func := "loop.example/g00295/laws.FnRepairs", spec := "fnRepairs", unfollowed := true, recurses := true, apart := false, narrowed := true }
def FnRepairsUptoSaid : Prop := fnRepairsUptoRow.holds Tryz.pinned (OpenSpec.upto fnRepairsSpec)

/-- 'laws.FnExactCheckDisk', WHERE WHAT IT READS IS OF BULK AT MOST 1048576: true; the input reads as it did. -/
def fnExactCheckDiskUptoRow : OpenClaim := { program := "ytdmbfnplackmhaagreat", sum := "9db4c9d10e229c416af55983bfe463b2f798d97f7b9b1b0e19a2e6f98a760407", func := "loop.example/g00295/laws.FnExactCheckDisk", spec := "fnExactCheckDisk", unfollowed := true, recurses := true, apart := false, narrowed := true }
def FnExactCheckDiskUptoSaid : Prop := fnExactCheckDiskUptoRow.holds Tryz.pinned (OpenSpec.upto fnExactCheckDiskSpec)

/-- 'laws.FnImages', WHERE WHAT IT READS IS OF BULK AT MOST 1048576: true; the input reads as it did. -/
def fnImagesUptoRow : OpenClaim := { program := "ytdmbfnplackmhaagreat", sum := "9db4c9d10e229c416af55983bfe463b2f798d97f7b9b1b0e19a2e6f98a760407", func := "loop.example/g00295/laws.FnImages", spec := "fnImages", unfollowed := true, recurses := true, apart := false, narrowed := true }
def FnImagesUptoSaid : Prop := fnImagesUptoRow.holds Tryz.pinned (OpenSpec.upto fnImagesSpec)

/-- 'laws.FnExactMountDisk', WHERE WHAT IT READS IS OF BULK AT MOST 1048576: true; the input reads as it did. -/
def fnExactMountDiskUptoRow : OpenClaim := { program := "ytdmbfnplackmhaagreat", sum := "9db4c9d10e229c416af55983bfe463b2f798d97f7b9b1b0e19a2e6f98a760407", func := "loop.example/g00295/laws.FnExactMountDisk", spec := "fnExactMountDisk", unfollowed := true, recurses := true, apart := false, narrowed := true }
def FnExactMountDiskUptoSaid : Prop := fnExactMountDiskUptoRow.holds Tryz.pinned (OpenSpec.upto fnExactMountDiskSpec)

end Rows
end Go.Proofs.YtdmbfnplackmhaaGreat
