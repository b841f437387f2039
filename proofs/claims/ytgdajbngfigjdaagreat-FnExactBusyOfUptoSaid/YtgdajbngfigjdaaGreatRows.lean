/-
  No cell of these rows narrows 'for every input' (looked for: loops, veiled, ifaces, maps, wideKeys, modest, calm, conditions, laid).
  DERIVED. THE GIVEN ROWS OF THIS SEAT. 5 by the template 'for every input the law returns true; each argument reads behind the call as it read before'; 0 by the template 'total and deterministic' (their statements: YtgdajbngfigjdaaGreatTotals.lean).
  GIVEN WITH THE SEED: the statements are not yours to turn. If you find one false, say at which input.
  Laid BY PROGRAM, IN A SANDBOX (cutbox-rows.mjs): the forced cells as the released guide's own fill.sh prints them over the translation 405e5f39f7827ca6… (all of the seat's roots in one cut). By AI agents, Wed Nov 11 2026. No macro, syntax, notation, axiom, sorry.
-/
import Derived.Test.YtgdajbngfigjdaaGreatChecked
import GoSem.Claim
import GoSem.ClaimJoined
import GoSem.ClaimMapViews
import Derived.JoinedTies
import Derived.KernelRfl
namespace Go.Proofs.YtgdajbngfigjdaaGreat
/- THE CELL 'sum', in the pinned program and in every row, IS THE sha256 OF THE DUMP (.gsa) THAT YtgdajbngfigjdaaGreatProg.lean LOADS. Nothing in Lean hashes anything: it is a label: what it is worth is what the hold of that sum in a sandbox is worth. -/
noncomputable def Tryz.pinned : Pinned := { name := "ytgdajbngfigjdaagreat", sum := "405e5f39f7827ca6f4e1e5e1637f71fbc39db04e9f670f340f8e31c008e05b3c", checked := Tryz.checked }
namespace Rows
def none {H : Type} : Left H := { results := [], args := [] }

/-- 'laws.FnExactRoomOf': WHATEVER THE INPUT: true; the input reads as it did. -/
def fnExactRoomOfSpec : ChangeSpec := { name := "fnExactRoomOf", fn := fun _ => fun
  | [d1, d2] => { results := [.lit (.bool true)], args := [d1, d2] }
  | _ => none }
def fnExactRoomOfRow : OpenClaim := { program := "ytgdajbngfigjdaagreat", sum := "405e5f39f7827ca6f4e1e5e1637f71fbc39db04e9f670f340f8e31c008e05b3c", func := "loop.example/g00295/laws.FnExactRoomOf", spec := "fnExactRoomOf", unfollowed := true, recurses := true, apart := false }
def FnExactRoomOfSaid : Prop := fnExactRoomOfRow.holds Tryz.pinned (OpenSpec.ofChange fnExactRoomOfSpec)

/-- ITS FALSE NEIGHBOUR: 'it returns false'. Refute it at one input. -/
def fnExactRoomOfWrong : ChangeSpec := { name := "fnExactRoomOf", fn := fun _ => fun
  | [d1, d2] => { results := [.lit (.bool false)], args := [d1, d2] }
  | _ => none }
def FnExactRoomOfWrongFalsely : Prop := fnExactRoomOfRow.holds Tryz.pinned (OpenSpec.ofChange fnExactRoomOfWrong)

/-- 'laws.FnExactBusyOf': WHATEVER THE INPUT: true; the input reads as it did. -/
def fnExactBusyOfSpec : ChangeSpec := { name := "fnExactBusyOf", fn := fun _ => fun
  | [d] => { results := [.lit (.bool true)], args := [d] }
  | _ => none }
def fnExactBusyOfRow : OpenClaim := { program := "ytgdajbngfigjdaagreat", sum := "405e5f39f7827ca6f4e1e5e1637f71fbc39db04e9f670f340f8e31c008e05b3c", func := "loop.example/g00295/laws.FnExactBusyOf", spec := "fnExactBusyOf", unfollowed := true, recurses := true, apart := false }
def FnExactBusyOfSaid : Prop := fnExactBusyOfRow.holds Tryz.pinned (OpenSpec.ofChange fnExactBusyOfSpec)

/-- ITS FALSE NEIGHBOUR: 'it returns false'. Refute it at one input. -/
def fnExactBusyOfWrong : ChangeSpec := { name := "fnExactBusyOf", fn := fun _ => fun
  | [d] => { results := [.lit (.bool false)], args := [d] }
  | _ => none }
def FnExactBusyOfWrongFalsely : Prop := fnExactBusyOfRow.holds Tryz.pinned (OpenSpec.ofChange fnExactBusyOfWrong)

/-- 'laws.FnExactDataPuts': WHATEVER THE INPUT: true; the input reads as it did. -/
def fnExactDataPutsSpec : ChangeSpec := { name := "fnExactDataPuts", fn := fun _ => fun
  | [d] => { results := [.lit (.bool true)], args := [d] }
  | _ => none }
def fnExactDataPutsRow : OpenClaim := { program := "ytgdajbngfigjdaagreat", sum := "405e5f39f7827ca6f4e1e5e1637f71fbc39db04e9f670f340f8e31c008e05b3c", func := "loop.example/g00295/laws.FnExactDataPuts", spec := "fnExactDataPuts", unfollowed := true, recurses := true, apart := false }
def FnExactDataPutsSaid : Prop := fnExactDataPutsRow.holds Tryz.pinned (OpenSpec.ofChange fnExactDataPutsSpec)

/-- ITS FALSE NEIGHBOUR: 'it returns false'. Refute it at one input. -/
def fnExactDataPutsWrong : ChangeSpec := { name := "fnExactDataPuts", fn := fun _ => fun
  | [d] => { results := [.lit (.bool false)], args := [d] }
  | _ => none }
def FnExactDataPutsWrongFalsely : Prop := fnExactDataPutsRow.holds Tryz.pinned (OpenSpec.ofChange fnExactDataPutsWrong)

/-- 'laws.FnExactInodePuts': WHATEVER THE INPUT: true; the input reads as it did. -/
def fnExactInodePutsSpec : ChangeSpec := { name := "fnExactInodePuts", fn := fun _ => fun
  | [d] => { results := [.lit (.bool true)], args := [d] }
  | _ => none }
def fnExactInodePutsRow : OpenClaim := { program := "ytgdajbngfigjdaagreat", sum := "405e5f39f7827ca6f4e1e5e1637f71fbc39db04e9f670f340f8e31c008e05b3c", func := "loop.example/g00295/laws.FnExactInodePuts", spec := "fnExactInodePuts", unfollowed := true, recurses := true, apart := false }
def FnExactInodePutsSaid : Prop := fnExactInodePutsRow.holds Tryz.pinned (OpenSpec.ofChange fnExactInodePutsSpec)

/-- ITS FALSE NEIGHBOUR: 'it returns false'. Refute it at one input. -/
def fnExactInodePutsWrong : ChangeSpec := { name := "fnExactInodePuts", fn := fun _ => fun
  | [d] => { results := [.lit (.bool false)], args := [d] }
  | _ => none }
def FnExactInodePutsWrongFalsely : Prop := fnExactInodePutsRow.holds Tryz.pinned (OpenSpec.ofChange fnExactInodePutsWrong)

/-- 'laws.FnExactLoadImage': WHATEVER THE INPUT: true; the input reads as it did. -/
def fnExactLoadImageSpec : ChangeSpec := { name := "fnExactLoadImage", fn := fun _ => fun
  | [d] => { results := [.lit (.bool true)], args := [d] }
  | _ => none }
def fnExactLoadImageRow : OpenClaim := { program := "ytgdajbngfigjdaagreat", sum := "405e5f39f7827ca6f4e1e5e1637f71fbc39db04e9f670f340f8e31c008e05b3c", func := "loop.example/g00295/laws.FnExactLoadImage", spec := "fnExactLoadImage", unfollowed := true, recurses := true, apart := false }
def FnExactLoadImageSaid : Prop := fnExactLoadImageRow.holds Tryz.pinned (OpenSpec.ofChange fnExactLoadImageSpec)

/-- ITS FALSE NEIGHBOUR: 'it returns false'. Refute it at one input. -/
def fnExactLoadImageWrong : ChangeSpec := { name := "fnExactLoadImage", fn := fun _ => fun
  | [d] => { results := [.lit (.bool false)], args := [d] }
  | _ => none }
def FnExactLoadImageWrongFalsely : Prop := fnExactLoadImageRow.holds Tryz.pinned (OpenSpec.ofChange fnExactLoadImageWrong)

/- THE SECOND FORM. 'bulk': how many values and letters a reading holds, each counted each time it is reached (what is shared counts as often as it is met; a slice's spare places count too). A statement '..UptoSaid' is the law's where the arguments, and the package variables that the reading takes, are together of bulk at most 1048576: NARROWER than '..Said'. Prove '..Said' where nothing that the law and all that it calls make is longer than what came in: it says more and counts as full. Else prove '..UptoSaid'. A law counts once. -/
mutual
def uptoBulk {H : Type} : DataW H → Nat
  | .lit (.string bytes) => bytes.length + 1
  | .lit _ => 1
  | .nil => 1
  | .ptr d => uptoBulk d + 1
  | .slice elems spare => uptoBulkAll elems + uptoBulkAll spare + 1
  | .agg parts => uptoBulkAll parts + 1
  | .iface _ d => uptoBulk d + 1
  | .map entries => uptoBulkEntries entries + 1
  | .held _ => 1
def uptoBulkAll {H : Type} : List (DataW H) → Nat
  | [] => 0
  | d :: r => uptoBulk d + uptoBulkAll r
def uptoBulkEntries {H : Type} : List (Lit × DataW H) → Nat
  | [] => 0
  | x :: r => uptoBulkEntry x + uptoBulkEntries r
def uptoBulkEntry {H : Type} : Lit × DataW H → Nat
  | (.string bytes, d) => bytes.length + uptoBulk d + 1
  | (_, d) => uptoBulk d + 1
 end
def uptoSmall : (H : Type) → List (DataW H) → Bool := fun _ ds => decide (uptoBulkAll ds ≤ 1048576)
def OpenSpec.upto (s : _root_.Go.ChangeSpec) : _root_.Go.OpenSpec := { _root_.Go.OpenSpec.ofChange s with cond := some uptoSmall }

/-- 'laws.FnExactRoomOf', WHERE WHAT IT READS IS OF BULK AT MOST 1048576: true; the input reads as it did. -/
def fnExactRoomOfUptoRow : OpenClaim := { program := "ytgdajbngfigjdaagreat", sum := "405e5f39f7827ca6f4e1e5e1637f71fbc39db04e9f670f340f8e31c008e05b3c", func := "loop.example/g00295/laws.FnExactRoomOf", spec := "fnExactRoomOf", unfollowed := true, recurses := true, apart := false, narrowed := true }
def FnExactRoomOfUptoSaid : Prop := fnExactRoomOfUptoRow.holds Tryz.pinned (OpenSpec.upto fnExactRoomOfSpec)

/-- 'laws.FnExactBusyOf', WHERE WHAT IT READS IS OF BULK AT MOST 1048576: true; the input reads as it did. -/
def fnExactBusyOfUptoRow : OpenClaim := { program := "ytgdajbngfigjdaagreat", sum := "405e5f39f7827ca6f4e1e5e1637f71fbc39db04e9f670f340f8e31c008e05b3c", func := "loop.example/g00295/laws.FnExactBusyOf", spec := "fnExactBusyOf", unfollowed := true, recurses := true, apart := false, narrowed := true }
def FnExactBusyOfUptoSaid : Prop := fnExactBusyOfUptoRow.holds Tryz.pinned (OpenSpec.upto fnExactBusyOfSpec)

/-- 'laws.FnExactDataPuts', WHERE WHAT IT READS IS OF BULK AT MOST 1048576: true; the input reads as it did. -/
def fnExactDataPutsUptoRow : OpenClaim := { program := "ytgdajbngfigjdaagreat", sum := "405e5f39f7827ca6f4e1e5e1637f71fbc39db04e9f670f340f8e31c008e05b3c", func := "loop.example/g00295/laws.FnExactDataPuts", spec := "fnExactDataPuts", unfollowed := true, recurses := true, apart := false, narrowed := true }
def FnExactDataPutsUptoSaid : Prop := fnExactDataPutsUptoRow.holds Tryz.pinned (OpenSpec.upto fnExactDataPutsSpec)

/-- 'laws.FnExactInodePuts', WHERE WHAT IT READS IS OF BULK AT MOST 1048576: true; the input reads as it did. -/
def fnExactInodePutsUptoRow : OpenClaim := { program := "ytgdajbngfigjdaagreat", sum := "405e5f39f7827ca6f4e1e5e1637f71fbc39db04e9f670f340f8e31c008e05b3c", func := "loop.example/g00295/laws.FnExactInodePuts", spec := "fnExactInodePuts", unfollowed := true, recurses := true, apart := false, narrowed := true }
def FnExactInodePutsUptoSaid : Prop := fnExactInodePutsUptoRow.holds Tryz.pinned (OpenSpec.upto fnExactInodePutsSpec)

/-- 'laws.FnExactLoadImage', WHERE WHAT IT READS IS OF BULK AT MOST 1048576: true; the input reads as it did. -/
def fnExactLoadImageUptoRow : OpenClaim := { program := "ytgdajbngfigjdaagreat", sum := "405e5f39f7827ca6f4e1e5e1637f71fbc39db04e9f670f340f8e31c008e05b3c", func := "loop.example/g00295/laws.FnExactLoadImage", spec := "fnExactLoadImage", unfollowed := true, recurses := true, apart := false, narrowed := true }
def FnExactLoadImageUptoSaid : Prop := fnExactLoadImageUptoRow.holds Tryz.pinned (OpenSpec.upto fnExactLoadImageSpec)

end Rows
end Go.Proofs.YtgdajbngfigjdaaGreat
