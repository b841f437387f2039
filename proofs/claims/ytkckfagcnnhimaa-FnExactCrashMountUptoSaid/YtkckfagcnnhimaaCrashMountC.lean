/- PROVED: Rows.FnExactCrashMountUptoSaid: laws.FnExactCrashMount returns true and leaves its arguments as they were, for all arguments of bulk at most 1048576 together. -/
import Derived.Test.YtkckfagcnnhimaaCrashMountB
import Derived.Test.YtkckfagcnnhimaaRows
import Derived.WalkKit
import Derived.ProofKit
import Derived.OpenShut
import Derived.JoinedCond
namespace Mf
open Go Go.ChangeShapes Go.WideShapes Go.ChangeAt Go.RowKit
open Go.Proofs.Ytkckfagcnnhimaa
set_option linter.unusedVariables false
set_option linter.unusedSimpArgs false

theorem uptoAll_bulks {H : Type} : ∀ l : List (DataW H), Rows.uptoBulkAll l = bulks Rows.uptoBulk l
  | [] => by simp [Rows.uptoBulkAll, bulks]
  | d :: l => by simp [Rows.uptoBulkAll, bulks, uptoAll_bulks l]

theorem uptoBulkOk {H : Type} : Bulk (Rows.uptoBulk (H := H)) where
  one := fun d => by
    cases d with
    | lit l => cases l <;> simp [Rows.uptoBulk]
    | _ => simp [Rows.uptoBulk]
  str := fun b => by simp [Rows.uptoBulk]
  sl := fun a b => by simp only [Rows.uptoBulk, uptoAll_bulks]; omega
  agg := fun a => by simp only [Rows.uptoBulk, uptoAll_bulks]; omega

def tbr : Tb := tb.filter fun x => [2, 4, 31, 40, 60, 62, 106, 139].any (Nat.beq x.1)
theorem tbrok : TbOk Go.Proofs.Try.prog tbr := tbB_ok (by kernel_rfl)
theorem closedTb : closedB Go.Proofs.Try.prog tbr tbr = true := by kernel_rfl
theorem ownK : ownKnob Go.Proofs.Try.prog.godebug = none := by kernel_rfl

namespace CrashMount

theorem ok : FsOk Go.Proofs.Try.prog 13 (mkFS [.sh, .sh, .sh] (shs [tDisk_, (.int .i64), (.sl .bool)]) (fun x => laws_FnExactCrashMount x.1 x.2.1 x.2.2.1) (fun b => ⟨[.cl .sh .bool b], []⟩)) := laws_FnExactCrashMount.ok

set_option maxRecDepth 100000 in
theorem contract (H : Type) (enc : TypeId × Value → H) (W : World) (base : Nat) (args : Array Value) (ds gs : List (DataW H)) (before : List MemPlace)
    (hval : ∀ (j : Nat) t v, Go.Proofs.Try.f13.params[j]? = some t → args[j]? = some v → Value.okWide Go.Proofs.Try.prog W .any base t v)
    (hW : DataW.Whole enc Go.Proofs.Try.prog Go.Proofs.Try.f13.params.toList Rows.fnExactCrashMountSpec.vars false W args.toList ds gs before) (hk : Rows.uptoSmall H (ds ++ gs) = true) :
    Calls Go.Proofs.Try.prog 13 args W fun e W' => ∃ v, e = .returned v ∧ Rows.fnExactCrashMountSpec.post enc Go.Proofs.Try.prog Go.Proofs.Try.f13 false true false false W args v W' := by
  have hk' : bulks Rows.uptoBulk (ds ++ gs) ≤ 1048576 := by rw [← uptoAll_bulks]; exact of_decide_eq_true hk
  refine law_contract (tys := [tDisk_, (.int .i64), (.sl .bool)]) tbrok closedTb uptoBulkOk (by kernel_rfl) ok (by kernel_rfl) hval hW hk' (fun x hf hw => law x hf hw) ?_ (tr := 4) (by kernel_rfl) (by kernel_rfl)
  · have hl := hW
    obtain ⟨p, q, hA, hV, rfl, _⟩ := hl
    rw [show Go.Proofs.Try.f13.params.toList = [62, 2, 106] from rfl] at hA
    obtain ⟨v0, vs0, d0, ds0, a0, b0, _, rfl, _, _, h1⟩ := trodAll_cons hA
    obtain ⟨v1, vs1, d1, ds1, a1, b1, _, rfl, _, _, h2⟩ := trodAll_cons h1
    obtain ⟨v2, vs2, d2, ds2, a2, b2, _, rfl, _, _, h3⟩ := trodAll_cons h2
    obtain ⟨_, rfl, _⟩ := trodAll_nil h3
    obtain ⟨rfl, _⟩ := trodVars_none hV
    rfl

set_option maxRecDepth 100000 in
theorem lifted (os : Os) (started : os.Started) (H : Type) (enc : TypeId × Value → H) (F : Stop.Interp) :
    ReturnsInHanded {} Go.Proofs.Try.checked os 13 .any ((Rows.OpenSpec.upto Rows.fnExactCrashMountSpec).pre6 enc Go.Proofs.Try.prog Go.Proofs.Try.f13 Rows.fnExactCrashMountUptoRow.domain false) (((Rows.OpenSpec.upto Rows.fnExactCrashMountSpec).at F).post enc Go.Proofs.Try.prog Go.Proofs.Try.f13 false true false false) := by
  refine returnsInHanded_of_cond (C := Go.Proofs.Try.checked) (s := Rows.OpenSpec.upto Rows.fnExactCrashMountSpec) (k := Rows.uptoSmall) rfl ownK started (by kernel_rfl) (by kernel_rfl)
    (OpenSpec.witness (enc := enc) (C := Go.Proofs.Try.checked) (s := Rows.OpenSpec.upto Rows.fnExactCrashMountSpec) (k := Rows.uptoSmall) rfl false
      ⟨#[], #[.agg #[.slice none 0 0, .slice none 0 0], .int .i64 0, .slice none 0 0], []⟩ 8 (by kernel_rfl) (by kernel_rfl) (by kernel_rfl)
      (x := ([.agg [.nil, .nil], .lit (.int .i64 0), .nil], [], [])) (by kernel_rfl) rfl (by kernel_rfl)) ?_
  intro W base args ds gs before hval hW _ hk _
  exact contract H enc W base args ds gs before hval hW hk

theorem over : Rows.fnExactCrashMountUptoRow.holds Try.pinned (Rows.OpenSpec.upto Rows.fnExactCrashMountSpec) :=
  OpenClaim.holds_of_cond 13 Go.Proofs.Try.f13 rfl rfl rfl rfl rfl rfl rfl ⟨rfl, rfl, rfl, rfl, rfl⟩ rfl rfl rfl rfl rfl (by kernel_rfl) (by kernel_rfl) (by kernel_rfl)
    (of_decide_eq_true (by kernel_rfl)) (by unfold Func.isWrapper; first | (rw [if_pos (by decide +kernel)]; kernel_rfl) | (rw [if_neg (by decide +kernel)]; exact ⟨rfl, rfl⟩))
    (fun os started H enc _ F => lifted os started H enc F)

end CrashMount
end Mf
namespace Go.Proofs.Ytkckfagcnnhimaa
theorem CrashMount_upto : Rows.FnExactCrashMountUptoSaid := Mf.CrashMount.over
end Go.Proofs.Ytkckfagcnnhimaa
