/- PROVED: Rows.FnExactCallFaultUptoSaid: laws.FnExactCallFault returns true and leaves its argument as it was, for every argument of bulk at most 1048576. -/
import Derived.Test.YtkckfagcnnhimaaCallFaultB
import Derived.Test.YtkckfagcnnhimaaRows


import Derived.WalkKit
import Derived.ProofKit
import Derived.OpenShut
import Derived.JoinedCond
namespace Mf
open Go Go.ChangeShapes Go.WideShapes Go.ChangeAt Go.RowKit
open Go.Proofs.Ytkckfagcnnhimaa
open Go.Proofs (Try.prog)
set_option linter.unusedVariables false
set_option linter.unusedSimpArgs false

theorem uptoAll_bulks {H : Type} : ∀ l : List (DataW H), Rows.uptoBulkAll l = bulks Rows.uptoBulk l
  | [] => by simp [Rows.uptoBulkAll, bulks]
  | d :: l => by simp [Rows.uptoBulkAll, bulks, uptoAll_bulks l]

theorem uptoBulkOk {H : Type} : Bulk (Rows.uptoBulk (H := H)) where
  one := fun d => by
    cases d with
    | lit l => cases l <;> simp [Rows.uptoBulk]
    | _ => simp [Rows.uptoBulk]
  str := fun b => by simp [Rows.uptoBulk]
  sl := fun a b => by simp only [Rows.uptoBulk, uptoAll_bulks]; omega
  agg := fun a => by simp only [Rows.uptoBulk, uptoAll_bulks]; omega

theorem closedTb : closedB Go.Proofs.Try.prog tb tb = true := by kernel_rfl
theorem ownK : ownKnob Go.Proofs.Try.prog.godebug = none := by kernel_rfl

theorem sum_len {e : Ty} (h : ∀ x : e.El, 1 ≤ wt e x) : ∀ xs : List e.El, xs.length ≤ (xs.map (wt e)).sum
  | [] => Nat.le_refl _
  | x :: xs => by
    have := sum_len h xs; have := h x
    simp only [List.map_cons, List.sum_cons, List.length_cons]; omega

namespace callFault

theorem ok : FsOk Go.Proofs.Try.prog 3 (mkFS [.sh] (shs [tCall_]) (fun x => laws_FnExactCallFault x.1) (fun b => ⟨[.cl .sh .bool b], []⟩)) := laws_FnExactCallFault.ok

set_option maxRecDepth 100000 in
theorem contract (H : Type) (enc : TypeId × Value → H) (W : World) (base : Nat) (args : Array Value) (ds gs : List (DataW H)) (before : List MemPlace)
    (hval : ∀ (j : Nat) t v, Go.Proofs.Try.f3.params[j]? = some t → args[j]? = some v → Value.okWide Go.Proofs.Try.prog W .any base t v)
    (hW : DataW.Whole enc Go.Proofs.Try.prog Go.Proofs.Try.f3.params.toList Rows.fnExactCallFaultSpec.vars false W args.toList ds gs before) (hk : Rows.uptoSmall H (ds ++ gs) = true) :
    Calls Go.Proofs.Try.prog 3 args W fun e W' => ∃ v, e = .returned v ∧ Rows.fnExactCallFaultSpec.post enc Go.Proofs.Try.prog Go.Proofs.Try.f3 false true false false W args v W' := by
  have hk' : bulks Rows.uptoBulk (ds ++ gs) ≤ 1048576 := by rw [← uptoAll_bulks]; exact of_decide_eq_true hk
  refine law_contract (tys := [tCall_]) tbok closedTb uptoBulkOk (by kernel_rfl) ok (by kernel_rfl) hval hW hk' (fun x _ hw => callFault_law x.1 ?_) ?_ (tr := 4) (by kernel_rfl) (by kernel_rfl)
  · have h : wt tCall_ x.1 ≤ 1048576 := by simp only [wtAll] at hw; omega
    have h2 := sum_len (e := .int .u8) (fun _ => Nat.le_refl 1) x.1.2.2.2.2.2.1
    simp only [wt] at h h2
    omega
  · have hl := hW
    obtain ⟨p, q, hA, hV, rfl, _⟩ := hl
    rw [show Go.Proofs.Try.f3.params.toList = [24] from rfl] at hA
    obtain ⟨v, vs1, d, ds1, a, b, _, rfl, _, _, h2⟩ := trodAll_cons hA
    obtain ⟨_, rfl, _⟩ := trodAll_nil h2
    obtain ⟨rfl, _⟩ := trodVars_none hV
    rfl

set_option maxRecDepth 100000 in
theorem lifted (os : Os) (started : os.Started) (H : Type) (enc : TypeId × Value → H) (F : Stop.Interp) :
    ReturnsInHanded {} Go.Proofs.Try.checked os 3 .any ((Rows.OpenSpec.upto Rows.fnExactCallFaultSpec).pre6 enc Go.Proofs.Try.prog Go.Proofs.Try.f3 Rows.fnExactCallFaultUptoRow.domain false) (((Rows.OpenSpec.upto Rows.fnExactCallFaultSpec).at F).post enc Go.Proofs.Try.prog Go.Proofs.Try.f3 false true false false) := by
  refine returnsInHanded_of_cond (C := Go.Proofs.Try.checked) (s := Rows.OpenSpec.upto Rows.fnExactCallFaultSpec) (k := Rows.uptoSmall) rfl ownK started (by kernel_rfl) (by kernel_rfl)
    (OpenSpec.witness (enc := enc) (C := Go.Proofs.Try.checked) (s := Rows.OpenSpec.upto Rows.fnExactCallFaultSpec) (k := Rows.uptoSmall) rfl false
      ⟨#[], #[.agg #[.int .i64 0, .string ⟨#[]⟩, .string ⟨#[]⟩, .int .i64 0, .int .i64 0, .slice none 0 0]], []⟩ 8 (by kernel_rfl) (by kernel_rfl) (by kernel_rfl)
      (x := ([.agg [.lit (.int .i64 0), .lit (.string []), .lit (.string []), .lit (.int .i64 0), .lit (.int .i64 0), .nil]], [], [])) (by kernel_rfl) rfl (by kernel_rfl)) ?_
  intro W base args ds gs before hval hW _ hk _
  exact contract H enc W base args ds gs before hval hW hk

theorem over : Rows.fnExactCallFaultUptoRow.holds Try.pinned (Rows.OpenSpec.upto Rows.fnExactCallFaultSpec) :=
  OpenClaim.holds_of_cond 3 Go.Proofs.Try.f3 rfl rfl rfl rfl rfl rfl rfl ⟨rfl, rfl, rfl, rfl, rfl⟩ rfl rfl rfl rfl rfl (by kernel_rfl) (by kernel_rfl) (by kernel_rfl)
    (of_decide_eq_true (by kernel_rfl)) (by unfold Func.isWrapper; first | (rw [if_pos (by decide +kernel)]; kernel_rfl) | (rw [if_neg (by decide +kernel)]; exact ⟨rfl, rfl⟩))
    (fun os started H enc _ F => lifted os started H enc F)

theorem proved : Rows.FnExactCallFaultUptoSaid := over
end callFault
end Mf
namespace Go.Proofs.Ytkckfagcnnhimaa
theorem callFault_upto : Rows.FnExactCallFaultUptoSaid := Mf.callFault.proved
end Go.Proofs.Ytkckfagcnnhimaa
