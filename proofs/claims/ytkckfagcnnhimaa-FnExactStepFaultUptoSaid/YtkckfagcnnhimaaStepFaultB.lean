/- The law over plain data: laws.FnExactStepFault answers true. -/
import Derived.Test.YtkckfagcnnhimaaStepFaultA
namespace Mf
open Go
set_option linter.unusedVariables false
set_option linter.unusedSimpArgs false

theorem w64_id {x : Int} (h1 : -9223372036854775808 ≤ x) (h2 : x ≤ 9223372036854775807) : w64 x = x := by
  simp [w64, IntKind.wrap, IntKind.bits, IntKind.signed]
  omega

theorem inB_ok {i : Int} {n : Nat} (h1 : 0 ≤ i) (h2 : i < n) : inB i n = true := by
  simp [inB, h1, h2]

theorem toInt64S_loop (a : List Int) (hl : a.length ≤ 2147483648) : ∀ (k i : Nat) (out : List Int), i + k = a.length → out.length = a.length → (∀ j : Nat, j < i → out[j]? = a[j]?) → laws_toInt64S_l0 a ((i : Int), out) = some a
  | 0, i, out, h1, h2, h3 => by
    refine loopL_done ?_
    have e : out = a := List.ext_getElem? (fun j => by
      by_cases hj : j < i
      · exact h3 j hj
      · rw [List.getElem?_eq_none (by omega), List.getElem?_eq_none (by omega)])
    subst e
    simp only [laws_toInt64S_l0.B]
    rw [show decide ((i : Int) < (out.length : Int)) = false by simp; omega]
    rfl
  | k + 1, i, out, h1, h2, h3 => by
    have hi : i < a.length := by omega
    have hst : laws_toInt64S_l0.B a (i : Int) out = some (.inl (((i + 1 : Nat) : Int), out.set i (a.getD i 0))) := by
      simp only [laws_toInt64S_l0.B]
      rw [show decide ((i : Int) < (a.length : Int)) = true by simp; omega, inB_ok (by omega) (by omega), inB_ok (by omega) (by omega), w64_id (by omega) (by omega)]
      simp
    unfold laws_toInt64S_l0
    rw [loopL_step (s' := (((i + 1 : Nat) : Int), out.set i (a.getD i 0))) hst]
    refine toInt64S_loop a hl k (i + 1) _ (by omega) (by simp [h2]) (fun j hj => ?_)
    by_cases e : j = i
    · subst e
      rw [List.getElem?_set_self (by omega), List.getElem?_eq_getElem hi]
      simp [List.getD, hi]
    · rw [List.getElem?_set_ne (fun x => e x.symm)]
      exact h3 j (by omega)

theorem toInt64S_eq (a : List Int) (hl : a.length ≤ 2147483648) : laws_toInt64S a = some a := by
  simp only [laws_toInt64S]
  rw [show (decide ((0 : Int) ≤ (a.length : Int)) && (decide ((a.length : Int) ≤ (a.length : Int)) && decide ((a.length : Int) ≤ 2147483648))) = true by simp; omega]
  have := toInt64S_loop a hl a.length 0 (List.replicate (a.length : Int).toNat 0) (by omega) (by simp) (fun j hj => by omega)
  simp only [Int.ofNat_eq_natCast, Int.natCast_zero] at this
  simp only [cond_true]
  rw [this]
  rfl

theorem eqInt64S_loop (a : List Int) (hl : a.length ≤ 2147483648) : ∀ (k i : Nat), i + k = a.length → laws_eqInt64S_l0 a a (i : Int) = some (.inr ())
  | 0, i, h1 => by
    refine loopL_done ?_
    simp only [laws_eqInt64S_l0.B]
    rw [show decide ((i : Int) < (a.length : Int)) = false by simp; omega]
    rfl
  | k + 1, i, h1 => by
    have hst : laws_eqInt64S_l0.B a a (i : Int) = some (.inl ((i + 1 : Nat) : Int)) := by
      simp only [laws_eqInt64S_l0.B]
      rw [show decide ((i : Int) < (a.length : Int)) = true by simp; omega, inB_ok (by omega) (by omega), w64_id (by omega) (by omega)]
      simp
    unfold laws_eqInt64S_l0
    rw [loopL_step hst]
    exact eqInt64S_loop a hl k (i + 1) (by omega)

theorem eqInt64S_self (a : List Int) (hl : a.length ≤ 2147483648) : laws_eqInt64S a a = some true := by
  have := eqInt64S_loop a hl a.length 0 (by omega)
  simp only [laws_eqInt64S]
  rw [show (((a.length : Int) != (a.length : Int)) = false) by simp]
  simp only [cond_false]
  rw [show (0 : Int) = ((0 : Nat) : Int) from rfl, this]
  rfl

theorem szInt64S_some (a : List Int) (n : Int) : ∃ r, laws_szInt64S a n = some r := by
  simp only [laws_szInt64S]
  cases decide (w64 (n - (a.length : Int)) < 0) <;> exact ⟨_, rfl⟩

theorem szStep_some (a : Step_) (n : Int) : ∃ r, laws_szStep a n = some r := by
  obtain ⟨r, hr⟩ := szInt64S_some a.2.2.1 n
  simp only [laws_szStep, hr, Option.bind_some]
  cases decide (r < 0) <;> exact ⟨_, rfl⟩

theorem toStep_eq (a : Step_) (hl : a.2.2.1.length ≤ 2147483648) : laws_toStep a = some a := by
  simp only [laws_toStep, toInt64S_eq _ hl, Option.bind_some]

theorem eqStep_self (a : Step_) (hl : a.2.2.1.length ≤ 2147483648) : laws_eqStep a a = some true := by
  simp [laws_eqStep, eqInt64S_self _ hl]

def badW (x : Int) : Bool := !(cond (decide (x ≥ 0)) (decide (x ≤ 65535)) false)

theorem l1In_bad (x : Int) : spec_l1In x 0 65535 = some (!badW x) := by
  simp only [spec_l1In, Option.bind_some, badW, Bool.not_not]
theorem c1_bad (x : Int) : impl_wordsFault_c1 x = some (badW x) := by
  simp only [impl_wordsFault_c1, impl_within, Option.bind_some, badW]

theorem words_loops (w : List Int) (hl : w.length ≤ 2147483648) : ∀ (k i : Nat), i + k = w.length →
    (spec_l1Words_l0 w (i : Int) = some (.inl 3) ∧ ∃ j : Nat, slices_IndexFunc_int64_l0 w () (w.length : Int) (i : Int) = some (.inl (j : Int))) ∨
    (spec_l1Words_l0 w (i : Int) = some (.inr ()) ∧ slices_IndexFunc_int64_l0 w () (w.length : Int) (i : Int) = some (.inr ()))
  | 0, i, h1 => by
    refine .inr ⟨loopL_done ?_, loopL_done ?_⟩
    · simp only [spec_l1Words_l0.B]
      rw [show decide ((i : Int) < (w.length : Int)) = false by simp; omega]
      rfl
    · simp only [slices_IndexFunc_int64_l0.B]
      rw [show decide ((i : Int) < (w.length : Int)) = false by simp; omega]
      rfl
  | k + 1, i, h1 => by
    have hd : decide ((i : Int) < (w.length : Int)) = true := by simp; omega
    have hb : inB (i : Int) w.length = true := inB_ok (by omega) (by omega)
    have hw : w64 ((i : Int) + 1) = ((i + 1 : Nat) : Int) := by rw [w64_id (by omega) (by omega)]; rfl
    cases hx : badW (w.getD (i : Int).toNat 0) with
    | true =>
      refine .inl ⟨loopL_done ?_, i, loopL_done ?_⟩
      · simp only [spec_l1Words_l0.B, hd, hb, l1In_bad, hx, Option.bind_some]; rfl
      · simp only [slices_IndexFunc_int64_l0.B, hd, hb, c1_bad, hx, Option.bind_some]; rfl
    | false =>
      have s1 : spec_l1Words_l0.B w (i : Int) = some (.inl ((i + 1 : Nat) : Int)) := by
        simp only [spec_l1Words_l0.B, hd, hb, l1In_bad, hx, Option.bind_some, hw]; rfl
      have s2 : slices_IndexFunc_int64_l0.B w () (w.length : Int) (i : Int) = some (.inl ((i + 1 : Nat) : Int)) := by
        simp only [slices_IndexFunc_int64_l0.B, hd, hb, c1_bad, hx, Option.bind_some, hw]; rfl
      unfold spec_l1Words_l0 slices_IndexFunc_int64_l0
      rw [loopL_step s1, loopL_step (f := fun s => slices_IndexFunc_int64_l0.B w () (w.length : Int) s) s2]
      exact words_loops w hl k (i + 1) (by omega)

theorem words_eq (w : List Int) (hl : w.length ≤ 2147483648) : ∃ r, spec_l1Words w = some r ∧ impl_wordsFault w = some r := by
  simp only [spec_l1Words, impl_wordsFault, slices_ContainsFunc_int64, slices_IndexFunc_int64]
  cases decide ((w.length : Int) > 64) with
  | true => exact ⟨_, rfl, rfl⟩
  | false =>
    simp only [cond_false]
    rcases words_loops w hl w.length 0 (by omega) with ⟨h1, j, h2⟩ | ⟨h1, h2⟩
    · rw [show (0 : Int) = ((0 : Nat) : Int) from rfl, h1, h2]
      refine ⟨3, rfl, ?_⟩
      simp [sel]
    · rw [show (0 : Int) = ((0 : Nat) : Int) from rfl, h1, h2]
      exact ⟨0, rfl, rfl⟩

theorem stepFault_eq (x : Step_) (hl : x.2.2.1.length ≤ 2147483648) : ∃ r, spec_StepFault x = some r ∧ impl_StepFault x = some r := by
  obtain ⟨k, h1, h2⟩ := words_eq x.2.2.1 hl
  simp only [spec_StepFault, impl_StepFault, impl_stepFault, spec_l1In, impl_within, Option.bind_some, h1, h2]
  generalize cond x.1 (cond (x.2.1 != 0) true (decide ((x.2.2.1.length : Int) > 0))) false = b1
  generalize cond (decide (x.2.1 ≥ 0)) (decide (x.2.1 ≤ 46)) false = b2
  cases b1 <;> cases b2 <;> exact ⟨_, rfl, rfl⟩

theorem sum_len {e : Ty} (h : ∀ x : e.El, 1 ≤ wt e x) : ∀ xs : List e.El, xs.length ≤ (xs.map (wt e)).sum
  | [] => Nat.le_refl _
  | x :: xs => by
    have := sum_len h xs; have := h x
    simp only [List.map_cons, List.sum_cons, List.length_cons]; omega

theorem StepFault.law (x : PT.Els (shs [tStep_])) (hf : FitAll [tStep_] x) (hw : wtAll [tStep_] x ≤ 1048576) : laws_FnExactStepFault x.1 = some true := by
  have hl : x.1.2.2.1.length ≤ 2147483648 := by
    have h : wt tStep_ x.1 ≤ 1048576 := by simp only [wtAll] at hw; omega
    have h2 := sum_len (e := .int .i64) (fun _ => Nat.le_refl 1) x.1.2.2.1
    simp only [wt] at h h2
    omega
  generalize x.1 = d at hl
  obtain ⟨r, hr⟩ := szStep_some d 1048576
  obtain ⟨k, h1, h2⟩ := stepFault_eq d hl
  have e : (d.1, d.2.1, d.2.2.1, d.2.2.2) = d := rfl
  simp only [laws_FnExactStepFault, hr, Option.bind_some, toStep_eq d hl, e, h1, h2, eqStep_self d hl, bne_self_eq_false, cond_false, Bool.not_true]
  cases decide (r < 0) <;> rfl

end Mf
