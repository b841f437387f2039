/- The law over plain data: laws.FnExactCallFault answers true. -/
import Derived.Test.YtkckfagcnnhimaaCallFaultA



namespace Mf
open Go
set_option linter.unusedVariables false
set_option linter.unusedSimpArgs false

theorem w64_id {x : Int} (h1 : -9223372036854775808 ≤ x) (h2 : x ≤ 9223372036854775807) : w64 x = x := by
  simp [w64, IntKind.wrap, IntKind.bits, IntKind.signed]
  omega

theorem inB_ok {i : Int} {n : Nat} (h1 : 0 ≤ i) (h2 : i < n) : inB i n = true := by
  simp [inB, h1, h2]

theorem toByteS_loop (a : List Int) (hl : a.length ≤ 2147483648) : ∀ (k i : Nat) (out : List Int), i + k = a.length → out.length = a.length → (∀ j : Nat, j < i → out[j]? = a[j]?) → laws_toByteS_l0 a ((i : Int), out) = some a
  | 0, i, out, h1, h2, h3 => by
    refine loopL_done ?_
    have e : out = a := List.ext_getElem? (fun j => by
      by_cases hj : j < i
      · exact h3 j hj
      · rw [List.getElem?_eq_none (by omega), List.getElem?_eq_none (by omega)])
    subst e
    simp only [laws_toByteS_l0.B]
    rw [show decide ((i : Int) < (out.length : Int)) = false by simp; omega]
    rfl
  | k + 1, i, out, h1, h2, h3 => by
    have hi : i < a.length := by omega
    have hst : laws_toByteS_l0.B a (i : Int) out = some (.inl (((i + 1 : Nat) : Int), out.set i (a.getD i 0))) := by
      simp only [laws_toByteS_l0.B]
      rw [show decide ((i : Int) < (a.length : Int)) = true by simp; omega, inB_ok (by omega) (by omega), inB_ok (by omega) (by omega), w64_id (by omega) (by omega)]
      simp
    unfold laws_toByteS_l0
    rw [loopL_step (s' := (((i + 1 : Nat) : Int), out.set i (a.getD i 0))) hst]
    refine toByteS_loop a hl k (i + 1) _ (by omega) (by simp [h2]) (fun j hj => ?_)
    by_cases e : j = i
    · subst e
      rw [List.getElem?_set_self (by omega), List.getElem?_eq_getElem hi]
      simp [List.getD, hi]
    · rw [List.getElem?_set_ne (fun x => e x.symm)]
      exact h3 j (by omega)

theorem toByteS_eq (a : List Int) (hl : a.length ≤ 2147483648) : laws_toByteS a = some a := by
  simp only [laws_toByteS]
  rw [show (decide ((0 : Int) ≤ (a.length : Int)) && (decide ((a.length : Int) ≤ (a.length : Int)) && decide ((a.length : Int) ≤ 2147483648))) = true by simp; omega]
  have := toByteS_loop a hl a.length 0 (List.replicate (a.length : Int).toNat 0) (by omega) (by simp) (fun j hj => by omega)
  simp only [Int.ofNat_eq_natCast, Int.natCast_zero] at this
  simp only [cond_true]
  rw [this]
  rfl

theorem eqByteS_loop (a : List Int) (hl : a.length ≤ 2147483648) : ∀ (k i : Nat), i + k = a.length → laws_eqByteS_l0 a a (i : Int) = some (.inr ())
  | 0, i, h1 => by
    refine loopL_done ?_
    simp only [laws_eqByteS_l0.B]
    rw [show decide ((i : Int) < (a.length : Int)) = false by simp; omega]
    rfl
  | k + 1, i, h1 => by
    have hst : laws_eqByteS_l0.B a a (i : Int) = some (.inl ((i + 1 : Nat) : Int)) := by
      simp only [laws_eqByteS_l0.B]
      rw [show decide ((i : Int) < (a.length : Int)) = true by simp; omega, inB_ok (by omega) (by omega), w64_id (by omega) (by omega)]
      simp
    unfold laws_eqByteS_l0
    rw [loopL_step hst]
    exact eqByteS_loop a hl k (i + 1) (by omega)

theorem eqByteS_self (a : List Int) (hl : a.length ≤ 2147483648) : laws_eqByteS a a = some true := by
  have := eqByteS_loop a hl a.length 0 (by omega)
  simp only [laws_eqByteS]
  rw [show (((a.length : Int) != (a.length : Int)) = false) by simp]
  simp only [cond_false]
  rw [show (0 : Int) = ((0 : Nat) : Int) from rfl, this]
  rfl

theorem szByteS_some (a : List Int) (n : Int) : ∃ r, laws_szByteS a n = some r := by
  simp only [laws_szByteS]
  cases decide (w64 (n - (a.length : Int)) < 0) <;> exact ⟨_, rfl⟩

theorem szCall_some (a : Call_) (n : Int) : ∃ r, laws_szCall a n = some r := by
  simp only [laws_szCall]
  cases decide (w64 (n - (a.2.1.length : Int)) < 0)
  · simp only [cond_false, Option.bind_some]
    cases decide (w64 (w64 (n - (a.2.1.length : Int)) - (a.2.2.1.length : Int)) < 0)
    · obtain ⟨r, hr⟩ := szByteS_some a.2.2.2.2.2.1 (w64 (w64 (n - (a.2.1.length : Int)) - (a.2.2.1.length : Int)))
      simp only [cond_false, hr, Option.bind_some]
      cases decide (r < 0) <;> exact ⟨_, rfl⟩
    · exact ⟨_, rfl⟩
  · exact ⟨_, rfl⟩

theorem toCall_eq (a : Call_) (hl : a.2.2.2.2.2.1.length ≤ 2147483648) : laws_toCall a = some a := by
  simp only [laws_toCall, toByteS_eq _ hl, Option.bind_some]

theorem callFault_eq (c : Call_) : ∃ r, spec_CallFault c = some r ∧ impl_CallFault c = some r := by
  simp only [spec_CallFault, impl_CallFault, impl_callFault, spec_l1In, spec_l10Wide, impl_within, Option.bind_some]
  generalize cond (decide (c.1 ≥ 1)) (decide (c.1 ≤ 11)) false = b1
  generalize cond (c.1 == 8) true (c.1 == 9) = b2
  generalize (c.2.2.1 == ([] : List UInt8)) = b3
  generalize cond (!(cond (c.1 == 3) true (c.1 == 4))) (c.2.2.2.1 != 0) false = b4
  generalize cond (!(cond (c.1 == 4) true (c.1 == 5))) (c.2.2.2.2.1 != 0) false = b5
  generalize cond (c.1 != 3) (decide ((c.2.2.2.2.2.1.length : Int) > 0)) false = b6
  generalize decide ((c.2.2.2.2.2.1.length : Int) > 40) = b7
  cases b1 <;> cases b2 <;> cases b3 <;> cases b4 <;> cases b5 <;> cases b6 <;> cases b7 <;> exact ⟨_, rfl, rfl⟩

theorem eqCall_self (a : Call_) (hl : a.2.2.2.2.2.1.length ≤ 2147483648) : laws_eqCall a a = some true := by
  simp [laws_eqCall, eqByteS_self _ hl]

theorem callFault_law (d : Call_) (hl : d.2.2.2.2.2.1.length ≤ 2147483648) : laws_FnExactCallFault d = some true := by
  obtain ⟨r, hr⟩ := szCall_some d 1048576
  obtain ⟨k, h1, h2⟩ := callFault_eq d
  have e : (d.1, d.2.1, d.2.2.1, d.2.2.2.1, d.2.2.2.2.1, d.2.2.2.2.2.1, d.2.2.2.2.2.2) = d := rfl
  simp only [laws_FnExactCallFault, hr, Option.bind_some, toCall_eq d hl, e, h1, h2, eqCall_self d hl, bne_self_eq_false, cond_false, Bool.not_true]
  cases decide (r < 0) <;> rfl

end Mf
