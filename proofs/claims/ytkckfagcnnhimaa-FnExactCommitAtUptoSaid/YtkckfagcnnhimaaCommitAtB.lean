/- The law over plain data: laws.FnExactCommitAt answers true. -/
import Derived.Test.YtkckfagcnnhimaaCommitAtA
namespace Mf
open Go
set_option linter.unusedVariables false
set_option linter.unusedSimpArgs false
set_option maxRecDepth 100000
theorem laws_szInt64S_ok (a : (List Int)) (n : Int) (hw : wt (.sl (.int .i64)) a ≤ 2147483648) : ∃ r, laws_szInt64S a n = some r := by
  simp only [laws_szInt64S]
  repeat' (first | with_reducible exact ex_some _ | with_reducible refine ex_bind (ex_some _) fun _ => ?_ | with_reducible apply ex_cond)
theorem laws_szStep_ok (a : Step_) (n : Int) (hw : wt tStep_ a ≤ 2147483648) : ∃ r, laws_szStep a n = some r := by
  simp only [laws_szStep]
  repeat' (first | with_reducible exact ex_some _ | with_reducible refine ex_bind (laws_szInt64S_ok _ _ (by first | omega | (simp only [wt_sl, wt_pair, wt_int, wt_bool, wt_str, wt_unit] at hw ⊢; omega))) fun _ => ?_ | with_reducible refine ex_bind (ex_some _) fun _ => ?_ | with_reducible apply ex_cond)
theorem laws_szStepS_ok (a : (List Step_)) (n : Int) (hw : wt (.sl tStep_) a ≤ 2147483648) : ∃ r, laws_szStepS a n = some r := by
  have hw2 := hw
  simp only [wt_sl, wt_pair, wt_int, wt_bool, wt_str, wt_unit] at hw2
  have hl : a.length ≤ 2147483648 := by have := len_sum (wt tStep_) (fun x => by simp only [wt_sl, wt_pair, wt_int, wt_bool, wt_str, wt_unit]; omega) a; omega
  have lp : ∀ k, ∃ r, laws_szStepS_l0 a (k, 0) = some r := fun k => by
    refine loop_ex (f := fun s => laws_szStepS_l0.B a s.1 s.2) (fun (i : Nat) (k : Int) => (k, (i : Int))) a.length (fun i k hi => ?_) (fun k => ?_) a.length 0 k (by omega)
    · have hm := mem_sum (wt tStep_) a i hi
      have hb : inB (i : Int) a.length = true := inB_ok (by omega) (by omega)
      simp only [laws_szStepS_l0.B, lt_dec hi, hb, cond_tt, toNat_cast, getD_lt _ hi, w64_succ (by omega : i < 4294967296)]
      repeat' (first | with_reducible exact ex_inr _ | (with_reducible refine .inl ⟨_, rfl, ?_⟩; exact ⟨_, rfl⟩) | with_reducible refine ex_bind2 (laws_szStep_ok _ _ (by first | omega | (simp only [wt_sl, wt_pair, wt_int, wt_bool, wt_str, wt_unit] at hm ⊢; omega))) fun _ => ?_ | with_reducible refine ex_bind2 (ex_some _) fun _ => ?_ | with_reducible apply ex_cond2)
    · refine ⟨.inr k, ?_⟩; simp only [laws_szStepS_l0.B, ge_dec (Nat.le_refl _), cond_ff]
  simp only [laws_szStepS]
  repeat' (first | with_reducible exact ex_some _ | with_reducible refine ex_bind (lp _) fun o => ?_ | with_reducible refine ex_bind (ex_some _) fun _ => ?_ | with_reducible apply ex_cond | (cases o <;> exact ⟨_, rfl⟩))
theorem laws_toInt64S_ok (a : (List Int)) (hw : wt (.sl (.int .i64)) a ≤ 2147483648) : laws_toInt64S a = some a := by
  have hw2 := hw
  simp only [wt_sl, wt_pair, wt_int, wt_bool, wt_str, wt_unit] at hw2
  have hl : a.length ≤ 2147483648 := by have := len_sum (wt (.int .i64)) (fun x => by simp only [wt_sl, wt_pair, wt_int, wt_bool, wt_str, wt_unit]; omega) a; omega
  have lp : laws_toInt64S_l0 a (0, List.replicate (a.length : Int).toNat 0) = some a := by
    refine to_list0 a (fun s => laws_toInt64S_l0.B a s.1 s.2) 0 (fun i hi out ho => ?_) (fun out ho => ?_)
    · have hm := mem_sum (wt (.int .i64)) a i hi
      have hb : inB (i : Int) a.length = true := inB_ok (by omega) (by omega)
      have hc : inB (i : Int) out.length = true := inB_ok (by omega) (by omega)
      simp only [laws_toInt64S_l0.B, lt_dec hi, hb, hc, cond_tt, toNat_cast, getD_lt _ hi, Option.bind_some, peta, w64_succ (by omega : i < 4294967296)]
    · simp only [laws_toInt64S_l0.B]; rw [show decide ((a.length : Int) < (a.length : Int)) = false by simp]; rfl
  simp only [laws_toInt64S]
  rw [show (decide ((0 : Int) ≤ (a.length : Int)) && (decide ((a.length : Int) ≤ (a.length : Int)) && decide ((a.length : Int) ≤ 2147483648))) = true by simp; omega]
  simp only [cond_tt, Option.bind_some, lp]
theorem laws_toStep_ok (a : Step_) (hw : wt tStep_ a ≤ 2147483648) : laws_toStep a = some a := by
  obtain ⟨x0, x1, x2, ⟨⟩⟩ := a
  simp only [wt_sl, wt_pair, wt_int, wt_bool, wt_str, wt_unit] at hw
  have h_x2_0 := laws_toInt64S_ok x2 (by simp only [wt_sl, wt_pair, wt_int, wt_bool, wt_str, wt_unit]; omega)
  simp only [laws_toStep, h_x2_0, Option.bind_some, peta]
theorem laws_toStepS_ok (a : (List Step_)) (hw : wt (.sl tStep_) a ≤ 2147483648) : laws_toStepS a = some a := by
  have hw2 := hw
  simp only [wt_sl, wt_pair, wt_int, wt_bool, wt_str, wt_unit] at hw2
  have hl : a.length ≤ 2147483648 := by have := len_sum (wt tStep_) (fun x => by simp only [wt_sl, wt_pair, wt_int, wt_bool, wt_str, wt_unit]; omega) a; omega
  have lp : laws_toStepS_l0 a (0, List.replicate (a.length : Int).toNat zStep_) = some a := by
    refine to_list0 a (fun s => laws_toStepS_l0.B a s.1 s.2) zStep_ (fun i hi out ho => ?_) (fun out ho => ?_)
    · have hm := mem_sum (wt tStep_) a i hi
      have hb : inB (i : Int) a.length = true := inB_ok (by omega) (by omega)
      have hc : inB (i : Int) out.length = true := inB_ok (by omega) (by omega)
      have h0 := laws_toStep_ok a[i] (by omega)
      simp only [laws_toStepS_l0.B, lt_dec hi, hb, hc, cond_tt, toNat_cast, getD_lt _ hi, h0, Option.bind_some, peta, w64_succ (by omega : i < 4294967296)]
    · simp only [laws_toStepS_l0.B]; rw [show decide ((a.length : Int) < (a.length : Int)) = false by simp]; rfl
  simp only [laws_toStepS]
  rw [show (decide ((0 : Int) ≤ (a.length : Int)) && (decide ((a.length : Int) ≤ (a.length : Int)) && decide ((a.length : Int) ≤ 2147483648))) = true by simp; omega]
  simp only [cond_tt, Option.bind_some, lp]
theorem laws_eqIntResult_ok (a : IntResult_) (hw : wt tIntResult_ a ≤ 2147483648) : laws_eqIntResult a a = some true := by
  obtain ⟨x0, x1, ⟨⟩⟩ := a
  simp only [wt_sl, wt_pair, wt_int, wt_bool, wt_str, wt_unit] at hw
  simp only [laws_eqIntResult, Option.bind_some, Bool.not_true, bne_self, beq_selfS, beq_selfB, cond_ff, cond_tt]
theorem laws_eqInt64S_ok (a : (List Int)) (hw : wt (.sl (.int .i64)) a ≤ 2147483648) : laws_eqInt64S a a = some true := by
  have hw2 := hw
  simp only [wt_sl, wt_pair, wt_int, wt_bool, wt_str, wt_unit] at hw2
  have hl : a.length ≤ 2147483648 := by have := len_sum (wt (.int .i64)) (fun x => by simp only [wt_sl, wt_pair, wt_int, wt_bool, wt_str, wt_unit]; omega) a; omega
  have lp : laws_eqInt64S_l0 a a 0 = some (.inr ()) := by
    refine eq_list0 (n := a.length) (fun s => laws_eqInt64S_l0.B a a s) (fun i hi => ?_) ?_
    · have hm := mem_sum (wt (.int .i64)) a i hi
      have hb : inB (i : Int) a.length = true := inB_ok (by omega) (by omega)
      simp only [laws_eqInt64S_l0.B, lt_dec hi, hb, cond_tt, cond_ff, toNat_cast, getD_lt _ hi, Option.bind_some, Bool.not_true, bne_self, beq_selfS, beq_selfB, w64_succ (by omega : i < 4294967296)]
    · simp only [laws_eqInt64S_l0.B, ge_dec (Nat.le_refl _), cond_ff]
  simp only [laws_eqInt64S, bne_self, cond_ff, lp, Option.bind_some, sel]
theorem laws_eqStep_ok (a : Step_) (hw : wt tStep_ a ≤ 2147483648) : laws_eqStep a a = some true := by
  obtain ⟨x0, x1, x2, ⟨⟩⟩ := a
  simp only [wt_sl, wt_pair, wt_int, wt_bool, wt_str, wt_unit] at hw
  have h_x2_0 := laws_eqInt64S_ok x2 (by simp only [wt_sl, wt_pair, wt_int, wt_bool, wt_str, wt_unit]; omega)
  simp only [laws_eqStep, h_x2_0, Option.bind_some, Bool.not_true, bne_self, beq_selfS, beq_selfB, cond_ff, cond_tt]
theorem laws_eqStepS_ok (a : (List Step_)) (hw : wt (.sl tStep_) a ≤ 2147483648) : laws_eqStepS a a = some true := by
  have hw2 := hw
  simp only [wt_sl, wt_pair, wt_int, wt_bool, wt_str, wt_unit] at hw2
  have hl : a.length ≤ 2147483648 := by have := len_sum (wt tStep_) (fun x => by simp only [wt_sl, wt_pair, wt_int, wt_bool, wt_str, wt_unit]; omega) a; omega
  have lp : laws_eqStepS_l0 a a 0 = some (.inr ()) := by
    refine eq_list0 (n := a.length) (fun s => laws_eqStepS_l0.B a a s) (fun i hi => ?_) ?_
    · have hm := mem_sum (wt tStep_) a i hi
      have hb : inB (i : Int) a.length = true := inB_ok (by omega) (by omega)
      have h0 := laws_eqStep_ok a[i] (by omega)
      simp only [laws_eqStepS_l0.B, lt_dec hi, hb, cond_tt, cond_ff, toNat_cast, getD_lt _ hi, h0, Option.bind_some, Bool.not_true, bne_self, beq_selfS, beq_selfB, w64_succ (by omega : i < 4294967296)]
    · simp only [laws_eqStepS_l0.B, ge_dec (Nat.le_refl _), cond_ff]
  simp only [laws_eqStepS, bne_self, cond_ff, lp, Option.bind_some, sel]
def inR (v lo hi : Int) : Bool := cond (decide (v ≥ lo)) (decide (v ≤ hi)) false
theorem spec_l1In_eq (v lo hi : Int) : spec_l1In v lo hi = some (inR v lo hi) := rfl
theorem impl_within_eq (v lo hi : Int) : impl_within v lo hi = some (inR v lo hi) := rfl
def wordsF (w : List Int) : Int := cond (decide ((w.length : Int) > 64)) 2 (cond (w.any fun x => !inR x 0 65535) 3 0)
theorem spec_l1Words_eq (w : List Int) : spec_l1Words w = some (wordsF w) := by
  simp only [spec_l1Words, wordsF]
  by_cases hl : w.length ≤ 64
  · have h : spec_l1Words_l0 w 0 = _ := loop_any w (fun x => !inR x 0 65535) (3 : Int) (fun i hi => by
      simp only [spec_l1Words_l0.B, lt_dec hi, inB_lt hi, cond_tt, toNat_cast, getD_lt _ hi, spec_l1In_eq, Option.bind_some, w64_succ (by omega : i < 4294967296)]) (by
      simp only [spec_l1Words_l0.B, ge_dec (Nat.le_refl _), cond_ff])
    rw [h, show decide ((w.length : Int) > 64) = false by simp; omega]
    cases w.any fun x => !inR x 0 65535 <;> rfl
  · rw [show decide ((w.length : Int) > 64) = true by simp; omega]; rfl
theorem slices_IndexFunc_int64_wordsFault_c1_l0_eq (w : List Int) (hl : w.length ≤ 2147483648) : slices_IndexFunc_int64_wordsFault_c1_l0 w () (w.length : Int) 0 = some (match idxF (fun x => !inR x 0 65535) 0 w with | some j => .inl (j : Int) | none => .inr ()) :=
  loop_idx w (f := fun s => slices_IndexFunc_int64_wordsFault_c1_l0.B w () (w.length : Int) s) (fun x => !inR x 0 65535) (fun i hi => by
    simp only [slices_IndexFunc_int64_wordsFault_c1_l0.B, lt_dec hi, inB_lt hi, cond_tt, toNat_cast, getD_lt _ hi, impl_wordsFault_c1, impl_within_eq, Option.bind_some, w64_succ (by omega : i < 4294967296)]) (by
    simp only [slices_IndexFunc_int64_wordsFault_c1_l0.B, ge_dec (Nat.le_refl _), cond_ff]) 0 (Nat.zero_le _)
theorem idx_contains {α : Type} (p : α → Bool) (l : List α) : ((some (match idxF p 0 l with | some j => .inl (j : Int) | none => .inr () : Int ⊕ Unit)).bind fun o => sel o (fun b => some b) (fun c => some (-1))).bind (fun r => some (decide (r ≥ 0))) = some (l.any p) := by
  cases h : idxF p 0 l with
  | none => rw [idxF_none.1 h]; rfl
  | some j =>
    have : l.any p = true := by
      cases ha : l.any p with
      | true => rfl
      | false => rw [idxF_none.2 ha] at h; cases h
    rw [this]
    simp [sel]
theorem impl_wordsFault_eq (w : List Int) : impl_wordsFault w = some (wordsF w) := by
  simp only [impl_wordsFault, wordsF, slices_ContainsFunc_int64_wordsFault_c1, slices_IndexFunc_int64_wordsFault_c1]
  by_cases hl : w.length ≤ 64
  · rw [show decide ((w.length : Int) > 64) = false by simp; omega, slices_IndexFunc_int64_wordsFault_c1_l0_eq w (by omega), idx_contains]
    simp only [cond_ff, Option.bind_some]
    cases w.any fun x => !inR x 0 65535 <;> rfl
  · rw [show decide ((w.length : Int) > 64) = true by simp; omega]; rfl
def stepF (x : Bool × Int × List Int × Unit) : Int := cond (cond x.1 (cond (x.2.1 != 0) true (decide ((x.2.2.1.length : Int) > 0))) false) 1 (cond (!inR x.2.1 0 46) 3 (wordsF x.2.2.1))
theorem spec_StepFault_eq (x : Bool × Int × List Int × Unit) : spec_StepFault x = some (stepF x) := by
  simp only [spec_StepFault, stepF, spec_l1In_eq, spec_l1Words_eq, Option.bind_some]; simp only [some_cond]
theorem impl_stepFault_eq (x : Bool × Int × List Int × Unit) : impl_stepFault x = some (stepF x) := by
  simp only [impl_stepFault, stepF, impl_within_eq, impl_wordsFault_eq, Option.bind_some]; simp only [some_cond]
def stepsF (l : List (Bool × Int × List Int × Unit)) : Int := cond (decide ((l.length : Int) > 120)) 2 (firstC stepF l)
theorem sel_first (n : Int) (g : Option Int) : ((some (cond (n != 0) (.inl n) (.inr ()) : Int ⊕ Unit)).bind fun o => sel o (fun b => some b) (fun _ => g)) = cond (n != 0) (some n) g := by
  cases (n != 0) <;> rfl
theorem first_zero (n : Int) : cond (n != 0) (some n) (some 0) = some n := by
  cases h : (n != 0)
  · have : n = 0 := by simpa using h
    rw [this]; rfl
  · rfl
theorem spec_l13Steps_eq (l : List (Bool × Int × List Int × Unit)) : spec_l13Steps l = some (stepsF l) := by
  simp only [spec_l13Steps, stepsF]
  by_cases hl : l.length ≤ 120
  · have h : spec_l13Steps_l0 l 0 = _ := loop_first l stepF (fun i hi => by
      simp only [spec_l13Steps_l0.B, lt_dec hi, inB_lt hi, cond_tt, toNat_cast, getD_lt _ hi, spec_StepFault_eq, Option.bind_some, w64_succ (by omega : i < 4294967296)]) (by
      simp only [spec_l13Steps_l0.B, ge_dec (Nat.le_refl _), cond_ff])
    rw [h, show decide ((l.length : Int) > 120) = false by simp; omega, cond_ff, cond_ff, sel_first, first_zero]
  · rw [show decide ((l.length : Int) > 120) = true by simp; omega]; rfl
theorem impl_stepsFault_eq (l : List (Bool × Int × List Int × Unit)) : impl_stepsFault l = some (stepsF l) := by
  simp only [impl_stepsFault, stepsF]
  by_cases hl : l.length ≤ 120
  · have h : impl_stepsFault_l0 l (l.length : Int) 0 = _ := loop_first l stepF (fun i hi => by
      simp only [impl_stepsFault_l0.B, lt_dec hi, inB_lt hi, cond_tt, toNat_cast, getD_lt _ hi, impl_stepFault_eq, Option.bind_some, w64_succ (by omega : i < 4294967296)]) (by
      simp only [impl_stepsFault_l0.B, ge_dec (Nat.le_refl _), cond_ff])
    rw [h, show decide ((l.length : Int) > 120) = false by simp; omega, cond_ff, cond_ff, sel_first, first_zero]
  · rw [show decide ((l.length : Int) > 120) = true by simp; omega]; rfl
theorem stepsF_len {l : List (Bool × Int × List Int × Unit)} (h : stepsF l = 0) : l.length ≤ 120 := by
  unfold stepsF at h
  cases h1 : decide ((l.length : Int) > 120) with
  | true => rw [h1] at h; cases h
  | false => simp at h1; omega
def isCommit (x : Bool × Int × List Int × Unit) : Bool := cond (!x.1) (cond (cond (inR x.2.1 1 16) ((x.2.2.1.length : Int) == 3) false) (x.2.2.1.getD 0 0 == 2) false) false
theorem impl_CommitAt_c1_eq (x : Bool × Int × List Int × Unit) : impl_CommitAt_c1 x = some (isCommit x) := by
  simp only [impl_CommitAt_c1, isCommit, impl_within_eq, Option.bind_some]
  cases x.1
  · simp only [Bool.not_false, cond_tt]
    cases inR x.2.1 1 16
    · rfl
    · simp only [cond_tt]
      cases h : ((x.2.2.1.length : Int) == 3)
      · rfl
      · simp only [beq_iff_eq] at h
        rw [show inB 0 x.2.2.1.length = true from inB_lt (i := 0) (by omega)]; rfl
  · rfl
/-- where the next flush stands, from n on -/
def endAt (l : List (Bool × Int × List Int × Unit)) (n : Nat) : Int := match idxF (fun x => x.1) n (l.drop n) with | some j => (j : Int) | none => (l.length : Int)
theorem spec_l13Commit_l1_eq (l : List (Bool × Int × List Int × Unit)) (hl : l.length ≤ 120) (n : Nat) (hn : n ≤ l.length) : spec_l13Commit_l1 l (n : Int) = some (match idxF (fun x => x.1) n (l.drop n) with | some j => .inl (j : Int) | none => .inr ()) :=
  loop_idx l (f := fun s => spec_l13Commit_l1.B l s) (fun x => x.1) (fun i hi => by
    simp only [spec_l13Commit_l1.B, lt_dec hi, inB_lt hi, cond_tt, toNat_cast, getD_lt _ hi, Option.bind_some, w64_succ (by omega : i < 4294967296)]) (by
    simp only [spec_l13Commit_l1.B, ge_dec (Nat.le_refl _), cond_ff]) n hn
def commitF (l : List (Bool × Int × List Int × Unit)) : Int := match idxF isCommit 0 l with | some j => endAt l j | none => -1
theorem spec_l13Commit_eq (l : List (Bool × Int × List Int × Unit)) (hl : l.length ≤ 120) : spec_l13Commit l = some (commitF l) := by
  have h : spec_l13Commit_l0 l 0 = some (foldE (τ := Unit) (fun i x _ => cond (isCommit x) (.inr (.inl (endAt l i))) (.inl ())) (fun _ => (.inr () : Int ⊕ Unit)) 0 l ()) := by
    refine loop_list0 (τ := Unit) l (f := fun s => spec_l13Commit_l0.B l s) (fun i _ => (i : Int)) _ _ (fun i hi t => ?_) (fun t => ?_) () rfl
    · simp only [spec_l13Commit_l0.B, lt_dec hi, inB_lt hi, cond_tt, toNat_cast, getD_lt _ hi, spec_l1In_eq, Option.bind_some, w64_succ (by omega : i < 4294967296), isCommit, spec_l13Commit_l1_eq l hl i (by omega)]
      generalize hx : l[i] = x
      cases x.1
      · simp only [Bool.not_false, cond_tt]
        cases inR x.2.1 1 16
        · rfl
        · simp only [cond_tt]
          cases h : ((x.2.2.1.length : Int) == 3)
          · rfl
          · simp only [beq_iff_eq] at h
            rw [show inB 0 x.2.2.1.length = true from inB_lt (i := 0) (by omega)]
            simp only [cond_tt]
            rw [show (0 : Int).toNat = 0 from rfl]
            cases x.2.2.1.getD 0 0 == 2
            · rfl
            · simp only [cond_tt, sel_inr, endAt]
              cases idxF (fun x : Bool × Int × List Int × Unit => x.1) i (l.drop i) <;> rfl
      · rfl
    · simp only [spec_l13Commit_l0.B, ge_dec (Nat.le_refl _), cond_ff]
  simp only [spec_l13Commit, h, Option.bind_some, commitF]
  have : ∀ (m : List (Bool × Int × List Int × Unit)) (i : Nat), sel (foldE (τ := Unit) (fun i x _ => cond (isCommit x) (.inr (.inl (endAt l i))) (.inl ())) (fun _ => (.inr () : Int ⊕ Unit)) i m ()) (fun b => some b) (fun c => some (-1)) = some (match idxF isCommit i m with | some j => endAt l j | none => -1) := by
    intro m
    induction m with
    | nil => intro i; rfl
    | cons x m ih =>
      intro i
      simp only [foldE, idxF]
      cases isCommit x
      · simp only [cond_ff, sel_inl]; exact ih (i + 1)
      · rfl
  exact this l 0
theorem impl_CommitAt_l0_eq (l : List (Bool × Int × List Int × Unit)) (hl : l.length ≤ 120) : ∀ (k n : Nat), n + k = l.length → impl_CommitAt_l0 l (0, 0, ()) (n : Int) = some (endAt l n)
  | 0, n, h => by
    have : n = l.length := by omega
    subst this
    refine loopL_done ?_
    simp only [impl_CommitAt_l0.B, ge_dec (Nat.le_refl _), cond_ff, cond_tt, Option.bind_some, endAt, List.drop_length, idxF]
  | k + 1, n, h => by
    have hn : n < l.length := by omega
    have hb : impl_CommitAt_l0.B l (0, 0, ()) (n : Int) = cond (!l[n].1) (some (.inl ((n + 1 : Nat) : Int))) (some (.inr (n : Int))) := by
      simp only [impl_CommitAt_l0.B, lt_dec hn, inB_lt hn, cond_tt, toNat_cast, getD_lt _ hn, Option.bind_some, w64_succ (by omega : n < 4294967296)]
    have he : endAt l n = cond l[n].1 (n : Int) (endAt l (n + 1)) := by
      unfold endAt
      rw [List.drop_eq_getElem_cons hn]
      simp only [idxF]
      cases l[n].1 <;> rfl
    unfold impl_CommitAt_l0
    rw [he]
    cases hx : l[n].1 with
    | true => rw [hx] at hb; exact loopL_done hb
    | false => rw [hx] at hb; rw [loopL_step hb]; exact impl_CommitAt_l0_eq l hl k (n + 1) (by omega)
theorem slices_IndexFunc_Step_CommitAt_c1_eq (l : List (Bool × Int × List Int × Unit)) (hl : l.length ≤ 120) : slices_IndexFunc_Step_CommitAt_c1 l () = some (match idxF isCommit 0 l with | some j => (j : Int) | none => -1) := by
  have h : slices_IndexFunc_Step_CommitAt_c1_l0 l () (l.length : Int) 0 = some (match idxF isCommit 0 l with | some j => .inl (j : Int) | none => .inr ()) :=
    loop_idx l (f := fun s => slices_IndexFunc_Step_CommitAt_c1_l0.B l () (l.length : Int) s) isCommit (fun i hi => by
      simp only [slices_IndexFunc_Step_CommitAt_c1_l0.B, lt_dec hi, inB_lt hi, cond_tt, toNat_cast, getD_lt _ hi, impl_CommitAt_c1_eq, Option.bind_some, w64_succ (by omega : i < 4294967296)]) (by
      simp only [slices_IndexFunc_Step_CommitAt_c1_l0.B, ge_dec (Nat.le_refl _), cond_ff]) 0 (Nat.zero_le _)
  simp only [slices_IndexFunc_Step_CommitAt_c1, h, Option.bind_some]
  cases idxF isCommit 0 l <;> rfl
theorem endAt_pos (l : List (Bool × Int × List Int × Unit)) (n : Nat) : 0 ≤ endAt l n := by
  unfold endAt; cases idxF (fun x : Bool × Int × List Int × Unit => x.1) n (l.drop n) <;> simp <;> omega
theorem CommitAt.main (l : List (Bool × Int × List Int × Unit)) (hf : Fit (.sl tStep_) l) (hw : wt (.sl tStep_) l ≤ 1048576) : ∃ r, spec_CommitAt l = some r ∧ impl_CommitAt l = some r ∧ wt tIntResult_ r ≤ 2147483648 := by
  simp only [spec_CommitAt, impl_CommitAt, spec_l13Steps_eq, impl_stepsFault_eq, Option.bind_some]
  cases h : (stepsF l != 0)
  · have hl : l.length ≤ 120 := stepsF_len (by simpa using h)
    simp only [cond_ff, spec_l13Commit_eq l hl, slices_IndexFunc_Step_CommitAt_c1_eq l hl, Option.bind_some, commitF]
    cases hi : idxF isCommit 0 l with
    | none => exact ⟨_, rfl, rfl, by simp only [wt_pair, wt_int, wt_unit]; omega⟩
    | some j =>
      obtain ⟨_, hj, _⟩ := idxF_some hi
      simp only [neg_dec (endAt_pos l j), cond_ff, neg_dec (by omega : (0 : Int) ≤ (j : Int)), impl_CommitAt_l0_eq l hl (l.length - j) j (by omega), Option.bind_some]
      exact ⟨_, rfl, rfl, by simp only [wt_pair, wt_int, wt_unit]; omega⟩
  · exact ⟨_, rfl, rfl, by simp only [wt_pair, wt_int, wt_unit]; omega⟩
theorem CommitAt.law (x : PT.Els (shs [(.sl tStep_)])) (hf : FitAll [(.sl tStep_)] x) (hw : wtAll [(.sl tStep_)] x ≤ 1048576) : laws_FnExactCommitAt x.1 = some true := by
  simp only [wtAll] at hw
  have hf0 : Fit (.sl tStep_) x.1 := hf.1
  have hw0 : wt (.sl tStep_) x.1 ≤ 1048576 := by omega
  clear hw hf
  generalize x.1 = a0 at hf0 hw0 ⊢
  obtain ⟨r, hr1, hr2, hr3⟩ := CommitAt.main a0 hf0 hw0
  have er := laws_eqIntResult_ok r hr3
  have to0 := laws_toStepS_ok a0 (by omega)
  have eq0 := laws_eqStepS_ok a0 (by omega)
  have hsz : ∀ g : Option Bool, g = some true → ∀ b : Bool, cond b (some true) g = some true := fun g h b => by cases b <;> first | rfl | exact h
  simp only [laws_FnExactCommitAt]
  repeat' (first | with_reducible refine hsz _ ?_ _ | (rw [Option.bind_some]) | (obtain ⟨q, hq⟩ := laws_szStepS_ok a0 _ (by omega); rw [hq, Option.bind_some]; clear hq))
  simp only [er, to0, eq0, hr1, hr2, peta, Option.bind_some, Bool.not_true, cond_ff, cond_tt, bne_self, beq_selfB, beq_selfS]
end Mf
