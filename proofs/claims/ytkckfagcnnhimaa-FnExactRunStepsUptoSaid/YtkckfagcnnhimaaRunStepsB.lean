/- The law over plain data: laws.FnExactRunSteps answers true. -/
import Derived.Test.YtkckfagcnnhimaaRunStepsA
noncomputable section
namespace Mf
open Go
set_option linter.unusedVariables false
set_option linter.unusedSimpArgs false
set_option maxRecDepth 100000
theorem laws_szInt64S_ok (a : (List Int)) (n : Int) (hw : wt (.sl (.int .i64)) a ≤ 2147483648) : ∃ r, laws_szInt64S a n = some r := by
  simp only [laws_szInt64S]
  repeat' (first | with_reducible exact ex_some _ | with_reducible refine ex_bind (ex_some _) fun _ => ?_ | with_reducible apply ex_cond)
theorem laws_szInt64SS_ok (a : (List (List Int))) (n : Int) (hw : wt (.sl (.sl (.int .i64))) a ≤ 2147483648) : ∃ r, laws_szInt64SS a n = some r := by
  have hw2 := hw
  simp only [wt_sl, wt_pair, wt_int, wt_bool, wt_str, wt_unit] at hw2
  have hl : a.length ≤ 2147483648 := by have := len_sum (wt (.sl (.int .i64))) (fun x => by simp only [wt_sl, wt_pair, wt_int, wt_bool, wt_str, wt_unit]; omega) a; omega
  have lp : ∀ k, ∃ r, laws_szInt64SS_l0 a (k, 0) = some r := fun k => by
    refine loop_ex (f := fun s => laws_szInt64SS_l0.B a s.1 s.2) (fun (i : Nat) (k : Int) => (k, (i : Int))) a.length (fun i k hi => ?_) (fun k => ?_) a.length 0 k (by omega)
    · have hm := mem_sum (wt (.sl (.int .i64))) a i hi
      have hb : inB (i : Int) a.length = true := inB_ok (by omega) (by omega)
      simp only [laws_szInt64SS_l0.B, lt_dec hi, hb, cond_tt, toNat_cast, getD_lt _ hi, w64_succ (by omega : i < 4294967296)]
      repeat' (first | with_reducible exact ex_inr _ | (with_reducible refine .inl ⟨_, rfl, ?_⟩; exact ⟨_, rfl⟩) | with_reducible refine ex_bind2 (laws_szInt64S_ok _ _ (by first | omega | (simp only [wt_sl, wt_pair, wt_int, wt_bool, wt_str, wt_unit] at hm ⊢; omega))) fun _ => ?_ | with_reducible refine ex_bind2 (ex_some _) fun _ => ?_ | with_reducible apply ex_cond2)
    · refine ⟨.inr k, ?_⟩; simp only [laws_szInt64SS_l0.B, ge_dec (Nat.le_refl _), cond_ff]
  simp only [laws_szInt64SS]
  repeat' (first | with_reducible exact ex_some _ | with_reducible refine ex_bind (lp _) fun o => ?_ | with_reducible refine ex_bind (ex_some _) fun _ => ?_ | with_reducible apply ex_cond | (cases o <;> exact ⟨_, rfl⟩))
theorem laws_szPut_ok (a : Put_) (n : Int) (hw : wt tPut_ a ≤ 2147483648) : ∃ r, laws_szPut a n = some r := by
  simp only [laws_szPut]
  repeat' (first | with_reducible exact ex_some _ | with_reducible refine ex_bind (laws_szInt64S_ok _ _ (by first | omega | (simp only [wt_sl, wt_pair, wt_int, wt_bool, wt_str, wt_unit] at hw ⊢; omega))) fun _ => ?_ | with_reducible refine ex_bind (ex_some _) fun _ => ?_ | with_reducible apply ex_cond)
theorem laws_szPutS_ok (a : (List Put_)) (n : Int) (hw : wt (.sl tPut_) a ≤ 2147483648) : ∃ r, laws_szPutS a n = some r := by
  have hw2 := hw
  simp only [wt_sl, wt_pair, wt_int, wt_bool, wt_str, wt_unit] at hw2
  have hl : a.length ≤ 2147483648 := by have := len_sum (wt tPut_) (fun x => by simp only [wt_sl, wt_pair, wt_int, wt_bool, wt_str, wt_unit]; omega) a; omega
  have lp : ∀ k, ∃ r, laws_szPutS_l0 a (k, 0) = some r := fun k => by
    refine loop_ex (f := fun s => laws_szPutS_l0.B a s.1 s.2) (fun (i : Nat) (k : Int) => (k, (i : Int))) a.length (fun i k hi => ?_) (fun k => ?_) a.length 0 k (by omega)
    · have hm := mem_sum (wt tPut_) a i hi
      have hb : inB (i : Int) a.length = true := inB_ok (by omega) (by omega)
      simp only [laws_szPutS_l0.B, lt_dec hi, hb, cond_tt, toNat_cast, getD_lt _ hi, w64_succ (by omega : i < 4294967296)]
      repeat' (first | with_reducible exact ex_inr _ | (with_reducible refine .inl ⟨_, rfl, ?_⟩; exact ⟨_, rfl⟩) | with_reducible refine ex_bind2 (laws_szPut_ok _ _ (by first | omega | (simp only [wt_sl, wt_pair, wt_int, wt_bool, wt_str, wt_unit] at hm ⊢; omega))) fun _ => ?_ | with_reducible refine ex_bind2 (ex_some _) fun _ => ?_ | with_reducible apply ex_cond2)
    · refine ⟨.inr k, ?_⟩; simp only [laws_szPutS_l0.B, ge_dec (Nat.le_refl _), cond_ff]
  simp only [laws_szPutS]
  repeat' (first | with_reducible exact ex_some _ | with_reducible refine ex_bind (lp _) fun o => ?_ | with_reducible refine ex_bind (ex_some _) fun _ => ?_ | with_reducible apply ex_cond | (cases o <;> exact ⟨_, rfl⟩))
theorem laws_szDisk_ok (a : Disk_) (n : Int) (hw : wt tDisk_ a ≤ 2147483648) : ∃ r, laws_szDisk a n = some r := by
  simp only [laws_szDisk]
  repeat' (first | with_reducible exact ex_some _ | with_reducible refine ex_bind (laws_szInt64SS_ok _ _ (by first | omega | (simp only [wt_sl, wt_pair, wt_int, wt_bool, wt_str, wt_unit] at hw ⊢; omega))) fun _ => ?_ | with_reducible refine ex_bind (laws_szPutS_ok _ _ (by first | omega | (simp only [wt_sl, wt_pair, wt_int, wt_bool, wt_str, wt_unit] at hw ⊢; omega))) fun _ => ?_ | with_reducible refine ex_bind (ex_some _) fun _ => ?_ | with_reducible apply ex_cond)
theorem laws_szStep_ok (a : Step_) (n : Int) (hw : wt tStep_ a ≤ 2147483648) : ∃ r, laws_szStep a n = some r := by
  simp only [laws_szStep]
  repeat' (first | with_reducible exact ex_some _ | with_reducible refine ex_bind (laws_szInt64S_ok _ _ (by first | omega | (simp only [wt_sl, wt_pair, wt_int, wt_bool, wt_str, wt_unit] at hw ⊢; omega))) fun _ => ?_ | with_reducible refine ex_bind (ex_some _) fun _ => ?_ | with_reducible apply ex_cond)
theorem laws_szStepS_ok (a : (List Step_)) (n : Int) (hw : wt (.sl tStep_) a ≤ 2147483648) : ∃ r, laws_szStepS a n = some r := by
  have hw2 := hw
  simp only [wt_sl, wt_pair, wt_int, wt_bool, wt_str, wt_unit] at hw2
  have hl : a.length ≤ 2147483648 := by have := len_sum (wt tStep_) (fun x => by simp only [wt_sl, wt_pair, wt_int, wt_bool, wt_str, wt_unit]; omega) a; omega
  have lp : ∀ k, ∃ r, laws_szStepS_l0 a (k, 0) = some r := fun k => by
    refine loop_ex (f := fun s => laws_szStepS_l0.B a s.1 s.2) (fun (i : Nat) (k : Int) => (k, (i : Int))) a.length (fun i k hi => ?_) (fun k => ?_) a.length 0 k (by omega)
    · have hm := mem_sum (wt tStep_) a i hi
      have hb : inB (i : Int) a.length = true := inB_ok (by omega) (by omega)
      simp only [laws_szStepS_l0.B, lt_dec hi, hb, cond_tt, toNat_cast, getD_lt _ hi, w64_succ (by omega : i < 4294967296)]
      repeat' (first | with_reducible exact ex_inr _ | (with_reducible refine .inl ⟨_, rfl, ?_⟩; exact ⟨_, rfl⟩) | with_reducible refine ex_bind2 (laws_szStep_ok _ _ (by first | omega | (simp only [wt_sl, wt_pair, wt_int, wt_bool, wt_str, wt_unit] at hm ⊢; omega))) fun _ => ?_ | with_reducible refine ex_bind2 (ex_some _) fun _ => ?_ | with_reducible apply ex_cond2)
    · refine ⟨.inr k, ?_⟩; simp only [laws_szStepS_l0.B, ge_dec (Nat.le_refl _), cond_ff]
  simp only [laws_szStepS]
  repeat' (first | with_reducible exact ex_some _ | with_reducible refine ex_bind (lp _) fun o => ?_ | with_reducible refine ex_bind (ex_some _) fun _ => ?_ | with_reducible apply ex_cond | (cases o <;> exact ⟨_, rfl⟩))
theorem laws_toInt64S_ok (a : (List Int)) (hw : wt (.sl (.int .i64)) a ≤ 2147483648) : laws_toInt64S a = some a := by
  have hw2 := hw
  simp only [wt_sl, wt_pair, wt_int, wt_bool, wt_str, wt_unit] at hw2
  have hl : a.length ≤ 2147483648 := by have := len_sum (wt (.int .i64)) (fun x => by simp only [wt_sl, wt_pair, wt_int, wt_bool, wt_str, wt_unit]; omega) a; omega
  have lp : laws_toInt64S_l0 a (0, List.replicate (a.length : Int).toNat 0) = some a := by
    refine to_list0 a (fun s => laws_toInt64S_l0.B a s.1 s.2) 0 (fun i hi out ho => ?_) (fun out ho => ?_)
    · have hm := mem_sum (wt (.int .i64)) a i hi
      have hb : inB (i : Int) a.length = true := inB_ok (by omega) (by omega)
      have hc : inB (i : Int) out.length = true := inB_ok (by omega) (by omega)
      simp only [laws_toInt64S_l0.B, lt_dec hi, hb, hc, cond_tt, toNat_cast, getD_lt _ hi, Option.bind_some, peta, w64_succ (by omega : i < 4294967296)]
    · simp only [laws_toInt64S_l0.B]; rw [show decide ((a.length : Int) < (a.length : Int)) = false by simp]; rfl
  simp only [laws_toInt64S]
  rw [show (decide ((0 : Int) ≤ (a.length : Int)) && (decide ((a.length : Int) ≤ (a.length : Int)) && decide ((a.length : Int) ≤ 2147483648))) = true by simp; omega]
  simp only [cond_tt, Option.bind_some, lp]
theorem laws_toInt64SS_ok (a : (List (List Int))) (hw : wt (.sl (.sl (.int .i64))) a ≤ 2147483648) : laws_toInt64SS a = some a := by
  have hw2 := hw
  simp only [wt_sl, wt_pair, wt_int, wt_bool, wt_str, wt_unit] at hw2
  have hl : a.length ≤ 2147483648 := by have := len_sum (wt (.sl (.int .i64))) (fun x => by simp only [wt_sl, wt_pair, wt_int, wt_bool, wt_str, wt_unit]; omega) a; omega
  have lp : laws_toInt64SS_l0 a (0, List.replicate (a.length : Int).toNat ([] : List Int)) = some a := by
    refine to_list0 a (fun s => laws_toInt64SS_l0.B a s.1 s.2) [] (fun i hi out ho => ?_) (fun out ho => ?_)
    · have hm := mem_sum (wt (.sl (.int .i64))) a i hi
      have hb : inB (i : Int) a.length = true := inB_ok (by omega) (by omega)
      have hc : inB (i : Int) out.length = true := inB_ok (by omega) (by omega)
      have h0 := laws_toInt64S_ok a[i] (by omega)
      simp only [laws_toInt64SS_l0.B, lt_dec hi, hb, hc, cond_tt, toNat_cast, getD_lt _ hi, h0, Option.bind_some, peta, w64_succ (by omega : i < 4294967296)]
    · simp only [laws_toInt64SS_l0.B]; rw [show decide ((a.length : Int) < (a.length : Int)) = false by simp]; rfl
  simp only [laws_toInt64SS]
  rw [show (decide ((0 : Int) ≤ (a.length : Int)) && (decide ((a.length : Int) ≤ (a.length : Int)) && decide ((a.length : Int) ≤ 2147483648))) = true by simp; omega]
  simp only [cond_tt, Option.bind_some, lp]
theorem laws_toPut_ok (a : Put_) (hw : wt tPut_ a ≤ 2147483648) : laws_toPut a = some a := by
  obtain ⟨x0, x1, ⟨⟩⟩ := a
  simp only [wt_sl, wt_pair, wt_int, wt_bool, wt_str, wt_unit] at hw
  have h_x1_0 := laws_toInt64S_ok x1 (by simp only [wt_sl, wt_pair, wt_int, wt_bool, wt_str, wt_unit]; omega)
  simp only [laws_toPut, h_x1_0, Option.bind_some, peta]
theorem laws_toPutS_ok (a : (List Put_)) (hw : wt (.sl tPut_) a ≤ 2147483648) : laws_toPutS a = some a := by
  have hw2 := hw
  simp only [wt_sl, wt_pair, wt_int, wt_bool, wt_str, wt_unit] at hw2
  have hl : a.length ≤ 2147483648 := by have := len_sum (wt tPut_) (fun x => by simp only [wt_sl, wt_pair, wt_int, wt_bool, wt_str, wt_unit]; omega) a; omega
  have lp : laws_toPutS_l0 a (0, List.replicate (a.length : Int).toNat zPut_) = some a := by
    refine to_list0 a (fun s => laws_toPutS_l0.B a s.1 s.2) zPut_ (fun i hi out ho => ?_) (fun out ho => ?_)
    · have hm := mem_sum (wt tPut_) a i hi
      have hb : inB (i : Int) a.length = true := inB_ok (by omega) (by omega)
      have hc : inB (i : Int) out.length = true := inB_ok (by omega) (by omega)
      have h0 := laws_toPut_ok a[i] (by omega)
      simp only [laws_toPutS_l0.B, lt_dec hi, hb, hc, cond_tt, toNat_cast, getD_lt _ hi, h0, Option.bind_some, peta, w64_succ (by omega : i < 4294967296)]
    · simp only [laws_toPutS_l0.B]; rw [show decide ((a.length : Int) < (a.length : Int)) = false by simp]; rfl
  simp only [laws_toPutS]
  rw [show (decide ((0 : Int) ≤ (a.length : Int)) && (decide ((a.length : Int) ≤ (a.length : Int)) && decide ((a.length : Int) ≤ 2147483648))) = true by simp; omega]
  simp only [cond_tt, Option.bind_some, lp]
theorem laws_toDisk_ok (a : Disk_) (hw : wt tDisk_ a ≤ 2147483648) : laws_toDisk a = some a := by
  obtain ⟨x0, x1, ⟨⟩⟩ := a
  simp only [wt_sl, wt_pair, wt_int, wt_bool, wt_str, wt_unit] at hw
  have h_x0_0 := laws_toInt64SS_ok x0 (by simp only [wt_sl, wt_pair, wt_int, wt_bool, wt_str, wt_unit]; omega)
  have h_x1_1 := laws_toPutS_ok x1 (by simp only [wt_sl, wt_pair, wt_int, wt_bool, wt_str, wt_unit]; omega)
  simp only [laws_toDisk, h_x0_0, h_x1_1, Option.bind_some, peta]
theorem laws_toStep_ok (a : Step_) (hw : wt tStep_ a ≤ 2147483648) : laws_toStep a = some a := by
  obtain ⟨x0, x1, x2, ⟨⟩⟩ := a
  simp only [wt_sl, wt_pair, wt_int, wt_bool, wt_str, wt_unit] at hw
  have h_x2_0 := laws_toInt64S_ok x2 (by simp only [wt_sl, wt_pair, wt_int, wt_bool, wt_str, wt_unit]; omega)
  simp only [laws_toStep, h_x2_0, Option.bind_some, peta]
theorem laws_toStepS_ok (a : (List Step_)) (hw : wt (.sl tStep_) a ≤ 2147483648) : laws_toStepS a = some a := by
  have hw2 := hw
  simp only [wt_sl, wt_pair, wt_int, wt_bool, wt_str, wt_unit] at hw2
  have hl : a.length ≤ 2147483648 := by have := len_sum (wt tStep_) (fun x => by simp only [wt_sl, wt_pair, wt_int, wt_bool, wt_str, wt_unit]; omega) a; omega
  have lp : laws_toStepS_l0 a (0, List.replicate (a.length : Int).toNat zStep_) = some a := by
    refine to_list0 a (fun s => laws_toStepS_l0.B a s.1 s.2) zStep_ (fun i hi out ho => ?_) (fun out ho => ?_)
    · have hm := mem_sum (wt tStep_) a i hi
      have hb : inB (i : Int) a.length = true := inB_ok (by omega) (by omega)
      have hc : inB (i : Int) out.length = true := inB_ok (by omega) (by omega)
      have h0 := laws_toStep_ok a[i] (by omega)
      simp only [laws_toStepS_l0.B, lt_dec hi, hb, hc, cond_tt, toNat_cast, getD_lt _ hi, h0, Option.bind_some, peta, w64_succ (by omega : i < 4294967296)]
    · simp only [laws_toStepS_l0.B]; rw [show decide ((a.length : Int) < (a.length : Int)) = false by simp]; rfl
  simp only [laws_toStepS]
  rw [show (decide ((0 : Int) ≤ (a.length : Int)) && (decide ((a.length : Int) ≤ (a.length : Int)) && decide ((a.length : Int) ≤ 2147483648))) = true by simp; omega]
  simp only [cond_tt, Option.bind_some, lp]
theorem laws_eqInt64S_ok (a : (List Int)) (hw : wt (.sl (.int .i64)) a ≤ 2147483648) : laws_eqInt64S a a = some true := by
  have hw2 := hw
  simp only [wt_sl, wt_pair, wt_int, wt_bool, wt_str, wt_unit] at hw2
  have hl : a.length ≤ 2147483648 := by have := len_sum (wt (.int .i64)) (fun x => by simp only [wt_sl, wt_pair, wt_int, wt_bool, wt_str, wt_unit]; omega) a; omega
  have lp : laws_eqInt64S_l0 a a 0 = some (.inr ()) := by
    refine eq_list0 (n := a.length) (fun s => laws_eqInt64S_l0.B a a s) (fun i hi => ?_) ?_
    · have hm := mem_sum (wt (.int .i64)) a i hi
      have hb : inB (i : Int) a.length = true := inB_ok (by omega) (by omega)
      simp only [laws_eqInt64S_l0.B, lt_dec hi, hb, cond_tt, cond_ff, toNat_cast, getD_lt _ hi, Option.bind_some, Bool.not_true, bne_self, beq_selfS, beq_selfB, w64_succ (by omega : i < 4294967296)]
    · simp only [laws_eqInt64S_l0.B, ge_dec (Nat.le_refl _), cond_ff]
  simp only [laws_eqInt64S, bne_self, cond_ff, lp, Option.bind_some, sel]
theorem laws_eqInt64SS_ok (a : (List (List Int))) (hw : wt (.sl (.sl (.int .i64))) a ≤ 2147483648) : laws_eqInt64SS a a = some true := by
  have hw2 := hw
  simp only [wt_sl, wt_pair, wt_int, wt_bool, wt_str, wt_unit] at hw2
  have hl : a.length ≤ 2147483648 := by have := len_sum (wt (.sl (.int .i64))) (fun x => by simp only [wt_sl, wt_pair, wt_int, wt_bool, wt_str, wt_unit]; omega) a; omega
  have lp : laws_eqInt64SS_l0 a a 0 = some (.inr ()) := by
    refine eq_list0 (n := a.length) (fun s => laws_eqInt64SS_l0.B a a s) (fun i hi => ?_) ?_
    · have hm := mem_sum (wt (.sl (.int .i64))) a i hi
      have hb : inB (i : Int) a.length = true := inB_ok (by omega) (by omega)
      have h0 := laws_eqInt64S_ok a[i] (by omega)
      simp only [laws_eqInt64SS_l0.B, lt_dec hi, hb, cond_tt, cond_ff, toNat_cast, getD_lt _ hi, h0, Option.bind_some, Bool.not_true, bne_self, beq_selfS, beq_selfB, w64_succ (by omega : i < 4294967296)]
    · simp only [laws_eqInt64SS_l0.B, ge_dec (Nat.le_refl _), cond_ff]
  simp only [laws_eqInt64SS, bne_self, cond_ff, lp, Option.bind_some, sel]
theorem laws_eqPut_ok (a : Put_) (hw : wt tPut_ a ≤ 2147483648) : laws_eqPut a a = some true := by
  obtain ⟨x0, x1, ⟨⟩⟩ := a
  simp only [wt_sl, wt_pair, wt_int, wt_bool, wt_str, wt_unit] at hw
  have h_x1_0 := laws_eqInt64S_ok x1 (by simp only [wt_sl, wt_pair, wt_int, wt_bool, wt_str, wt_unit]; omega)
  simp only [laws_eqPut, h_x1_0, Option.bind_some, Bool.not_true, bne_self, beq_selfS, beq_selfB, cond_ff, cond_tt]
theorem laws_eqPutS_ok (a : (List Put_)) (hw : wt (.sl tPut_) a ≤ 2147483648) : laws_eqPutS a a = some true := by
  have hw2 := hw
  simp only [wt_sl, wt_pair, wt_int, wt_bool, wt_str, wt_unit] at hw2
  have hl : a.length ≤ 2147483648 := by have := len_sum (wt tPut_) (fun x => by simp only [wt_sl, wt_pair, wt_int, wt_bool, wt_str, wt_unit]; omega) a; omega
  have lp : laws_eqPutS_l0 a a 0 = some (.inr ()) := by
    refine eq_list0 (n := a.length) (fun s => laws_eqPutS_l0.B a a s) (fun i hi => ?_) ?_
    · have hm := mem_sum (wt tPut_) a i hi
      have hb : inB (i : Int) a.length = true := inB_ok (by omega) (by omega)
      have h0 := laws_eqPut_ok a[i] (by omega)
      simp only [laws_eqPutS_l0.B, lt_dec hi, hb, cond_tt, cond_ff, toNat_cast, getD_lt _ hi, h0, Option.bind_some, Bool.not_true, bne_self, beq_selfS, beq_selfB, w64_succ (by omega : i < 4294967296)]
    · simp only [laws_eqPutS_l0.B, ge_dec (Nat.le_refl _), cond_ff]
  simp only [laws_eqPutS, bne_self, cond_ff, lp, Option.bind_some, sel]
theorem laws_eqDisk_ok (a : Disk_) (hw : wt tDisk_ a ≤ 2147483648) : laws_eqDisk a a = some true := by
  obtain ⟨x0, x1, ⟨⟩⟩ := a
  simp only [wt_sl, wt_pair, wt_int, wt_bool, wt_str, wt_unit] at hw
  have h_x0_0 := laws_eqInt64SS_ok x0 (by simp only [wt_sl, wt_pair, wt_int, wt_bool, wt_str, wt_unit]; omega)
  have h_x1_1 := laws_eqPutS_ok x1 (by simp only [wt_sl, wt_pair, wt_int, wt_bool, wt_str, wt_unit]; omega)
  simp only [laws_eqDisk, h_x0_0, h_x1_1, Option.bind_some, Bool.not_true, bne_self, beq_selfS, beq_selfB, cond_ff, cond_tt]
theorem laws_eqDiskResult_ok (a : DiskResult_) (hw : wt tDiskResult_ a ≤ 2147483648) : laws_eqDiskResult a a = some true := by
  obtain ⟨x0, x1, ⟨⟩⟩ := a
  simp only [wt_sl, wt_pair, wt_int, wt_bool, wt_str, wt_unit] at hw
  have h_x1_0 := laws_eqDisk_ok x1 (by simp only [wt_sl, wt_pair, wt_int, wt_bool, wt_str, wt_unit]; omega)
  simp only [laws_eqDiskResult, h_x1_0, Option.bind_some, Bool.not_true, bne_self, beq_selfS, beq_selfB, cond_ff, cond_tt]
theorem laws_eqStep_ok (a : Step_) (hw : wt tStep_ a ≤ 2147483648) : laws_eqStep a a = some true := by
  obtain ⟨x0, x1, x2, ⟨⟩⟩ := a
  simp only [wt_sl, wt_pair, wt_int, wt_bool, wt_str, wt_unit] at hw
  have h_x2_0 := laws_eqInt64S_ok x2 (by simp only [wt_sl, wt_pair, wt_int, wt_bool, wt_str, wt_unit]; omega)
  simp only [laws_eqStep, h_x2_0, Option.bind_some, Bool.not_true, bne_self, beq_selfS, beq_selfB, cond_ff, cond_tt]
theorem laws_eqStepS_ok (a : (List Step_)) (hw : wt (.sl tStep_) a ≤ 2147483648) : laws_eqStepS a a = some true := by
  have hw2 := hw
  simp only [wt_sl, wt_pair, wt_int, wt_bool, wt_str, wt_unit] at hw2
  have hl : a.length ≤ 2147483648 := by have := len_sum (wt tStep_) (fun x => by simp only [wt_sl, wt_pair, wt_int, wt_bool, wt_str, wt_unit]; omega) a; omega
  have lp : laws_eqStepS_l0 a a 0 = some (.inr ()) := by
    refine eq_list0 (n := a.length) (fun s => laws_eqStepS_l0.B a a s) (fun i hi => ?_) ?_
    · have hm := mem_sum (wt tStep_) a i hi
      have hb : inB (i : Int) a.length = true := inB_ok (by omega) (by omega)
      have h0 := laws_eqStep_ok a[i] (by omega)
      simp only [laws_eqStepS_l0.B, lt_dec hi, hb, cond_tt, cond_ff, toNat_cast, getD_lt _ hi, h0, Option.bind_some, Bool.not_true, bne_self, beq_selfS, beq_selfB, w64_succ (by omega : i < 4294967296)]
    · simp only [laws_eqStepS_l0.B, ge_dec (Nat.le_refl _), cond_ff]
  simp only [laws_eqStepS, bne_self, cond_ff, lp, Option.bind_some, sel]
theorem laws_markInt64S_ok (a : (List Int)) (k : Int) (hk : 0 ≤ k) (hw : k + wt (.sl (.int .i64)) a ≤ 4611686018427387904) (hz : wt (.sl (.int .i64)) a ≤ 2147483648) : MH laws_markInt64S laws_heldInt64S (wt (.sl (.int .i64)) a) a k := by
  simp only [wt_sl, wt_pair, wt_int, wt_bool, wt_str, wt_unit] at hw hz
  have hl : a.length ≤ 2147483648 := by have := len_sum (wt (.int .i64)) (fun x => by simp only [wt_sl, wt_pair, wt_int, wt_bool, wt_str, wt_unit]; omega) a; omega
  have hs : ∀ (k : Int) (i : Nat) (a : (List Int)) (h : i < a.length), a.length ≤ 2147483648 → 0 ≤ k → k + wt (.int .i64) a[i] ≤ 4611686018427387904 → wt (.int .i64) a[i] ≤ 2147483648 → ∃ k2 x2, k ≤ k2 ∧ k2 ≤ k + wt (.int .i64) a[i] ∧ laws_markInt64S_l0.B k (i : Int) a = some (.inl (k2, ((i + 1 : Nat) : Int), a.set i x2)) ∧ ∀ b : (List Int), b.length = a.length → b[i]? = some x2 → laws_heldInt64S_l0.B b k (i : Int) = some (.inl (k2, ((i + 1 : Nat) : Int))) := by
    clear hw hz hl hk k a
    intro k i a hi hl hk hw hz
    have hb : inB (i : Int) a.length = true := inB_ok (by omega) (by omega)
    simp only [wt_sl, wt_pair, wt_int, wt_bool, wt_str, wt_unit] at hw hz
    have w1 : w64 (k + 1) = k + 1 := w64s (by omega) (by omega)
    refine ⟨k + 1, k, by omega, by simp only [wt_sl, wt_pair, wt_int, wt_bool, wt_str, wt_unit]; omega, ?_, fun b hlb hx => ?_⟩
    · simp only [laws_markInt64S_l0.B, lt_dec hi, hb, cond_tt, toNat_cast, getD_lt _ hi, Option.bind_some, w1, w64_succ (by omega : i < 4294967296), List.set_set, List.length_set, getD_set _ _ hi, show (!((3 : Int) == 0)) = true from rfl]
    · have hc : inB (i : Int) b.length = true := inB_ok (by omega) (by omega)
      have hd : decide ((i : Int) < (b.length : Int)) = true := lt_dec (by omega)
      simp only [laws_heldInt64S_l0.B, hd, hc, cond_tt, cond_ff, toNat_cast, getD_of _ hx, Option.bind_some, bne_self, beq_selfS, beq_selfB, Bool.not_true, w1, w64_succ (by omega : i < 4294967296), List.set_set, List.length_set, getD_set _ _ hi, show (!((3 : Int) == 0)) = true from rfl]
  obtain ⟨k2, a2, e1, e2, e3, e4⟩ := mark_list0 (wt (.int .i64)) 4611686018427387904 (fun s => laws_markInt64S_l0.B s.1 s.2.1 s.2.2) (fun b s => laws_heldInt64S_l0.B b s.1 s.2) (fun k a => by simp only [laws_markInt64S_l0.B, ge_dec (Nat.le_refl _), cond_ff]) (fun k a => by simp only [laws_heldInt64S_l0.B, ge_dec (Nat.le_refl _), cond_ff]) hs k a hl hk (by omega) (by omega)
  refine ⟨k2, a2, e1, by simp only [wt_sl, wt_pair, wt_int, wt_bool, wt_str, wt_unit]; omega, ?_, ?_⟩
  · have : laws_markInt64S_l0 (k, 0, a) = some (k2, a2) := e3
    simp only [laws_markInt64S, this, Option.bind_some]
  · have : laws_heldInt64S_l0 a2 (k, 0) = some (.inr k2) := e4
    simp only [laws_heldInt64S, this, Option.bind_some, sel]
theorem laws_markStepS_ok (a : (List Step_)) (k : Int) (hk : 0 ≤ k) (hw : k + wt (.sl tStep_) a ≤ 4611686018427387904) (hz : wt (.sl tStep_) a ≤ 2147483648) : MK laws_markStepS (wt (.sl tStep_) a) a k := by
  simp only [wt_sl, wt_pair, wt_int, wt_bool, wt_str, wt_unit] at hw hz
  have hl : a.length ≤ 2147483648 := by have := len_sum (wt tStep_) (fun x => by simp only [wt_sl, wt_pair, wt_int, wt_bool, wt_str, wt_unit]; omega) a; omega
  have hs : ∀ (k : Int) (i : Nat) (a : (List Step_)) (h : i < a.length), a.length ≤ 2147483648 → 0 ≤ k → k + wt tStep_ a[i] ≤ 4611686018427387904 → wt tStep_ a[i] ≤ 2147483648 → ∃ k2 x2, k ≤ k2 ∧ k2 ≤ k + wt tStep_ a[i] ∧ laws_markStepS_l0.B k (i : Int) a = some (.inl (k2, ((i + 1 : Nat) : Int), a.set i x2)) := by
    clear hw hz hl hk k a
    intro k i a hi hl hk hw hz
    have hb : inB (i : Int) a.length = true := inB_ok (by omega) (by omega)
    simp only [wt_sl, wt_pair, wt_int, wt_bool, wt_str, wt_unit] at hw hz
    have w1 : w64 (k + 1) = k + 1 := w64s (by omega) (by omega)
    have w2 : w64 (k + 1 + 1) = k + 1 + 1 := w64s (by omega) (by omega)
    obtain ⟨k3, y3, l3, u3, w3⟩ := MH.mk (laws_markInt64S_ok a[i].2.2.1 (k + 1 + 1) (by omega) (by simp only [wt_sl, wt_pair, wt_int, wt_bool, wt_str, wt_unit]; omega) (by simp only [wt_sl, wt_pair, wt_int, wt_bool, wt_str, wt_unit]; omega))
    simp only [wt_sl, wt_pair, wt_int, wt_bool, wt_str, wt_unit] at u3
    refine ⟨k3, (((k).tmod 3 == 0), k + 1, y3, ()), by omega, by simp only [wt_sl, wt_pair, wt_int, wt_bool, wt_str, wt_unit]; omega, ?_⟩
    simp only [laws_markStepS_l0.B, lt_dec hi, hb, cond_tt, toNat_cast, getD_lt _ hi, Option.bind_some, w1, w2, w3, w64_succ (by omega : i < 4294967296), List.set_set, List.length_set, getD_set _ _ hi, show (!((3 : Int) == 0)) = true from rfl]
  obtain ⟨k2, a2, e1, e2, e3⟩ := mark_only0 (wt tStep_) 4611686018427387904 (fun s => laws_markStepS_l0.B s.1 s.2.1 s.2.2) (fun k a => by simp only [laws_markStepS_l0.B, ge_dec (Nat.le_refl _), cond_ff]) hs k a hl hk (by omega) (by omega)
  refine ⟨k2, a2, e1, by simp only [wt_sl, wt_pair, wt_int, wt_bool, wt_str, wt_unit]; omega, ?_⟩
  have : laws_markStepS_l0 (k, 0, a) = some (k2, a2) := e3
  simp only [laws_markStepS, this, Option.bind_some]
theorem laws_markInt64SS_ok (a : (List (List Int))) (k : Int) (hk : 0 ≤ k) (hw : k + wt (.sl (.sl (.int .i64))) a ≤ 4611686018427387904) (hz : wt (.sl (.sl (.int .i64))) a ≤ 2147483648) : MH laws_markInt64SS laws_heldInt64SS (wt (.sl (.sl (.int .i64))) a) a k := by
  simp only [wt_sl, wt_pair, wt_int, wt_bool, wt_str, wt_unit] at hw hz
  have hl : a.length ≤ 2147483648 := by have := len_sum (wt (.sl (.int .i64))) (fun x => by simp only [wt_sl, wt_pair, wt_int, wt_bool, wt_str, wt_unit]; omega) a; omega
  have hs : ∀ (k : Int) (i : Nat) (a : (List (List Int))) (h : i < a.length), a.length ≤ 2147483648 → 0 ≤ k → k + wt (.sl (.int .i64)) a[i] ≤ 4611686018427387904 → wt (.sl (.int .i64)) a[i] ≤ 2147483648 → ∃ k2 x2, k ≤ k2 ∧ k2 ≤ k + wt (.sl (.int .i64)) a[i] ∧ laws_markInt64SS_l0.B k (i : Int) a = some (.inl (k2, ((i + 1 : Nat) : Int), a.set i x2)) ∧ ∀ b : (List (List Int)), b.length = a.length → b[i]? = some x2 → laws_heldInt64SS_l0.B b k (i : Int) = some (.inl (k2, ((i + 1 : Nat) : Int))) := by
    clear hw hz hl hk k a
    intro k i a hi hl hk hw hz
    have hb : inB (i : Int) a.length = true := inB_ok (by omega) (by omega)
    simp only [wt_sl, wt_pair, wt_int, wt_bool, wt_str, wt_unit] at hw hz
    obtain ⟨k1, y1, l1, u1, w1, v1⟩ := laws_markInt64S_ok a[i] (k) (by omega) (by simp only [wt_sl, wt_pair, wt_int, wt_bool, wt_str, wt_unit]; omega) (by simp only [wt_sl, wt_pair, wt_int, wt_bool, wt_str, wt_unit]; omega)
    simp only [wt_sl, wt_pair, wt_int, wt_bool, wt_str, wt_unit] at u1
    refine ⟨k1, y1, by omega, by simp only [wt_sl, wt_pair, wt_int, wt_bool, wt_str, wt_unit]; omega, ?_, fun b hlb hx => ?_⟩
    · simp only [laws_markInt64SS_l0.B, lt_dec hi, hb, cond_tt, toNat_cast, getD_lt _ hi, Option.bind_some, v1, w1, w64_succ (by omega : i < 4294967296), List.set_set, List.length_set, getD_set _ _ hi, show (!((3 : Int) == 0)) = true from rfl]
    · have hc : inB (i : Int) b.length = true := inB_ok (by omega) (by omega)
      have hd : decide ((i : Int) < (b.length : Int)) = true := lt_dec (by omega)
      simp only [laws_heldInt64SS_l0.B, hd, hc, cond_tt, cond_ff, toNat_cast, getD_of _ hx, Option.bind_some, bne_self, beq_selfS, beq_selfB, Bool.not_true, v1, w1, neg_dec (by omega : 0 ≤ k1), w64_succ (by omega : i < 4294967296), List.set_set, List.length_set, getD_set _ _ hi, show (!((3 : Int) == 0)) = true from rfl]
  obtain ⟨k2, a2, e1, e2, e3, e4⟩ := mark_list0 (wt (.sl (.int .i64))) 4611686018427387904 (fun s => laws_markInt64SS_l0.B s.1 s.2.1 s.2.2) (fun b s => laws_heldInt64SS_l0.B b s.1 s.2) (fun k a => by simp only [laws_markInt64SS_l0.B, ge_dec (Nat.le_refl _), cond_ff]) (fun k a => by simp only [laws_heldInt64SS_l0.B, ge_dec (Nat.le_refl _), cond_ff]) hs k a hl hk (by omega) (by omega)
  refine ⟨k2, a2, e1, by simp only [wt_sl, wt_pair, wt_int, wt_bool, wt_str, wt_unit]; omega, ?_, ?_⟩
  · have : laws_markInt64SS_l0 (k, 0, a) = some (k2, a2) := e3
    simp only [laws_markInt64SS, this, Option.bind_some]
  · have : laws_heldInt64SS_l0 a2 (k, 0) = some (.inr k2) := e4
    simp only [laws_heldInt64SS, this, Option.bind_some, sel]
theorem laws_markPutS_ok (a : (List Put_)) (k : Int) (hk : 0 ≤ k) (hw : k + wt (.sl tPut_) a ≤ 4611686018427387904) (hz : wt (.sl tPut_) a ≤ 2147483648) : MH laws_markPutS laws_heldPutS (wt (.sl tPut_) a) a k := by
  simp only [wt_sl, wt_pair, wt_int, wt_bool, wt_str, wt_unit] at hw hz
  have hl : a.length ≤ 2147483648 := by have := len_sum (wt tPut_) (fun x => by simp only [wt_sl, wt_pair, wt_int, wt_bool, wt_str, wt_unit]; omega) a; omega
  have hs : ∀ (k : Int) (i : Nat) (a : (List Put_)) (h : i < a.length), a.length ≤ 2147483648 → 0 ≤ k → k + wt tPut_ a[i] ≤ 4611686018427387904 → wt tPut_ a[i] ≤ 2147483648 → ∃ k2 x2, k ≤ k2 ∧ k2 ≤ k + wt tPut_ a[i] ∧ laws_markPutS_l0.B k (i : Int) a = some (.inl (k2, ((i + 1 : Nat) : Int), a.set i x2)) ∧ ∀ b : (List Put_), b.length = a.length → b[i]? = some x2 → laws_heldPutS_l0.B b k (i : Int) = some (.inl (k2, ((i + 1 : Nat) : Int))) := by
    clear hw hz hl hk k a
    intro k i a hi hl hk hw hz
    have hb : inB (i : Int) a.length = true := inB_ok (by omega) (by omega)
    simp only [wt_sl, wt_pair, wt_int, wt_bool, wt_str, wt_unit] at hw hz
    have w1 : w64 (k + 1) = k + 1 := w64s (by omega) (by omega)
    obtain ⟨k2, y2, l2, u2, w2, v2⟩ := laws_markInt64S_ok a[i].2.1 (k + 1) (by omega) (by simp only [wt_sl, wt_pair, wt_int, wt_bool, wt_str, wt_unit]; omega) (by simp only [wt_sl, wt_pair, wt_int, wt_bool, wt_str, wt_unit]; omega)
    simp only [wt_sl, wt_pair, wt_int, wt_bool, wt_str, wt_unit] at u2
    refine ⟨k2, (k, y2, ()), by omega, by simp only [wt_sl, wt_pair, wt_int, wt_bool, wt_str, wt_unit]; omega, ?_, fun b hlb hx => ?_⟩
    · simp only [laws_markPutS_l0.B, lt_dec hi, hb, cond_tt, toNat_cast, getD_lt _ hi, Option.bind_some, w1, v2, w2, w64_succ (by omega : i < 4294967296), List.set_set, List.length_set, getD_set _ _ hi, show (!((3 : Int) == 0)) = true from rfl]
    · have hc : inB (i : Int) b.length = true := inB_ok (by omega) (by omega)
      have hd : decide ((i : Int) < (b.length : Int)) = true := lt_dec (by omega)
      simp only [laws_heldPutS_l0.B, hd, hc, cond_tt, cond_ff, toNat_cast, getD_of _ hx, Option.bind_some, bne_self, beq_selfS, beq_selfB, Bool.not_true, w1, v2, w2, neg_dec (by omega : 0 ≤ k2), w64_succ (by omega : i < 4294967296), List.set_set, List.length_set, getD_set _ _ hi, show (!((3 : Int) == 0)) = true from rfl]
  obtain ⟨k2, a2, e1, e2, e3, e4⟩ := mark_list0 (wt tPut_) 4611686018427387904 (fun s => laws_markPutS_l0.B s.1 s.2.1 s.2.2) (fun b s => laws_heldPutS_l0.B b s.1 s.2) (fun k a => by simp only [laws_markPutS_l0.B, ge_dec (Nat.le_refl _), cond_ff]) (fun k a => by simp only [laws_heldPutS_l0.B, ge_dec (Nat.le_refl _), cond_ff]) hs k a hl hk (by omega) (by omega)
  refine ⟨k2, a2, e1, by simp only [wt_sl, wt_pair, wt_int, wt_bool, wt_str, wt_unit]; omega, ?_, ?_⟩
  · have : laws_markPutS_l0 (k, 0, a) = some (k2, a2) := e3
    simp only [laws_markPutS, this, Option.bind_some]
  · have : laws_heldPutS_l0 a2 (k, 0) = some (.inr k2) := e4
    simp only [laws_heldPutS, this, Option.bind_some, sel]
theorem laws_markDisk_ok (x_0 : List (List Int)) (x_1 : List Put_) (k : Int) (hk : 0 ≤ k) (hw : k + wt tDisk_ (x_0, x_1, ()) ≤ 4611686018427387904) (hz : wt tDisk_ (x_0, x_1, ()) ≤ 2147483648) : ∃ k2 y0 y1, k ≤ k2 ∧ k2 ≤ k + wt tDisk_ (x_0, x_1, ()) ∧ laws_markDisk (x_0, x_1, ()) k = some (k2, (y0, y1, ())) ∧ laws_heldDisk (y0, y1, ()) k = some k2 := by
  simp only [wt_sl, wt_pair, wt_int, wt_bool, wt_str, wt_unit] at hw hz
  obtain ⟨k0, y0, l0, u0, w0, v0⟩ := laws_markInt64SS_ok x_0 k (by omega) (by simp only [wt_sl, wt_pair, wt_int, wt_bool, wt_str, wt_unit]; omega) (by simp only [wt_sl, wt_pair, wt_int, wt_bool, wt_str, wt_unit]; omega)
  simp only [wt_sl, wt_pair, wt_int, wt_bool, wt_str, wt_unit] at u0
  obtain ⟨k1, y1, l1, u1, w1, v1⟩ := laws_markPutS_ok x_1 k0 (by omega) (by simp only [wt_sl, wt_pair, wt_int, wt_bool, wt_str, wt_unit]; omega) (by simp only [wt_sl, wt_pair, wt_int, wt_bool, wt_str, wt_unit]; omega)
  simp only [wt_sl, wt_pair, wt_int, wt_bool, wt_str, wt_unit] at u1
  refine ⟨k1, y0, y1, by omega, by simp only [wt_sl, wt_pair, wt_int, wt_bool, wt_str, wt_unit]; omega, ?_, ?_⟩
  · simp only [laws_markDisk, w0, w1, Option.bind_some, peta]
  · simp only [laws_heldDisk, v0, v1, Option.bind_some, cond_ff, neg_dec (by omega : 0 ≤ k0), neg_dec (by omega : 0 ≤ k1)]
theorem laws_markDiskResult_ok (x_0 : Int) (x_1_0 : List (List Int)) (x_1_1 : List Put_) (k : Int) (hk : 0 ≤ k) (hw : k + wt tDiskResult_ (x_0, (x_1_0, x_1_1, ()), ()) ≤ 4611686018427387904) (hz : wt tDiskResult_ (x_0, (x_1_0, x_1_1, ()), ()) ≤ 2147483648) : ∃ k2 y0 y1, k ≤ k2 ∧ k2 ≤ k + wt tDiskResult_ (x_0, (x_1_0, x_1_1, ()), ()) ∧ laws_markDiskResult (x_0, (x_1_0, x_1_1, ()), ()) k = some (k2, (x_0, (y0, y1, ()), ())) ∧ laws_heldDiskResult (x_0, (y0, y1, ()), ()) k = some k2 := by
  simp only [wt_sl, wt_pair, wt_int, wt_bool, wt_str, wt_unit] at hw hz
  obtain ⟨k0, y0, l0, u0, w0, v0⟩ := laws_markInt64SS_ok x_1_0 k (by omega) (by simp only [wt_sl, wt_pair, wt_int, wt_bool, wt_str, wt_unit]; omega) (by simp only [wt_sl, wt_pair, wt_int, wt_bool, wt_str, wt_unit]; omega)
  simp only [wt_sl, wt_pair, wt_int, wt_bool, wt_str, wt_unit] at u0
  obtain ⟨k1, y1, l1, u1, w1, v1⟩ := laws_markPutS_ok x_1_1 k0 (by omega) (by simp only [wt_sl, wt_pair, wt_int, wt_bool, wt_str, wt_unit]; omega) (by simp only [wt_sl, wt_pair, wt_int, wt_bool, wt_str, wt_unit]; omega)
  simp only [wt_sl, wt_pair, wt_int, wt_bool, wt_str, wt_unit] at u1
  refine ⟨k1, y0, y1, by omega, by simp only [wt_sl, wt_pair, wt_int, wt_bool, wt_str, wt_unit]; omega, ?_, ?_⟩
  · simp only [laws_markDiskResult, laws_markDisk, w0, w1, Option.bind_some, peta]
  · simp only [laws_heldDiskResult, laws_heldDisk, v0, v1, Option.bind_some, cond_ff, neg_dec (by omega : 0 ≤ k0), neg_dec (by omega : 0 ≤ k1)]
def inR (v lo hi : Int) : Bool := cond (decide (v ≥ lo)) (decide (v ≤ hi)) false
theorem inR_iff {v lo hi : Int} : inR v lo hi = true ↔ lo ≤ v ∧ v ≤ hi := by
  unfold inR; by_cases h : v ≥ lo <;> simp [h] <;> omega
theorem spec_l1In_eq (v lo hi : Int) : spec_l1In v lo hi = some (inR v lo hi) := rfl
theorem impl_within_eq (v lo hi : Int) : impl_within v lo hi = some (inR v lo hi) := rfl
def wordsF (w : List Int) : Int := cond (decide ((w.length : Int) > 64)) 2 (cond (w.any fun x => !inR x 0 65535) 3 0)
theorem spec_l1Words_eq (w : List Int) : spec_l1Words w = some (wordsF w) := by
  simp only [spec_l1Words, wordsF]
  by_cases hl : w.length ≤ 64
  · have h : spec_l1Words_l0 w 0 = _ := loop_any w (fun x => !inR x 0 65535) (3 : Int) (fun i hi => by
      simp only [spec_l1Words_l0.B, lt_dec hi, inB_lt hi, cond_tt, toNat_cast, getD_lt _ hi, spec_l1In_eq, Option.bind_some, w64_succ (by omega : i < 4294967296)]) (by
      simp only [spec_l1Words_l0.B, ge_dec (Nat.le_refl _), cond_ff])
    rw [h, show decide ((w.length : Int) > 64) = false by simp; omega]
    cases w.any fun x => !inR x 0 65535 <;> rfl
  · rw [show decide ((w.length : Int) > 64) = true by simp; omega]; rfl
theorem slices_IndexFunc_int64_wordsFault_c1_l0_eq (w : List Int) (hl : w.length ≤ 2147483648) : slices_IndexFunc_int64_wordsFault_c1_l0 w () (w.length : Int) 0 = some (match idxF (fun x => !inR x 0 65535) 0 w with | some j => .inl (j : Int) | none => .inr ()) :=
  loop_idx w (f := fun s => slices_IndexFunc_int64_wordsFault_c1_l0.B w () (w.length : Int) s) (fun x => !inR x 0 65535) (fun i hi => by
    simp only [slices_IndexFunc_int64_wordsFault_c1_l0.B, lt_dec hi, inB_lt hi, cond_tt, toNat_cast, getD_lt _ hi, impl_wordsFault_c1, impl_within_eq, Option.bind_some, w64_succ (by omega : i < 4294967296)]) (by
    simp only [slices_IndexFunc_int64_wordsFault_c1_l0.B, ge_dec (Nat.le_refl _), cond_ff]) 0 (Nat.zero_le _)
theorem idx_contains {α : Type} (p : α → Bool) (l : List α) : ((some (match idxF p 0 l with | some j => .inl (j : Int) | none => .inr () : Int ⊕ Unit)).bind fun o => sel o (fun b => some b) (fun c => some (-1))).bind (fun r => some (decide (r ≥ 0))) = some (l.any p) := by
  cases h : idxF p 0 l with
  | none => rw [idxF_none.1 h]; rfl
  | some j =>
    have : l.any p = true := by
      cases ha : l.any p with
      | true => rfl
      | false => rw [idxF_none.2 ha] at h; cases h
    rw [this]
    simp [sel]
theorem impl_wordsFault_eq (w : List Int) : impl_wordsFault w = some (wordsF w) := by
  simp only [impl_wordsFault, wordsF, slices_ContainsFunc_int64_wordsFault_c1, slices_IndexFunc_int64_wordsFault_c1]
  by_cases hl : w.length ≤ 64
  · rw [show decide ((w.length : Int) > 64) = false by simp; omega, slices_IndexFunc_int64_wordsFault_c1_l0_eq w (by omega), idx_contains]
    simp only [cond_ff, Option.bind_some]
    cases w.any fun x => !inR x 0 65535 <;> rfl
  · rw [show decide ((w.length : Int) > 64) = true by simp; omega]; rfl
theorem wordsF_ok {w : List Int} (h : wordsF w = 0) : w.length ≤ 64 ∧ ∀ x ∈ w, 0 ≤ x ∧ x ≤ 65535 := by
  unfold wordsF at h
  cases h1 : decide ((w.length : Int) > 64) with
  | true => rw [h1] at h; cases h
  | false =>
    rw [h1] at h
    cases h2 : (w.any fun x => !inR x 0 65535) with
    | true => rw [h2] at h; cases h
    | false =>
      refine ⟨by simp at h1; omega, fun x hx => ?_⟩
      have := List.any_eq_false.1 h2 x hx
      simp only [Bool.not_eq_true, Bool.not_eq_false'] at this
      exact inR_iff.1 (by simpa using this)
def stepF (x : Bool × Int × List Int × Unit) : Int := cond (cond x.1 (cond (x.2.1 != 0) true (decide ((x.2.2.1.length : Int) > 0))) false) 1 (cond (!inR x.2.1 0 46) 3 (wordsF x.2.2.1))
theorem spec_StepFault_eq (x : Bool × Int × List Int × Unit) : spec_StepFault x = some (stepF x) := by
  simp only [spec_StepFault, stepF, spec_l1In_eq, spec_l1Words_eq, Option.bind_some]; simp only [some_cond]
theorem impl_stepFault_eq (x : Bool × Int × List Int × Unit) : impl_stepFault x = some (stepF x) := by
  simp only [impl_stepFault, stepF, impl_within_eq, impl_wordsFault_eq, Option.bind_some]; simp only [some_cond]
def stepsF (l : List (Bool × Int × List Int × Unit)) : Int := cond (decide ((l.length : Int) > 120)) 2 (firstC stepF l)
theorem sel_first (n : Int) (g : Option Int) : ((some (cond (n != 0) (.inl n) (.inr ()) : Int ⊕ Unit)).bind fun o => sel o (fun b => some b) (fun _ => g)) = cond (n != 0) (some n) g := by
  cases (n != 0) <;> rfl
theorem first_zero (n : Int) : cond (n != 0) (some n) (some 0) = some n := by
  cases h : (n != 0)
  · have : n = 0 := by simpa using h
    rw [this]; rfl
  · rfl
theorem spec_l13Steps_eq (l : List (Bool × Int × List Int × Unit)) : spec_l13Steps l = some (stepsF l) := by
  simp only [spec_l13Steps, stepsF]
  by_cases hl : l.length ≤ 120
  · have h : spec_l13Steps_l0 l 0 = _ := loop_first l stepF (fun i hi => by
      simp only [spec_l13Steps_l0.B, lt_dec hi, inB_lt hi, cond_tt, toNat_cast, getD_lt _ hi, spec_StepFault_eq, Option.bind_some, w64_succ (by omega : i < 4294967296)]) (by
      simp only [spec_l13Steps_l0.B, ge_dec (Nat.le_refl _), cond_ff])
    rw [h, show decide ((l.length : Int) > 120) = false by simp; omega, cond_ff, cond_ff, sel_first, first_zero]
  · rw [show decide ((l.length : Int) > 120) = true by simp; omega]; rfl
theorem impl_stepsFault_eq (l : List (Bool × Int × List Int × Unit)) : impl_stepsFault l = some (stepsF l) := by
  simp only [impl_stepsFault, stepsF]
  by_cases hl : l.length ≤ 120
  · have h : impl_stepsFault_l0 l (l.length : Int) 0 = _ := loop_first l stepF (fun i hi => by
      simp only [impl_stepsFault_l0.B, lt_dec hi, inB_lt hi, cond_tt, toNat_cast, getD_lt _ hi, impl_stepFault_eq, Option.bind_some, w64_succ (by omega : i < 4294967296)]) (by
      simp only [impl_stepsFault_l0.B, ge_dec (Nat.le_refl _), cond_ff])
    rw [h, show decide ((l.length : Int) > 120) = false by simp; omega, cond_ff, cond_ff, sel_first, first_zero]
  · rw [show decide ((l.length : Int) > 120) = true by simp; omega]; rfl
theorem stepsF_len {l : List (Bool × Int × List Int × Unit)} (h : stepsF l = 0) : l.length ≤ 120 := by
  unfold stepsF at h
  cases h1 : decide ((l.length : Int) > 120) with
  | true => rw [h1] at h; cases h
  | false => simp at h1; omega
theorem firstC_zero {α : Type} {c : α → Int} : ∀ {l : List α}, firstC c l = 0 ↔ ∀ x ∈ l, c x = 0
  | [] => by simp [firstC]
  | x :: l => by
    simp only [firstC, List.mem_cons, forall_eq_or_imp]
    cases h : (c x != 0)
    · have : c x = 0 := by simpa using h
      simp only [cond_ff, this, true_and]; exact firstC_zero
    · have : c x ≠ 0 := by simpa using h
      simp only [cond_tt]; exact ⟨fun e => absurd e this, fun e => absurd e.1 this⟩
theorem wt_ints (k : IntKind) : ∀ xs : List Int, (xs.map (wt (.int k))).sum = xs.length
  | [] => rfl
  | x :: xs => by rw [List.map_cons, List.sum_cons, wt_ints k xs, wt_int, List.length_cons]; omega
theorem wt_puts {l : List Put_} {n B : Nat} (hl : l.length ≤ n) (h : ∀ p ∈ l, p.2.1.length ≤ B) : wt (.sl tPut_) l ≤ n * (B + 2) + 1 := by
  rw [wt_sl]
  have := sum_leB (wt tPut_) (B + 2) (xs := l) fun p hp => by
    have := h p hp
    have e := wt_ints .i64 p.2.1
    simp only [wt_pair, wt_sl, wt_int, wt_unit]
    show 1 + ((List.map (wt (.int .i64)) p.2.1).sum + 1 + 0) ≤ _
    rw [e]; omega
  have := Nat.mul_le_mul_right (B + 2) hl
  omega
theorem w64n {n : Int} (h : -9223372036854775808 ≤ n) (h' : n < 9223372036854775808) : w64 n = n := w64_id h (by omega)
def putF (n : Int) (p : Put_) : Int := cond (!inR p.1 0 n) 3 (wordsF p.2.1)
def diskF (d : Disk_) : Int := cond (cond (decide ((d.1.length : Int) > 60)) true (decide ((d.2.1.length : Int) > 200))) 2 (cond (firstC wordsF d.1 != 0) (firstC wordsF d.1) (firstC (putF ((d.1.length : Int) - 1)) d.2.1))
theorem big_ff {d : Disk_} (h1 : d.1.length ≤ 60) (h2 : d.2.1.length ≤ 200) : cond (decide ((d.1.length : Int) > 60)) true (decide ((d.2.1.length : Int) > 200)) = false := by
  rw [show decide ((d.1.length : Int) > 60) = false by simp; omega, show decide ((d.2.1.length : Int) > 200) = false by simp; omega]; rfl
theorem big_tt {d : Disk_} (h : ¬ (d.1.length ≤ 60 ∧ d.2.1.length ≤ 200)) : cond (decide ((d.1.length : Int) > 60)) true (decide ((d.2.1.length : Int) > 200)) = true := by
  by_cases h1 : d.1.length ≤ 60
  · rw [show decide ((d.2.1.length : Int) > 200) = true by simp; omega]; cases decide ((d.1.length : Int) > 60) <;> rfl
  · rw [show decide ((d.1.length : Int) > 60) = true by simp; omega]; rfl
theorem spec_l1Fault_eq (d : Disk_) : spec_l1Fault d = some (diskF d) := by
  simp only [spec_l1Fault, diskF, Option.bind_some]
  by_cases hb : d.1.length ≤ 60 ∧ d.2.1.length ≤ 200
  · obtain ⟨b1, b2⟩ := hb
    have h : spec_l1Fault_l0 d 0 = _ := loop_first d.1 wordsF (fun i hi => by
      simp only [spec_l1Fault_l0.B, lt_dec hi, inB_lt hi, cond_tt, toNat_cast, getD_lt _ hi, spec_l1Words_eq, Option.bind_some, w64_succ (by omega : i < 4294967296)]) (by
      simp only [spec_l1Fault_l0.B, ge_dec (Nat.le_refl _), cond_ff])
    have hw : w64 ((d.1.length : Int) - 1) = (d.1.length : Int) - 1 := w64n (by omega) (by omega)
    have h' : spec_l1Fault_l1 d 0 = _ := loop_first d.2.1 (putF ((d.1.length : Int) - 1)) (fun i hi => by
      simp only [spec_l1Fault_l1.B, lt_dec hi, inB_lt hi, cond_tt, toNat_cast, getD_lt _ hi, spec_l1Words_eq, spec_l1In_eq, hw, Option.bind_some, w64_succ (by omega : i < 4294967296), putF]
      cases inR d.2.1[i].1 0 ((d.1.length : Int) - 1) <;> rfl) (by
      simp only [spec_l1Fault_l1.B, ge_dec (Nat.le_refl _), cond_ff])
    rw [big_ff b1 b2, cond_ff, cond_ff, h, h', sel_first, sel_first, first_zero]
    cases (firstC wordsF d.1 != 0) <;> rfl
  · rw [big_tt hb]; rfl
theorem impl_diskFault_eq (d : Disk_) : impl_diskFault d = some (diskF d) := by
  simp only [impl_diskFault, diskF, Option.bind_some]
  by_cases hb : d.1.length ≤ 60 ∧ d.2.1.length ≤ 200
  · obtain ⟨b1, b2⟩ := hb
    have h : impl_diskFault_l0 d d.1 (d.1.length : Int) 0 = _ := loop_first d.1 wordsF (fun i hi => by
      simp only [impl_diskFault_l0.B, lt_dec hi, inB_lt hi, cond_tt, toNat_cast, getD_lt _ hi, impl_wordsFault_eq, Option.bind_some, w64_succ (by omega : i < 4294967296)]) (by
      simp only [impl_diskFault_l0.B, ge_dec (Nat.le_refl _), cond_ff])
    have hw : w64 ((d.1.length : Int) - 1) = (d.1.length : Int) - 1 := w64n (by omega) (by omega)
    have h' : impl_diskFault_l1 d d.2.1 (d.2.1.length : Int) 0 = _ := loop_first d.2.1 (putF ((d.1.length : Int) - 1)) (fun i hi => by
      simp only [impl_diskFault_l1.B, impl_size_Sint64, lt_dec hi, inB_lt hi, cond_tt, toNat_cast, getD_lt _ hi, impl_wordsFault_eq, impl_within_eq, hw, Option.bind_some, w64_succ (by omega : i < 4294967296), putF]
      cases inR d.2.1[i].1 0 ((d.1.length : Int) - 1) <;> rfl) (by
      simp only [impl_diskFault_l1.B, ge_dec (Nat.le_refl _), cond_ff])
    rw [big_ff b1 b2, cond_ff, cond_ff, h, h', sel_first, sel_first, first_zero]
    cases (firstC wordsF d.1 != 0) <;> rfl
  · rw [big_tt hb]; rfl
/-- a disk that is right -/
structure DiskOk (d : Disk_) : Prop where
  l1 : d.1.length ≤ 60
  l2 : d.2.1.length ≤ 200
  w1 : ∀ w ∈ d.1, w.length ≤ 64 ∧ ∀ x ∈ w, 0 ≤ x ∧ x ≤ 65535
  w2 : ∀ p ∈ d.2.1, (0 ≤ p.1 ∧ p.1 ≤ (d.1.length : Int) - 1) ∧ p.2.1.length ≤ 64 ∧ ∀ x ∈ p.2.1, 0 ≤ x ∧ x ≤ 65535
theorem DiskOk.of {d : Disk_} (h : diskF d = 0) : DiskOk d := by
  unfold diskF at h
  by_cases hb : d.1.length ≤ 60 ∧ d.2.1.length ≤ 200
  · obtain ⟨b1, b2⟩ := hb
    rw [big_ff b1 b2, cond_ff] at h
    cases hc : (firstC wordsF d.1 != 0) with
    | true => rw [hc, cond_tt] at h; simp [h] at hc
    | false =>
      rw [hc, cond_ff] at h
      refine ⟨b1, b2, fun w hw => wordsF_ok (firstC_zero.1 (by simpa using hc) w hw), fun p hp => ?_⟩
      have hp := firstC_zero.1 h p hp
      unfold putF at hp
      cases hr : inR p.1 0 ((d.1.length : Int) - 1) with
      | false => rw [hr] at hp; cases hp
      | true => rw [hr] at hp; exact ⟨inR_iff.1 hr, wordsF_ok hp⟩
  · rw [big_tt hb] at h; cases h
theorem clonePutsP_eq {l : List Put_} (h : l.length ≤ 2147483648) (hw : ∀ p ∈ l, p.2.1.length ≤ 2147483648) : clonePutsP l = some l := by
  have : (decide (l.length ≤ 2147483648) && l.all (fun x => decide (x.2.1.length ≤ 2147483648))) = true := by
    simp only [Bool.and_eq_true, decide_eq_true_eq, List.all_eq_true]
    exact ⟨h, hw⟩
  simp only [clonePutsP, this, cond_tt]
theorem DiskOk.zero {d : Disk_} (h : DiskOk d) : diskF d = 0 := by
  have hw : ∀ w : List Int, w.length ≤ 64 → (∀ x ∈ w, 0 ≤ x ∧ x ≤ 65535) → wordsF w = 0 := fun w h1 h2 => by
    unfold wordsF
    rw [show decide ((w.length : Int) > 64) = false by simp; omega, cond_ff]
    rw [show (w.any fun x => !inR x 0 65535) = false from List.any_eq_false.2 (fun x hx => by
      have := inR_iff.2 (h2 x hx); simp [this])]
    rfl
  unfold diskF
  rw [big_ff h.l1 h.l2, cond_ff]
  rw [firstC_zero.2 (fun w hm => hw w (h.w1 w hm).1 (h.w1 w hm).2)]
  show cond ((0 : Int) != 0) _ _ = 0
  rw [show ((0 : Int) != 0) = false from rfl, cond_ff]
  refine firstC_zero.2 (fun p hm => ?_)
  obtain ⟨h1, h2, h3⟩ := h.w2 p hm
  unfold putF
  rw [inR_iff.2 h1]
  exact hw _ h2 h3
theorem fold1 {α β : Type} : ∀ (l : List α) (a : List α) (b : β), l.foldl (fun (t : List α × β) x => (t.1 ++ [x], t.2)) (a, b) = (a ++ l, b)
  | [], a, b => by simp
  | x :: l, a, b => by rw [List.foldl_cons, fold1 l]; simp
theorem fold2 {α β γ : Type} : ∀ (l : List α) (a : β) (b : List α) (c : γ), l.foldl (fun (t : β × List α × γ) x => (t.1, t.2.1 ++ [x], t.2.2)) (a, b, c) = (a, b ++ l, c)
  | [], a, b, c => by simp
  | x :: l, a, b, c => by rw [List.foldl_cons, fold2 l]; simp
theorem spec_l1Copy_eq {d : Disk_} (h : DiskOk d) : spec_l1Copy d = some d := by
  obtain ⟨bs, ps, ⟨⟩⟩ := d
  have hl1 : bs.length ≤ 60 := h.l1
  have hl2 : ps.length ≤ 200 := h.l2
  have h0 : spec_l1Copy_l0 (bs, ps, ()) ([], [], ()) (0, ([], [], ())) = some (bs.foldl (fun (t : List (List Int) × List Put_ × Unit) x => (t.1 ++ [x], t.2)) ([], [], ())) :=
    loop_foldI bs (f := fun s => spec_l1Copy_l0.B (bs, ps, ()) ([], [], ()) s.1 s.2) _ (fun t => t) (fun i t => t.1.length ≤ i) (fun i hi t ht => by
      have hw : bs[i].length ≤ 64 := (h.w1 _ (List.getElem_mem hi)).1
      constructor
      · simp only [spec_l1Copy_l0.B, lt_dec hi, inB_lt hi, cond_tt, toNat_cast, getD_lt _ hi, spec_l1Ints, List.nil_append, decide_eq_true (show bs[i].length ≤ 2147483648 by omega), Option.bind_some, w64_succ (by omega : i < 4294967296)]
        rw [show decide ((t.1 ++ [bs[i]]).length ≤ 2147483648) = true by simp; omega, cond_tt]
      · simp; omega) (fun t ht => by simp only [spec_l1Copy_l0.B, ge_dec (Nat.le_refl _), cond_ff]) _ (Nat.le_refl _)
  have h1 : spec_l1Copy_l1 (bs, ps, ()) ([], [], ()) (0, (bs, [], ())) = some (ps.foldl (fun (t : List (List Int) × List Put_ × Unit) x => (t.1, t.2.1 ++ [x], t.2.2)) (bs, [], ())) :=
    loop_foldI ps (f := fun s => spec_l1Copy_l1.B (bs, ps, ()) ([], [], ()) s.1 s.2) _ (fun t => t) (fun i t => t.2.1.length ≤ i) (fun i hi t ht => by
      have hw : ps[i].2.1.length ≤ 64 := (h.w2 _ (List.getElem_mem hi)).2.1
      constructor
      · simp only [spec_l1Copy_l1.B, lt_dec hi, inB_lt hi, cond_tt, toNat_cast, getD_lt _ hi, spec_l1Ints, List.nil_append, decide_eq_true (show ps[i].2.1.length ≤ 2147483648 by omega), Option.bind_some, w64_succ (by omega : i < 4294967296)]
        rw [show decide ((t.2.1 ++ [ps[i]]).length ≤ 2147483648) = true by simp; omega, cond_tt]
      · simp; omega) (fun t ht => by simp only [spec_l1Copy_l1.B, ge_dec (Nat.le_refl _), cond_ff]) _ (Nat.le_refl _)
  rw [fold1] at h0
  rw [fold2] at h1
  simp only [spec_l1Copy, h0, Option.bind_some, List.nil_append, h1]
theorem impl_cloneDisk_eq {d : Disk_} (h : DiskOk d) : impl_cloneDisk d = some d := by
  obtain ⟨bs, ps, ⟨⟩⟩ := d
  have hl1 : bs.length ≤ 60 := h.l1
  have hl2 : ps.length ≤ 200 := h.l2
  have h0 : impl_cloneDisk_l0 (bs, ps, ()) bs (bs.length : Int) ([], [], ()) (0, ([], [], ())) = some (bs.foldl (fun (t : List (List Int) × List Put_ × Unit) x => (t.1 ++ [x], t.2)) ([], [], ())) :=
    loop_foldI bs (f := fun s => impl_cloneDisk_l0.B (bs, ps, ()) bs (bs.length : Int) ([], [], ()) s.1 s.2) _ (fun t => t) (fun i t => t.1.length ≤ i) (fun i hi t ht => by
      have hw : bs[i].length ≤ 64 := (h.w1 _ (List.getElem_mem hi)).1
      constructor
      · simp only [impl_cloneDisk_l0.B, lt_dec hi, inB_lt hi, cond_tt, toNat_cast, getD_lt _ hi, slices_Clone_int64, cloneP, decide_eq_true (show bs[i].length ≤ 2147483648 by omega), Option.bind_some, w64_succ (by omega : i < 4294967296)]
        rw [show decide ((t.1 ++ [bs[i]]).length ≤ 2147483648) = true by simp; omega, cond_tt]
      · simp; omega) (fun t ht => by simp only [impl_cloneDisk_l0.B, ge_dec (Nat.le_refl _), cond_ff]) _ (Nat.le_refl _)
  rw [fold1] at h0
  simp only [impl_cloneDisk, h0, Option.bind_some, List.nil_append, impl_clonePuts]
  rw [clonePutsP_eq (l := ps) (by omega) (fun p hp => Nat.le_trans (h.w2 p hp).2.1 (by omega))]
  rfl
/-- all puts into the blocks -/
def flushF (d : Disk_) : Disk_ := (movedF d.1 d.2.1 (fun _ => true) d.2.1.length, [], ())
theorem moved_len (bs : List (List Int)) (ps : List Put_) (pick : Nat → Bool) : ∀ k, (movedF bs ps pick k).length = bs.length
  | 0 => rfl
  | k + 1 => by
    simp only [movedF]
    split
    · rw [List.length_set, moved_len bs ps pick k]
    · exact moved_len bs ps pick k
theorem moved_mem {bs : List (List Int)} {ps : List Put_} {pick : Nat → Bool} {w : List Int} : ∀ {k}, k ≤ ps.length → w ∈ movedF bs ps pick k → w ∈ bs ∨ ∃ p ∈ ps, w = p.2.1
  | 0, _, h => .inl h
  | k + 1, hk, h => by
    simp only [movedF] at h
    have hg : ps.getD k (0, [], ()) = ps[k] := by simp [List.getD, show k < ps.length by omega]
    split at h
    · rcases List.mem_or_eq_of_mem_set h with h | h
      · exact moved_mem (by omega) h
      · rw [hg] at h; exact .inr ⟨ps[k], List.getElem_mem _, h⟩
    · exact moved_mem (by omega) h
theorem flushF_ok {d : Disk_} (h : DiskOk d) : DiskOk (flushF d) where
  l1 := by show (movedF _ _ _ _).length ≤ 60; rw [moved_len]; exact h.l1
  l2 := Nat.zero_le _
  w1 := fun w hw => by
    rcases moved_mem (Nat.le_refl _) hw with h1 | ⟨p, hp, rfl⟩
    · exact h.w1 w h1
    · exact (h.w2 p hp).2
  w2 := fun p hp => by cases hp
theorem flushP_eq {d : Disk_} (h : DiskOk d) : flushP d = some (flushF d) := by
  have : (decide (d.2.1.length ≤ 1152921504606846976) && d.2.1.all (fun p => inB p.1 d.1.length)) = true := by
    simp only [Bool.and_eq_true, decide_eq_true_eq, List.all_eq_true]
    refine ⟨by have := h.l2; omega, fun p hp => ?_⟩
    have := (h.w2 p hp).1
    simp [inB]; omega
  simp only [flushP, this, cond_tt, flushF]
theorem spec_l1Keep_l0_eq {d : Disk_} (h : DiskOk d) : ∀ (k i : Nat), i + k = d.2.1.length → spec_l1Keep_l0 [] true d ([], [], ()) ((i : Int), (movedF d.1 d.2.1 (fun _ => true) i, [], ())) = some (flushF d)
  | 0, i, hi => loopL_done (by
    have e : i = d.2.1.length := by omega
    subst e
    simp only [spec_l1Keep_l0.B, ge_dec (Nat.le_refl _), cond_ff, flushF])
  | k + 1, i, hi => by
    have hlt : i < d.2.1.length := by omega
    have hp := h.w2 _ (List.getElem_mem hlt)
    have hl2 := h.l2
    have hin : inB d.2.1[i].1 (movedF d.1 d.2.1 (fun _ => true) i).length = true := by rw [moved_len]; simp [inB]; omega
    have hg : d.2.1.getD i (0, [], ()) = d.2.1[i] := by simp [List.getD, hlt]
    rw [show spec_l1Keep_l0 [] true d ([], [], ()) ((i : Int), (movedF d.1 d.2.1 (fun _ => true) i, [], ())) = spec_l1Keep_l0 [] true d ([], [], ()) (((i + 1 : Nat) : Int), (movedF d.1 d.2.1 (fun _ => true) (i + 1), [], ())) from loopL_step (by
      simp only [spec_l1Keep_l0.B, lt_dec hlt, inB_lt hlt, cond_tt, cond_ff, Bool.not_true, Bool.false_and, toNat_cast, getD_lt _ hlt, Option.bind_some, spec_l1Ints, List.nil_append, decide_eq_true (show d.2.1[i].2.1.length ≤ 2147483648 by have := hp.2.1; omega), hin, w64_succ (by omega : i < 4294967296), movedF, hg, if_true])]
    exact spec_l1Keep_l0_eq h k (i + 1) (by omega)
theorem spec_l1Keep_eq {d : Disk_} (h : DiskOk d) : spec_l1Keep d [] true = some (flushF d) := by
  have := spec_l1Keep_l0_eq h d.2.1.length 0 (by omega)
  simp only [spec_l1Keep, spec_l1Copy_eq h, Option.bind_some]
  rw [show spec_l1Keep_l0 [] true d ([], [], ()) (0, (d.1, [], d.2.2)) = some (flushF d) from this]
  rfl
def putD (d : Disk_) (x : Step_) : Disk_ := (d.1, d.2.1 ++ [(x.2.1, x.2.2.1, ())], ())
/-- the steps, one by one; none: too many puts -/
def runF : List Step_ → Disk_ → Option Disk_
  | [], d => some d
  | x :: l, d => cond x.1 (runF l (flushF d)) (cond ((d.2.1.length : Int) == 200) none (runF l (putD d x)))
structure Disk47 (d : Disk_) : Prop where
  ok : DiskOk d
  l : d.1.length = 47
theorem Disk47.flush {d : Disk_} (h : Disk47 d) : Disk47 (flushF d) := ⟨flushF_ok h.ok, by show (movedF _ _ _ _).length = 47; rw [moved_len]; exact h.l⟩
theorem step_put {x : Step_} (h : stepF x = 0) (hx : x.1 = false) : (0 ≤ x.2.1 ∧ x.2.1 ≤ 46) ∧ wordsF x.2.2.1 = 0 := by
  unfold stepF at h
  rw [hx] at h
  simp only [cond_ff] at h
  cases hr : inR x.2.1 0 46 with
  | false => rw [hr] at h; cases h
  | true => rw [hr] at h; exact ⟨inR_iff.1 hr, h⟩
theorem Disk47.put {d : Disk_} (h : Disk47 d) {x : Step_} (hx : stepF x = 0) (hf : x.1 = false) (hl : d.2.1.length ≠ 200) : Disk47 (putD d x) := by
  obtain ⟨h1, h2⟩ := step_put hx hf
  have h3 := wordsF_ok h2
  have hl2 := h.ok.l2
  have h47 := h.l
  refine ⟨⟨h.ok.l1, by show (d.2.1 ++ [_]).length ≤ 200; simp; omega, h.ok.w1, fun p hp => ?_⟩, h47⟩
  rcases List.mem_append.1 hp with hp | hp
  · exact h.ok.w2 p hp
  · simp at hp
    subst hp
    exact ⟨⟨h1.1, by show x.2.1 ≤ (d.1.length : Int) - 1; omega⟩, h3⟩
theorem runF_ok : ∀ {l : List Step_} {d d' : Disk_}, Disk47 d → (∀ x ∈ l, stepF x = 0) → runF l d = some d' → Disk47 d'
  | [], d, d', h, _, e => by cases e; exact h
  | x :: l, d, d', h, hl, e => by
    simp only [runF] at e
    cases hx : x.1 with
    | true => rw [hx, cond_tt] at e; exact runF_ok h.flush (fun y hy => hl y (List.mem_cons_of_mem _ hy)) e
    | false =>
      rw [hx, cond_ff] at e
      cases hn : ((d.2.1.length : Int) == 200) with
      | true => rw [hn] at e; cases e
      | false =>
        rw [hn, cond_ff] at e
        exact runF_ok (h.put (hl x List.mem_cons_self) hx (fun e' => by rw [e'] at hn; cases hn)) (fun y hy => hl y (List.mem_cons_of_mem _ hy)) e
theorem spec_PutBlock_eq {d : Disk_} (h : Disk47 d) {x : Step_} (hx : stepF x = 0) (hf : x.1 = false) :
    spec_PutBlock d x.2.1 x.2.2.1 = some (cond ((d.2.1.length : Int) == 200) (2, ([], [], ()), ()) (0, putD d x, ())) := by
  obtain ⟨h1, h2⟩ := step_put hx hf
  have h3 := wordsF_ok h2
  have hl2 := h.ok.l2
  have h47 := h.l
  have hin : inR x.2.1 0 ((d.1.length : Int) - 1) = true := inR_iff.2 (by omega)
  simp only [spec_PutBlock, spec_l1Fault_eq, h.ok.zero, Option.bind_some, show ((0 : Int) != 0) = false from rfl, cond_ff, spec_l1Place, spec_l1In_eq, w64n (by omega : -9223372036854775808 ≤ (d.1.length : Int) - 1) (by omega), hin, Bool.not_true, spec_l1Words_eq, h2]
  by_cases e : d.2.1.length = 200
  · rw [show decide ((d.2.1.length : Int) ≥ 200) = true by simp; omega, show ((d.2.1.length : Int) == 200) = true by rw [e]; rfl]; rfl
  · rw [show decide ((d.2.1.length : Int) ≥ 200) = false by simp; omega, show ((d.2.1.length : Int) == 200) = false by rw [beq_eq_false_iff_ne]; omega]
    simp only [cond_ff, spec_l1Copy_eq h.ok, Option.bind_some, spec_l1Ints, List.nil_append, decide_eq_true (show x.2.2.1.length ≤ 2147483648 by have := h3.1; omega), cond_tt]
    rw [show decide ((d.2.1 ++ [((x.2.1, x.2.2.1, ()) : Put_)]).length ≤ 2147483648) = true by simp; omega]
    rfl
theorem spec_run {list : List Step_} (hl : list.length ≤ 120) (hs : ∀ x ∈ list, stepF x = 0) (v : DiskResult_) : ∀ (k i : Nat) (d : Disk_), i + k = list.length → Disk47 d →
    spec_l13Run_l0 list v ((i : Int), (0, d, ())) = some (match runF (list.drop i) d with | some d' => .inr (0, d', ()) | none => .inl (2, ([], [], ()), ()))
  | 0, i, d, hi, h => by
    have e : i = list.length := by omega
    subst e
    rw [List.drop_length]
    exact loopL_done (by simp only [spec_l13Run_l0.B, ge_dec (Nat.le_refl _), cond_ff, runF])
  | k + 1, i, d, hi, h => by
    have hlt : i < list.length := by omega
    have hx := hs _ (List.getElem_mem hlt)
    rw [List.drop_eq_getElem_cons hlt]
    simp only [runF]
    cases hf : list[i].1 with
    | true =>
      rw [show spec_l13Run_l0 list v ((i : Int), (0, d, ())) = spec_l13Run_l0 list v (((i + 1 : Nat) : Int), (0, flushF d, ())) from loopL_step (by
        simp only [spec_l13Run_l0.B, lt_dec hlt, inB_lt hlt, cond_tt, toNat_cast, getD_lt _ hlt, hf, spec_l1Keep_eq h.ok, Option.bind_some, w64_succ (by omega : i < 4294967296)])]
      exact spec_run hl hs v k (i + 1) _ (by omega) h.flush
    | false =>
      have hp := spec_PutBlock_eq h hx hf
      cases hn : ((d.2.1.length : Int) == 200) with
      | true =>
        rw [hn, cond_tt] at hp
        exact loopL_done (by
          simp only [spec_l13Run_l0.B, lt_dec hlt, inB_lt hlt, cond_tt, cond_ff, toNat_cast, getD_lt _ hlt, hf]
          rw [show spec_PutBlock (d.1, d.2.1, d.2.2) list[i].2.1 list[i].2.2.1 = _ from hp]
          rfl)
      | false =>
        rw [hn, cond_ff] at hp
        rw [show spec_l13Run_l0 list v ((i : Int), (0, d, ())) = spec_l13Run_l0 list v (((i + 1 : Nat) : Int), (0, putD d list[i], ())) from loopL_step (by
          simp only [spec_l13Run_l0.B, lt_dec hlt, inB_lt hlt, cond_tt, cond_ff, toNat_cast, getD_lt _ hlt, hf]
          rw [show spec_PutBlock (d.1, d.2.1, d.2.2) list[i].2.1 list[i].2.2.1 = _ from hp]
          simp only [Option.bind_some, w64_succ (by omega : i < 4294967296)]
          rfl)]
        exact spec_run hl hs v k (i + 1) _ (by omega) (h.put hx hf (fun e' => by rw [e'] at hn; cases hn))
theorem impl_run {list : List Step_} (hl : list.length ≤ 120) (hs : ∀ x ∈ list, stepF x = 0) : ∀ (k i : Nat) (d : Disk_), i + k = list.length → Disk47 d →
    (match runF (list.drop i) d with | some d' => impl_Disk_run_l0 list (list.length : Int) ((i : Int), d) = some (.inr d') | none => ∃ dx, impl_Disk_run_l0 list (list.length : Int) ((i : Int), d) = some (.inl (2, dx)))
  | 0, i, d, hi, h => by
    have e : i = list.length := by omega
    subst e
    rw [List.drop_length]
    exact loopL_done (by simp only [impl_Disk_run_l0.B, ge_dec (Nat.le_refl _), cond_ff])
  | k + 1, i, d, hi, h => by
    have hlt : i < list.length := by omega
    have hx := hs _ (List.getElem_mem hlt)
    rw [List.drop_eq_getElem_cons hlt]
    simp only [runF]
    cases hf : list[i].1 with
    | true =>
      have e1 : impl_Disk_run_l0 list (list.length : Int) ((i : Int), d) = impl_Disk_run_l0 list (list.length : Int) (((i + 1 : Nat) : Int), flushF d) := loopL_step (by
        simp only [impl_Disk_run_l0.B, lt_dec hlt, inB_lt hlt, cond_tt, toNat_cast, getD_lt _ hlt, hf, impl_Disk_flush, flushP_eq h.ok, Option.bind_some, w64_succ (by omega : i < 4294967296)])
      rw [e1, cond_tt]
      exact impl_run hl hs k (i + 1) _ (by omega) h.flush
    | false =>
      rw [cond_ff]
      cases hn : ((d.2.1.length : Int) == 200) with
      | true =>
        rw [cond_tt]
        exact ⟨d, loopL_done (by
          simp only [impl_Disk_run_l0.B, lt_dec hlt, inB_lt hlt, cond_tt, cond_ff, toNat_cast, getD_lt _ hlt, hf, hn])⟩
      | false =>
        have hl2 := h.ok.l2
        have hw := wordsF_ok (step_put hx hf).2
        have e1 : impl_Disk_run_l0 list (list.length : Int) ((i : Int), d) = impl_Disk_run_l0 list (list.length : Int) (((i + 1 : Nat) : Int), putD d list[i]) := loopL_step (by
          simp only [impl_Disk_run_l0.B, lt_dec hlt, inB_lt hlt, cond_tt, cond_ff, toNat_cast, getD_lt _ hlt, hf, hn, impl_Disk_put, slices_Clone_int64, cloneP, decide_eq_true (show list[i].2.2.1.length ≤ 2147483648 by have := hw.1; omega), Option.bind_some]
          rw [show decide ((d.2.1 ++ [((list[i].2.1, list[i].2.2.1, ()) : Put_)]).length ≤ 2147483648) = true by simp; omega]
          simp only [cond_tt, Option.bind_some, w64_succ (by omega : i < 4294967296)]
          rfl)
        rw [e1, cond_ff]
        exact impl_run hl hs k (i + 1) _ (by omega) (h.put hx hf (fun e' => by rw [e'] at hn; cases hn))
theorem wt_disk {d : Disk_} (h : DiskOk d) : wt tDisk_ d ≤ 100000 := by
  have e : ∀ w : List Int, (w.map (wt (.int .i64))).sum = w.length := fun w => wt_ints .i64 w
  have h1 := sum_leB (wt (.sl (.int .i64))) 65 (xs := d.1) (fun w hw => by
    have := (h.w1 w hw).1
    rw [wt_sl, e]; omega)
  have h2 := wt_puts h.l2 (fun p hp => (h.w2 p hp).2.1)
  have hl := h.l1
  simp only [wt_sl] at h2
  simp only [wt_pair, wt_sl, wt_unit] at h1 ⊢
  omega
theorem RunSteps.main (d : Disk_) (list : List Step_) (hf : Fit tDisk_ d) (hf1 : Fit (.sl tStep_) list) (hw : wt tDisk_ d ≤ 1048576) (hw1 : wt (.sl tStep_) list ≤ 1048576) : ∃ r, spec_RunSteps d list = some r ∧ impl_RunSteps d list = some r ∧ wt tDiskResult_ r ≤ 2147483648 := by
  have small : ∀ c : Int, wt tDiskResult_ (c, ([], [], ()), ()) ≤ 2147483648 := fun c => by simp only [wt_sl, wt_pair, wt_int, wt_unit]; simp
  simp only [spec_RunSteps, impl_RunSteps, spec_l1Fault_eq, impl_diskFault_eq, Option.bind_some]
  cases h : (diskF d != 0) with
  | true =>
    have hb : (diskF d == 0) = false := by simpa [bne] using h
    rw [hb]
    exact ⟨_, rfl, rfl, small _⟩
  | false =>
    have h0 : diskF d = 0 := by simpa using h
    have hok := DiskOk.of h0
    rw [h0]
    simp only [cond_ff, show ((0 : Int) == 0) = true from rfl, cond_tt]
    cases h1 : ((d.1.length : Int) != 47) with
    | true => exact ⟨_, rfl, rfl, small _⟩
    | false =>
      have h47 : Disk47 d := ⟨hok, by have : (d.1.length : Int) = 47 := by simpa using h1
                                      omega⟩
      simp only [cond_ff, spec_l13Steps_eq, impl_stepsFault_eq, Option.bind_some]
      cases h2 : (stepsF list != 0) with
      | true => exact ⟨_, rfl, rfl, small _⟩
      | false =>
        have hs0 : stepsF list = 0 := by simpa using h2
        have hl := stepsF_len hs0
        have hs : ∀ x ∈ list, stepF x = 0 := by
          unfold stepsF at hs0
          rw [show decide ((list.length : Int) > 120) = false by simp; omega, cond_ff] at hs0
          exact firstC_zero.1 hs0
        have e1 := spec_run hl hs (0, ([], [], ()), ()) list.length 0 d (by omega) h47
        have e2 := impl_run hl hs list.length 0 d (by omega) h47
        rw [List.drop_zero] at e1 e2
        simp only [cond_ff, spec_l13Run, spec_l1Copy_eq hok, impl_cloneDisk_eq hok, Option.bind_some, impl_Disk_run]
        rw [show spec_l13Run_l0 list (0, ([], [], ()), ()) (0, (0, (d.1, d.2.1, d.2.2), ())) = _ from e1]
        cases hr : runF list d with
        | some d' =>
          rw [hr] at e2
          rw [show impl_Disk_run_l0 list (list.length : Int) (0, (d.1, d.2.1, d.2.2)) = _ from e2]
          have := wt_disk (runF_ok h47 hs hr).ok
          refine ⟨(0, d', ()), rfl, rfl, ?_⟩
          rw [wt_pair, wt_pair, wt_int, wt_unit]
          show 1 + (wt tDisk_ d' + 0) ≤ _
          omega
        | none =>
          rw [hr] at e2
          obtain ⟨dx, e2⟩ := e2
          rw [show impl_Disk_run_l0 list (list.length : Int) (0, (d.1, d.2.1, d.2.2)) = _ from e2]
          exact ⟨(2, ([], [], ()), ()), rfl, rfl, small _⟩
theorem RunSteps.law (x : PT.Els (shs [tDisk_, (.sl tStep_)])) (hf : FitAll [tDisk_, (.sl tStep_)] x) (hw : wtAll [tDisk_, (.sl tStep_)] x ≤ 1048576) : laws_FnExactRunSteps x.1 x.2.1 = some true := by
  simp only [wtAll] at hw
  have hf0 : Fit tDisk_ x.1 := hf.1
  have hf1 : Fit (.sl tStep_) x.2.1 := hf.2.1
  have hw0 : wt tDisk_ x.1 ≤ 1048576 := by omega
  have hw1 : wt (.sl tStep_) x.2.1 ≤ 1048576 := by omega
  clear hw hf
  generalize x.2.1 = a1 at hf1 hw1 ⊢
  generalize x.1 = a0 at hf0 hw0 ⊢
  obtain ⟨r, hr1, hr2, hr3⟩ := RunSteps.main a0 a1 hf0 hf1 hw0 hw1
  obtain ⟨r_0, ⟨r_1_0, r_1_1, ⟨⟩⟩, ⟨⟩⟩ := r
  replace hr3 : wt tDiskResult_ (r_0, (r_1_0, r_1_1, ()), ()) ≤ 2147483648 := hr3
  replace hr1 : spec_RunSteps a0 a1 = some (r_0, (r_1_0, r_1_1, ()), ()) := hr1
  replace hr2 : impl_RunSteps a0 a1 = some (r_0, (r_1_0, r_1_1, ()), ()) := hr2
  have er := laws_eqDiskResult_ok (r_0, (r_1_0, r_1_1, ()), ()) hr3
  obtain ⟨kr, y0, y1, l1, l2, hm, hh⟩ := laws_markDiskResult_ok r_0 r_1_0 r_1_1 1 (by omega) (by omega) hr3
  have to0 := laws_toDisk_ok a0 (by omega)
  have eq0 := laws_eqDisk_ok a0 (by omega)
  have to1 := laws_toStepS_ok a1 (by omega)
  have eq1 := laws_eqStepS_ok a1 (by omega)
  obtain ⟨k0, z0_0, z0_1, l0, u0, m0, _⟩ := laws_markDisk_ok a0.1 a0.2.1 1 (by omega) (by show _ + ((wt tDisk_ a0 : Nat) : Int) ≤ _; omega) (by show wt tDisk_ a0 ≤ _; omega)
  have u0 : k0 ≤ 1 + ((wt tDisk_ a0 : Nat) : Int) := u0
  try simp only [peta] at m0
  obtain ⟨k1, z1, l1, u1, m1⟩ := laws_markStepS_ok a1 k0 (by omega) (by omega) (by omega)
  have hsz : ∀ g : Option Bool, g = some true → ∀ b : Bool, cond b (some true) g = some true := fun g h b => by cases b <;> first | rfl | exact h
  simp only [laws_FnExactRunSteps]
  repeat' (first | with_reducible refine hsz _ ?_ _ | (rw [Option.bind_some]) | (obtain ⟨q, hq⟩ := laws_szDisk_ok a0 _ (by omega); rw [hq, Option.bind_some]; clear hq) | (obtain ⟨q, hq⟩ := laws_szStepS_ok a1 _ (by omega); rw [hq, Option.bind_some]; clear hq))
  simp only [er, hm, hh, to0, eq0, to1, eq1, m0, m1, hr1, hr2, peta, Option.bind_some, Bool.not_true, cond_ff, cond_tt, bne_self, beq_selfB, beq_selfS, neg_dec (by omega : 0 ≤ kr), neg_dec (by omega : 0 ≤ k1)]
end Mf
