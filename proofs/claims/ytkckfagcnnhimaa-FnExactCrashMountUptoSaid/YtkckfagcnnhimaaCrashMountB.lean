/- The law over plain data: laws.FnExactCrashMount answers true. -/
import Derived.Test.YtkckfagcnnhimaaCrashMountA
noncomputable section
namespace Mf
open Go
set_option linter.unusedVariables false
set_option linter.unusedSimpArgs false
set_option maxRecDepth 100000
theorem laws_szInt64S_ok (a : (List Int)) (n : Int) (hw : wt (.sl (.int .i64)) a ≤ 2147483648) : ∃ r, laws_szInt64S a n = some r := by
  simp only [laws_szInt64S]
  repeat' (first | with_reducible exact ex_some _ | with_reducible refine ex_bind (ex_some _) fun _ => ?_ | with_reducible apply ex_cond)
theorem laws_szInt64SS_ok (a : (List (List Int))) (n : Int) (hw : wt (.sl (.sl (.int .i64))) a ≤ 2147483648) : ∃ r, laws_szInt64SS a n = some r := by
  have hw2 := hw
  simp only [wt_sl, wt_pair, wt_int, wt_bool, wt_str, wt_unit] at hw2
  have hl : a.length ≤ 2147483648 := by have := len_sum (wt (.sl (.int .i64))) (fun x => by simp only [wt_sl, wt_pair, wt_int, wt_bool, wt_str, wt_unit]; omega) a; omega
  have lp : ∀ k, ∃ r, laws_szInt64SS_l0 a (k, 0) = some r := fun k => by
    refine loop_ex (f := fun s => laws_szInt64SS_l0.B a s.1 s.2) (fun (i : Nat) (k : Int) => (k, (i : Int))) a.length (fun i k hi => ?_) (fun k => ?_) a.length 0 k (by omega)
    · have hm := mem_sum (wt (.sl (.int .i64))) a i hi
      have hb : inB (i : Int) a.length = true := inB_ok (by omega) (by omega)
      simp only [laws_szInt64SS_l0.B, lt_dec hi, hb, cond_tt, toNat_cast, getD_lt _ hi, w64_succ (by omega : i < 4294967296)]
      repeat' (first | with_reducible exact ex_inr _ | (with_reducible refine .inl ⟨_, rfl, ?_⟩; exact ⟨_, rfl⟩) | with_reducible refine ex_bind2 (laws_szInt64S_ok _ _ (by first | omega | (simp only [wt_sl, wt_pair, wt_int, wt_bool, wt_str, wt_unit] at hm ⊢; omega))) fun _ => ?_ | with_reducible refine ex_bind2 (ex_some _) fun _ => ?_ | with_reducible apply ex_cond2)
    · refine ⟨.inr k, ?_⟩; simp only [laws_szInt64SS_l0.B, ge_dec (Nat.le_refl _), cond_ff]
  simp only [laws_szInt64SS]
  repeat' (first | with_reducible exact ex_some _ | with_reducible refine ex_bind (lp _) fun o => ?_ | with_reducible refine ex_bind (ex_some _) fun _ => ?_ | with_reducible apply ex_cond | (cases o <;> exact ⟨_, rfl⟩))
theorem laws_szPut_ok (a : Put_) (n : Int) (hw : wt tPut_ a ≤ 2147483648) : ∃ r, laws_szPut a n = some r := by
  simp only [laws_szPut]
  repeat' (first | with_reducible exact ex_some _ | with_reducible refine ex_bind (laws_szInt64S_ok _ _ (by first | omega | (simp only [wt_sl, wt_pair, wt_int, wt_bool, wt_str, wt_unit] at hw ⊢; omega))) fun _ => ?_ | with_reducible refine ex_bind (ex_some _) fun _ => ?_ | with_reducible apply ex_cond)
theorem laws_szPutS_ok (a : (List Put_)) (n : Int) (hw : wt (.sl tPut_) a ≤ 2147483648) : ∃ r, laws_szPutS a n = some r := by
  have hw2 := hw
  simp only [wt_sl, wt_pair, wt_int, wt_bool, wt_str, wt_unit] at hw2
  have hl : a.length ≤ 2147483648 := by have := len_sum (wt tPut_) (fun x => by simp only [wt_sl, wt_pair, wt_int, wt_bool, wt_str, wt_unit]; omega) a; omega
  have lp : ∀ k, ∃ r, laws_szPutS_l0 a (k, 0) = some r := fun k => by
    refine loop_ex (f := fun s => laws_szPutS_l0.B a s.1 s.2) (fun (i : Nat) (k : Int) => (k, (i : Int))) a.length (fun i k hi => ?_) (fun k => ?_) a.length 0 k (by omega)
    · have hm := mem_sum (wt tPut_) a i hi
      have hb : inB (i : Int) a.length = true := inB_ok (by omega) (by omega)
      simp only [laws_szPutS_l0.B, lt_dec hi, hb, cond_tt, toNat_cast, getD_lt _ hi, w64_succ (by omega : i < 4294967296)]
      repeat' (first | with_reducible exact ex_inr _ | (with_reducible refine .inl ⟨_, rfl, ?_⟩; exact ⟨_, rfl⟩) | with_reducible refine ex_bind2 (laws_szPut_ok _ _ (by first | omega | (simp only [wt_sl, wt_pair, wt_int, wt_bool, wt_str, wt_unit] at hm ⊢; omega))) fun _ => ?_ | with_reducible refine ex_bind2 (ex_some _) fun _ => ?_ | with_reducible apply ex_cond2)
    · refine ⟨.inr k, ?_⟩; simp only [laws_szPutS_l0.B, ge_dec (Nat.le_refl _), cond_ff]
  simp only [laws_szPutS]
  repeat' (first | with_reducible exact ex_some _ | with_reducible refine ex_bind (lp _) fun o => ?_ | with_reducible refine ex_bind (ex_some _) fun _ => ?_ | with_reducible apply ex_cond | (cases o <;> exact ⟨_, rfl⟩))
theorem laws_szDisk_ok (a : Disk_) (n : Int) (hw : wt tDisk_ a ≤ 2147483648) : ∃ r, laws_szDisk a n = some r := by
  simp only [laws_szDisk]
  repeat' (first | with_reducible exact ex_some _ | with_reducible refine ex_bind (laws_szInt64SS_ok _ _ (by first | omega | (simp only [wt_sl, wt_pair, wt_int, wt_bool, wt_str, wt_unit] at hw ⊢; omega))) fun _ => ?_ | with_reducible refine ex_bind (laws_szPutS_ok _ _ (by first | omega | (simp only [wt_sl, wt_pair, wt_int, wt_bool, wt_str, wt_unit] at hw ⊢; omega))) fun _ => ?_ | with_reducible refine ex_bind (ex_some _) fun _ => ?_ | with_reducible apply ex_cond)
theorem laws_toInt64S_ok (a : (List Int)) (hw : wt (.sl (.int .i64)) a ≤ 2147483648) : laws_toInt64S a = some a := by
  have hw2 := hw
  simp only [wt_sl, wt_pair, wt_int, wt_bool, wt_str, wt_unit] at hw2
  have hl : a.length ≤ 2147483648 := by have := len_sum (wt (.int .i64)) (fun x => by simp only [wt_sl, wt_pair, wt_int, wt_bool, wt_str, wt_unit]; omega) a; omega
  have lp : laws_toInt64S_l0 a (0, List.replicate (a.length : Int).toNat 0) = some a := by
    refine to_list0 a (fun s => laws_toInt64S_l0.B a s.1 s.2) 0 (fun i hi out ho => ?_) (fun out ho => ?_)
    · have hm := mem_sum (wt (.int .i64)) a i hi
      have hb : inB (i : Int) a.length = true := inB_ok (by omega) (by omega)
      have hc : inB (i : Int) out.length = true := inB_ok (by omega) (by omega)
      simp only [laws_toInt64S_l0.B, lt_dec hi, hb, hc, cond_tt, toNat_cast, getD_lt _ hi, Option.bind_some, peta, w64_succ (by omega : i < 4294967296)]
    · simp only [laws_toInt64S_l0.B]; rw [show decide ((a.length : Int) < (a.length : Int)) = false by simp]; rfl
  simp only [laws_toInt64S]
  rw [show (decide ((0 : Int) ≤ (a.length : Int)) && (decide ((a.length : Int) ≤ (a.length : Int)) && decide ((a.length : Int) ≤ 2147483648))) = true by simp; omega]
  simp only [cond_tt, Option.bind_some, lp]
theorem laws_toInt64SS_ok (a : (List (List Int))) (hw : wt (.sl (.sl (.int .i64))) a ≤ 2147483648) : laws_toInt64SS a = some a := by
  have hw2 := hw
  simp only [wt_sl, wt_pair, wt_int, wt_bool, wt_str, wt_unit] at hw2
  have hl : a.length ≤ 2147483648 := by have := len_sum (wt (.sl (.int .i64))) (fun x => by simp only [wt_sl, wt_pair, wt_int, wt_bool, wt_str, wt_unit]; omega) a; omega
  have lp : laws_toInt64SS_l0 a (0, List.replicate (a.length : Int).toNat ([] : List Int)) = some a := by
    refine to_list0 a (fun s => laws_toInt64SS_l0.B a s.1 s.2) [] (fun i hi out ho => ?_) (fun out ho => ?_)
    · have hm := mem_sum (wt (.sl (.int .i64))) a i hi
      have hb : inB (i : Int) a.length = true := inB_ok (by omega) (by omega)
      have hc : inB (i : Int) out.length = true := inB_ok (by omega) (by omega)
      have h0 := laws_toInt64S_ok a[i] (by omega)
      simp only [laws_toInt64SS_l0.B, lt_dec hi, hb, hc, cond_tt, toNat_cast, getD_lt _ hi, h0, Option.bind_some, peta, w64_succ (by omega : i < 4294967296)]
    · simp only [laws_toInt64SS_l0.B]; rw [show decide ((a.length : Int) < (a.length : Int)) = false by simp]; rfl
  simp only [laws_toInt64SS]
  rw [show (decide ((0 : Int) ≤ (a.length : Int)) && (decide ((a.length : Int) ≤ (a.length : Int)) && decide ((a.length : Int) ≤ 2147483648))) = true by simp; omega]
  simp only [cond_tt, Option.bind_some, lp]
theorem laws_toPut_ok (a : Put_) (hw : wt tPut_ a ≤ 2147483648) : laws_toPut a = some a := by
  obtain ⟨x0, x1, ⟨⟩⟩ := a
  simp only [wt_sl, wt_pair, wt_int, wt_bool, wt_str, wt_unit] at hw
  have h_x1_0 := laws_toInt64S_ok x1 (by simp only [wt_sl, wt_pair, wt_int, wt_bool, wt_str, wt_unit]; omega)
  simp only [laws_toPut, h_x1_0, Option.bind_some, peta]
theorem laws_toPutS_ok (a : (List Put_)) (hw : wt (.sl tPut_) a ≤ 2147483648) : laws_toPutS a = some a := by
  have hw2 := hw
  simp only [wt_sl, wt_pair, wt_int, wt_bool, wt_str, wt_unit] at hw2
  have hl : a.length ≤ 2147483648 := by have := len_sum (wt tPut_) (fun x => by simp only [wt_sl, wt_pair, wt_int, wt_bool, wt_str, wt_unit]; omega) a; omega
  have lp : laws_toPutS_l0 a (0, List.replicate (a.length : Int).toNat zPut_) = some a := by
    refine to_list0 a (fun s => laws_toPutS_l0.B a s.1 s.2) zPut_ (fun i hi out ho => ?_) (fun out ho => ?_)
    · have hm := mem_sum (wt tPut_) a i hi
      have hb : inB (i : Int) a.length = true := inB_ok (by omega) (by omega)
      have hc : inB (i : Int) out.length = true := inB_ok (by omega) (by omega)
      have h0 := laws_toPut_ok a[i] (by omega)
      simp only [laws_toPutS_l0.B, lt_dec hi, hb, hc, cond_tt, toNat_cast, getD_lt _ hi, h0, Option.bind_some, peta, w64_succ (by omega : i < 4294967296)]
    · simp only [laws_toPutS_l0.B]; rw [show decide ((a.length : Int) < (a.length : Int)) = false by simp]; rfl
  simp only [laws_toPutS]
  rw [show (decide ((0 : Int) ≤ (a.length : Int)) && (decide ((a.length : Int) ≤ (a.length : Int)) && decide ((a.length : Int) ≤ 2147483648))) = true by simp; omega]
  simp only [cond_tt, Option.bind_some, lp]
theorem laws_toDisk_ok (a : Disk_) (hw : wt tDisk_ a ≤ 2147483648) : laws_toDisk a = some a := by
  obtain ⟨x0, x1, ⟨⟩⟩ := a
  simp only [wt_sl, wt_pair, wt_int, wt_bool, wt_str, wt_unit] at hw
  have h_x0_0 := laws_toInt64SS_ok x0 (by simp only [wt_sl, wt_pair, wt_int, wt_bool, wt_str, wt_unit]; omega)
  have h_x1_1 := laws_toPutS_ok x1 (by simp only [wt_sl, wt_pair, wt_int, wt_bool, wt_str, wt_unit]; omega)
  simp only [laws_toDisk, h_x0_0, h_x1_1, Option.bind_some, peta]
theorem laws_toBoolS_ok (a : (List Bool)) (hw : wt (.sl .bool) a ≤ 2147483648) : laws_toBoolS a = some a := by
  have hw2 := hw
  simp only [wt_sl, wt_pair, wt_int, wt_bool, wt_str, wt_unit] at hw2
  have hl : a.length ≤ 2147483648 := by have := len_sum (wt .bool) (fun x => by simp only [wt_sl, wt_pair, wt_int, wt_bool, wt_str, wt_unit]; omega) a; omega
  have lp : laws_toBoolS_l0 a (0, List.replicate (a.length : Int).toNat false) = some a := by
    refine to_list0 a (fun s => laws_toBoolS_l0.B a s.1 s.2) false (fun i hi out ho => ?_) (fun out ho => ?_)
    · have hm := mem_sum (wt .bool) a i hi
      have hb : inB (i : Int) a.length = true := inB_ok (by omega) (by omega)
      have hc : inB (i : Int) out.length = true := inB_ok (by omega) (by omega)
      simp only [laws_toBoolS_l0.B, lt_dec hi, hb, hc, cond_tt, toNat_cast, getD_lt _ hi, Option.bind_some, peta, w64_succ (by omega : i < 4294967296)]
    · simp only [laws_toBoolS_l0.B]; rw [show decide ((a.length : Int) < (a.length : Int)) = false by simp]; rfl
  simp only [laws_toBoolS]
  rw [show (decide ((0 : Int) ≤ (a.length : Int)) && (decide ((a.length : Int) ≤ (a.length : Int)) && decide ((a.length : Int) ≤ 2147483648))) = true by simp; omega]
  simp only [cond_tt, Option.bind_some, lp]
theorem laws_eqInt64S_ok (a : (List Int)) (hw : wt (.sl (.int .i64)) a ≤ 2147483648) : laws_eqInt64S a a = some true := by
  have hw2 := hw
  simp only [wt_sl, wt_pair, wt_int, wt_bool, wt_str, wt_unit] at hw2
  have hl : a.length ≤ 2147483648 := by have := len_sum (wt (.int .i64)) (fun x => by simp only [wt_sl, wt_pair, wt_int, wt_bool, wt_str, wt_unit]; omega) a; omega
  have lp : laws_eqInt64S_l0 a a 0 = some (.inr ()) := by
    refine eq_list0 (n := a.length) (fun s => laws_eqInt64S_l0.B a a s) (fun i hi => ?_) ?_
    · have hm := mem_sum (wt (.int .i64)) a i hi
      have hb : inB (i : Int) a.length = true := inB_ok (by omega) (by omega)
      simp only [laws_eqInt64S_l0.B, lt_dec hi, hb, cond_tt, cond_ff, toNat_cast, getD_lt _ hi, Option.bind_some, Bool.not_true, bne_self, beq_selfS, beq_selfB, w64_succ (by omega : i < 4294967296)]
    · simp only [laws_eqInt64S_l0.B, ge_dec (Nat.le_refl _), cond_ff]
  simp only [laws_eqInt64S, bne_self, cond_ff, lp, Option.bind_some, sel]
theorem laws_eqInt64SS_ok (a : (List (List Int))) (hw : wt (.sl (.sl (.int .i64))) a ≤ 2147483648) : laws_eqInt64SS a a = some true := by
  have hw2 := hw
  simp only [wt_sl, wt_pair, wt_int, wt_bool, wt_str, wt_unit] at hw2
  have hl : a.length ≤ 2147483648 := by have := len_sum (wt (.sl (.int .i64))) (fun x => by simp only [wt_sl, wt_pair, wt_int, wt_bool, wt_str, wt_unit]; omega) a; omega
  have lp : laws_eqInt64SS_l0 a a 0 = some (.inr ()) := by
    refine eq_list0 (n := a.length) (fun s => laws_eqInt64SS_l0.B a a s) (fun i hi => ?_) ?_
    · have hm := mem_sum (wt (.sl (.int .i64))) a i hi
      have hb : inB (i : Int) a.length = true := inB_ok (by omega) (by omega)
      have h0 := laws_eqInt64S_ok a[i] (by omega)
      simp only [laws_eqInt64SS_l0.B, lt_dec hi, hb, cond_tt, cond_ff, toNat_cast, getD_lt _ hi, h0, Option.bind_some, Bool.not_true, bne_self, beq_selfS, beq_selfB, w64_succ (by omega : i < 4294967296)]
    · simp only [laws_eqInt64SS_l0.B, ge_dec (Nat.le_refl _), cond_ff]
  simp only [laws_eqInt64SS, bne_self, cond_ff, lp, Option.bind_some, sel]
theorem laws_eqPut_ok (a : Put_) (hw : wt tPut_ a ≤ 2147483648) : laws_eqPut a a = some true := by
  obtain ⟨x0, x1, ⟨⟩⟩ := a
  simp only [wt_sl, wt_pair, wt_int, wt_bool, wt_str, wt_unit] at hw
  have h_x1_0 := laws_eqInt64S_ok x1 (by simp only [wt_sl, wt_pair, wt_int, wt_bool, wt_str, wt_unit]; omega)
  simp only [laws_eqPut, h_x1_0, Option.bind_some, Bool.not_true, bne_self, beq_selfS, beq_selfB, cond_ff, cond_tt]
theorem laws_eqPutS_ok (a : (List Put_)) (hw : wt (.sl tPut_) a ≤ 2147483648) : laws_eqPutS a a = some true := by
  have hw2 := hw
  simp only [wt_sl, wt_pair, wt_int, wt_bool, wt_str, wt_unit] at hw2
  have hl : a.length ≤ 2147483648 := by have := len_sum (wt tPut_) (fun x => by simp only [wt_sl, wt_pair, wt_int, wt_bool, wt_str, wt_unit]; omega) a; omega
  have lp : laws_eqPutS_l0 a a 0 = some (.inr ()) := by
    refine eq_list0 (n := a.length) (fun s => laws_eqPutS_l0.B a a s) (fun i hi => ?_) ?_
    · have hm := mem_sum (wt tPut_) a i hi
      have hb : inB (i : Int) a.length = true := inB_ok (by omega) (by omega)
      have h0 := laws_eqPut_ok a[i] (by omega)
      simp only [laws_eqPutS_l0.B, lt_dec hi, hb, cond_tt, cond_ff, toNat_cast, getD_lt _ hi, h0, Option.bind_some, Bool.not_true, bne_self, beq_selfS, beq_selfB, w64_succ (by omega : i < 4294967296)]
    · simp only [laws_eqPutS_l0.B, ge_dec (Nat.le_refl _), cond_ff]
  simp only [laws_eqPutS, bne_self, cond_ff, lp, Option.bind_some, sel]
theorem laws_eqDisk_ok (a : Disk_) (hw : wt tDisk_ a ≤ 2147483648) : laws_eqDisk a a = some true := by
  obtain ⟨x0, x1, ⟨⟩⟩ := a
  simp only [wt_sl, wt_pair, wt_int, wt_bool, wt_str, wt_unit] at hw
  have h_x0_0 := laws_eqInt64SS_ok x0 (by simp only [wt_sl, wt_pair, wt_int, wt_bool, wt_str, wt_unit]; omega)
  have h_x1_1 := laws_eqPutS_ok x1 (by simp only [wt_sl, wt_pair, wt_int, wt_bool, wt_str, wt_unit]; omega)
  simp only [laws_eqDisk, h_x0_0, h_x1_1, Option.bind_some, Bool.not_true, bne_self, beq_selfS, beq_selfB, cond_ff, cond_tt]
theorem laws_eqDiskResult_ok (a : DiskResult_) (hw : wt tDiskResult_ a ≤ 2147483648) : laws_eqDiskResult a a = some true := by
  obtain ⟨x0, x1, ⟨⟩⟩ := a
  simp only [wt_sl, wt_pair, wt_int, wt_bool, wt_str, wt_unit] at hw
  have h_x1_0 := laws_eqDisk_ok x1 (by simp only [wt_sl, wt_pair, wt_int, wt_bool, wt_str, wt_unit]; omega)
  simp only [laws_eqDiskResult, h_x1_0, Option.bind_some, Bool.not_true, bne_self, beq_selfS, beq_selfB, cond_ff, cond_tt]
theorem laws_eqBoolS_ok (a : (List Bool)) (hw : wt (.sl .bool) a ≤ 2147483648) : laws_eqBoolS a a = some true := by
  have hw2 := hw
  simp only [wt_sl, wt_pair, wt_int, wt_bool, wt_str, wt_unit] at hw2
  have hl : a.length ≤ 2147483648 := by have := len_sum (wt .bool) (fun x => by simp only [wt_sl, wt_pair, wt_int, wt_bool, wt_str, wt_unit]; omega) a; omega
  have lp : laws_eqBoolS_l0 a a 0 = some (.inr ()) := by
    refine eq_list0 (n := a.length) (fun s => laws_eqBoolS_l0.B a a s) (fun i hi => ?_) ?_
    · have hm := mem_sum (wt .bool) a i hi
      have hb : inB (i : Int) a.length = true := inB_ok (by omega) (by omega)
      simp only [laws_eqBoolS_l0.B, lt_dec hi, hb, cond_tt, cond_ff, toNat_cast, getD_lt _ hi, Option.bind_some, Bool.not_true, bne_self, beq_selfS, beq_selfB, w64_succ (by omega : i < 4294967296)]
    · simp only [laws_eqBoolS_l0.B, ge_dec (Nat.le_refl _), cond_ff]
  simp only [laws_eqBoolS, bne_self, cond_ff, lp, Option.bind_some, sel]
theorem laws_markBoolS_ok (a : (List Bool)) (k : Int) (hk : 0 ≤ k) (hw : k + wt (.sl .bool) a ≤ 4611686018427387904) (hz : wt (.sl .bool) a ≤ 2147483648) : MK laws_markBoolS (wt (.sl .bool) a) a k := by
  simp only [wt_sl, wt_pair, wt_int, wt_bool, wt_str, wt_unit] at hw hz
  have hl : a.length ≤ 2147483648 := by have := len_sum (wt .bool) (fun x => by simp only [wt_sl, wt_pair, wt_int, wt_bool, wt_str, wt_unit]; omega) a; omega
  have hs : ∀ (k : Int) (i : Nat) (a : (List Bool)) (h : i < a.length), a.length ≤ 2147483648 → 0 ≤ k → k + wt .bool a[i] ≤ 4611686018427387904 → wt .bool a[i] ≤ 2147483648 → ∃ k2 x2, k ≤ k2 ∧ k2 ≤ k + wt .bool a[i] ∧ laws_markBoolS_l0.B k (i : Int) a = some (.inl (k2, ((i + 1 : Nat) : Int), a.set i x2)) := by
    clear hw hz hl hk k a
    intro k i a hi hl hk hw hz
    have hb : inB (i : Int) a.length = true := inB_ok (by omega) (by omega)
    simp only [wt_sl, wt_pair, wt_int, wt_bool, wt_str, wt_unit] at hw hz
    have w1 : w64 (k + 1) = k + 1 := w64s (by omega) (by omega)
    refine ⟨k + 1, ((k).tmod 3 == 0), by omega, by simp only [wt_sl, wt_pair, wt_int, wt_bool, wt_str, wt_unit]; omega, ?_⟩
    simp only [laws_markBoolS_l0.B, lt_dec hi, hb, cond_tt, toNat_cast, getD_lt _ hi, Option.bind_some, w1, w64_succ (by omega : i < 4294967296), List.set_set, List.length_set, getD_set _ _ hi, show (!((3 : Int) == 0)) = true from rfl]
  obtain ⟨k2, a2, e1, e2, e3⟩ := mark_only0 (wt .bool) 4611686018427387904 (fun s => laws_markBoolS_l0.B s.1 s.2.1 s.2.2) (fun k a => by simp only [laws_markBoolS_l0.B, ge_dec (Nat.le_refl _), cond_ff]) hs k a hl hk (by omega) (by omega)
  refine ⟨k2, a2, e1, by simp only [wt_sl, wt_pair, wt_int, wt_bool, wt_str, wt_unit]; omega, ?_⟩
  have : laws_markBoolS_l0 (k, 0, a) = some (k2, a2) := e3
  simp only [laws_markBoolS, this, Option.bind_some]
theorem laws_markInt64S_ok (a : (List Int)) (k : Int) (hk : 0 ≤ k) (hw : k + wt (.sl (.int .i64)) a ≤ 4611686018427387904) (hz : wt (.sl (.int .i64)) a ≤ 2147483648) : MH laws_markInt64S laws_heldInt64S (wt (.sl (.int .i64)) a) a k := by
  simp only [wt_sl, wt_pair, wt_int, wt_bool, wt_str, wt_unit] at hw hz
  have hl : a.length ≤ 2147483648 := by have := len_sum (wt (.int .i64)) (fun x => by simp only [wt_sl, wt_pair, wt_int, wt_bool, wt_str, wt_unit]; omega) a; omega
  have hs : ∀ (k : Int) (i : Nat) (a : (List Int)) (h : i < a.length), a.length ≤ 2147483648 → 0 ≤ k → k + wt (.int .i64) a[i] ≤ 4611686018427387904 → wt (.int .i64) a[i] ≤ 2147483648 → ∃ k2 x2, k ≤ k2 ∧ k2 ≤ k + wt (.int .i64) a[i] ∧ laws_markInt64S_l0.B k (i : Int) a = some (.inl (k2, ((i + 1 : Nat) : Int), a.set i x2)) ∧ ∀ b : (List Int), b.length = a.length → b[i]? = some x2 → laws_heldInt64S_l0.B b k (i : Int) = some (.inl (k2, ((i + 1 : Nat) : Int))) := by
    clear hw hz hl hk k a
    intro k i a hi hl hk hw hz
    have hb : inB (i : Int) a.length = true := inB_ok (by omega) (by omega)
    simp only [wt_sl, wt_pair, wt_int, wt_bool, wt_str, wt_unit] at hw hz
    have w1 : w64 (k + 1) = k + 1 := w64s (by omega) (by omega)
    refine ⟨k + 1, k, by omega, by simp only [wt_sl, wt_pair, wt_int, wt_bool, wt_str, wt_unit]; omega, ?_, fun b hlb hx => ?_⟩
    · simp only [laws_markInt64S_l0.B, lt_dec hi, hb, cond_tt, toNat_cast, getD_lt _ hi, Option.bind_some, w1, w64_succ (by omega : i < 4294967296), List.set_set, List.length_set, getD_set _ _ hi, show (!((3 : Int) == 0)) = true from rfl]
    · have hc : inB (i : Int) b.length = true := inB_ok (by omega) (by omega)
      have hd : decide ((i : Int) < (b.length : Int)) = true := lt_dec (by omega)
      simp only [laws_heldInt64S_l0.B, hd, hc, cond_tt, cond_ff, toNat_cast, getD_of _ hx, Option.bind_some, bne_self, beq_selfS, beq_selfB, Bool.not_true, w1, w64_succ (by omega : i < 4294967296), List.set_set, List.length_set, getD_set _ _ hi, show (!((3 : Int) == 0)) = true from rfl]
  obtain ⟨k2, a2, e1, e2, e3, e4⟩ := mark_list0 (wt (.int .i64)) 4611686018427387904 (fun s => laws_markInt64S_l0.B s.1 s.2.1 s.2.2) (fun b s => laws_heldInt64S_l0.B b s.1 s.2) (fun k a => by simp only [laws_markInt64S_l0.B, ge_dec (Nat.le_refl _), cond_ff]) (fun k a => by simp only [laws_heldInt64S_l0.B, ge_dec (Nat.le_refl _), cond_ff]) hs k a hl hk (by omega) (by omega)
  refine ⟨k2, a2, e1, by simp only [wt_sl, wt_pair, wt_int, wt_bool, wt_str, wt_unit]; omega, ?_, ?_⟩
  · have : laws_markInt64S_l0 (k, 0, a) = some (k2, a2) := e3
    simp only [laws_markInt64S, this, Option.bind_some]
  · have : laws_heldInt64S_l0 a2 (k, 0) = some (.inr k2) := e4
    simp only [laws_heldInt64S, this, Option.bind_some, sel]
theorem laws_markInt64SS_ok (a : (List (List Int))) (k : Int) (hk : 0 ≤ k) (hw : k + wt (.sl (.sl (.int .i64))) a ≤ 4611686018427387904) (hz : wt (.sl (.sl (.int .i64))) a ≤ 2147483648) : MH laws_markInt64SS laws_heldInt64SS (wt (.sl (.sl (.int .i64))) a) a k := by
  simp only [wt_sl, wt_pair, wt_int, wt_bool, wt_str, wt_unit] at hw hz
  have hl : a.length ≤ 2147483648 := by have := len_sum (wt (.sl (.int .i64))) (fun x => by simp only [wt_sl, wt_pair, wt_int, wt_bool, wt_str, wt_unit]; omega) a; omega
  have hs : ∀ (k : Int) (i : Nat) (a : (List (List Int))) (h : i < a.length), a.length ≤ 2147483648 → 0 ≤ k → k + wt (.sl (.int .i64)) a[i] ≤ 4611686018427387904 → wt (.sl (.int .i64)) a[i] ≤ 2147483648 → ∃ k2 x2, k ≤ k2 ∧ k2 ≤ k + wt (.sl (.int .i64)) a[i] ∧ laws_markInt64SS_l0.B k (i : Int) a = some (.inl (k2, ((i + 1 : Nat) : Int), a.set i x2)) ∧ ∀ b : (List (List Int)), b.length = a.length → b[i]? = some x2 → laws_heldInt64SS_l0.B b k (i : Int) = some (.inl (k2, ((i + 1 : Nat) : Int))) := by
    clear hw hz hl hk k a
    intro k i a hi hl hk hw hz
    have hb : inB (i : Int) a.length = true := inB_ok (by omega) (by omega)
    simp only [wt_sl, wt_pair, wt_int, wt_bool, wt_str, wt_unit] at hw hz
    obtain ⟨k1, y1, l1, u1, w1, v1⟩ := laws_markInt64S_ok a[i] (k) (by omega) (by simp only [wt_sl, wt_pair, wt_int, wt_bool, wt_str, wt_unit]; omega) (by simp only [wt_sl, wt_pair, wt_int, wt_bool, wt_str, wt_unit]; omega)
    simp only [wt_sl, wt_pair, wt_int, wt_bool, wt_str, wt_unit] at u1
    refine ⟨k1, y1, by omega, by simp only [wt_sl, wt_pair, wt_int, wt_bool, wt_str, wt_unit]; omega, ?_, fun b hlb hx => ?_⟩
    · simp only [laws_markInt64SS_l0.B, lt_dec hi, hb, cond_tt, toNat_cast, getD_lt _ hi, Option.bind_some, v1, w1, w64_succ (by omega : i < 4294967296), List.set_set, List.length_set, getD_set _ _ hi, show (!((3 : Int) == 0)) = true from rfl]
    · have hc : inB (i : Int) b.length = true := inB_ok (by omega) (by omega)
      have hd : decide ((i : Int) < (b.length : Int)) = true := lt_dec (by omega)
      simp only [laws_heldInt64SS_l0.B, hd, hc, cond_tt, cond_ff, toNat_cast, getD_of _ hx, Option.bind_some, bne_self, beq_selfS, beq_selfB, Bool.not_true, v1, w1, neg_dec (by omega : 0 ≤ k1), w64_succ (by omega : i < 4294967296), List.set_set, List.length_set, getD_set _ _ hi, show (!((3 : Int) == 0)) = true from rfl]
  obtain ⟨k2, a2, e1, e2, e3, e4⟩ := mark_list0 (wt (.sl (.int .i64))) 4611686018427387904 (fun s => laws_markInt64SS_l0.B s.1 s.2.1 s.2.2) (fun b s => laws_heldInt64SS_l0.B b s.1 s.2) (fun k a => by simp only [laws_markInt64SS_l0.B, ge_dec (Nat.le_refl _), cond_ff]) (fun k a => by simp only [laws_heldInt64SS_l0.B, ge_dec (Nat.le_refl _), cond_ff]) hs k a hl hk (by omega) (by omega)
  refine ⟨k2, a2, e1, by simp only [wt_sl, wt_pair, wt_int, wt_bool, wt_str, wt_unit]; omega, ?_, ?_⟩
  · have : laws_markInt64SS_l0 (k, 0, a) = some (k2, a2) := e3
    simp only [laws_markInt64SS, this, Option.bind_some]
  · have : laws_heldInt64SS_l0 a2 (k, 0) = some (.inr k2) := e4
    simp only [laws_heldInt64SS, this, Option.bind_some, sel]
theorem laws_markPutS_ok (a : (List Put_)) (k : Int) (hk : 0 ≤ k) (hw : k + wt (.sl tPut_) a ≤ 4611686018427387904) (hz : wt (.sl tPut_) a ≤ 2147483648) : MH laws_markPutS laws_heldPutS (wt (.sl tPut_) a) a k := by
  simp only [wt_sl, wt_pair, wt_int, wt_bool, wt_str, wt_unit] at hw hz
  have hl : a.length ≤ 2147483648 := by have := len_sum (wt tPut_) (fun x => by simp only [wt_sl, wt_pair, wt_int, wt_bool, wt_str, wt_unit]; omega) a; omega
  have hs : ∀ (k : Int) (i : Nat) (a : (List Put_)) (h : i < a.length), a.length ≤ 2147483648 → 0 ≤ k → k + wt tPut_ a[i] ≤ 4611686018427387904 → wt tPut_ a[i] ≤ 2147483648 → ∃ k2 x2, k ≤ k2 ∧ k2 ≤ k + wt tPut_ a[i] ∧ laws_markPutS_l0.B k (i : Int) a = some (.inl (k2, ((i + 1 : Nat) : Int), a.set i x2)) ∧ ∀ b : (List Put_), b.length = a.length → b[i]? = some x2 → laws_heldPutS_l0.B b k (i : Int) = some (.inl (k2, ((i + 1 : Nat) : Int))) := by
    clear hw hz hl hk k a
    intro k i a hi hl hk hw hz
    have hb : inB (i : Int) a.length = true := inB_ok (by omega) (by omega)
    simp only [wt_sl, wt_pair, wt_int, wt_bool, wt_str, wt_unit] at hw hz
    have w1 : w64 (k + 1) = k + 1 := w64s (by omega) (by omega)
    obtain ⟨k2, y2, l2, u2, w2, v2⟩ := laws_markInt64S_ok a[i].2.1 (k + 1) (by omega) (by simp only [wt_sl, wt_pair, wt_int, wt_bool, wt_str, wt_unit]; omega) (by simp only [wt_sl, wt_pair, wt_int, wt_bool, wt_str, wt_unit]; omega)
    simp only [wt_sl, wt_pair, wt_int, wt_bool, wt_str, wt_unit] at u2
    refine ⟨k2, (k, y2, ()), by omega, by simp only [wt_sl, wt_pair, wt_int, wt_bool, wt_str, wt_unit]; omega, ?_, fun b hlb hx => ?_⟩
    · simp only [laws_markPutS_l0.B, lt_dec hi, hb, cond_tt, toNat_cast, getD_lt _ hi, Option.bind_some, w1, v2, w2, w64_succ (by omega : i < 4294967296), List.set_set, List.length_set, getD_set _ _ hi, show (!((3 : Int) == 0)) = true from rfl]
    · have hc : inB (i : Int) b.length = true := inB_ok (by omega) (by omega)
      have hd : decide ((i : Int) < (b.length : Int)) = true := lt_dec (by omega)
      simp only [laws_heldPutS_l0.B, hd, hc, cond_tt, cond_ff, toNat_cast, getD_of _ hx, Option.bind_some, bne_self, beq_selfS, beq_selfB, Bool.not_true, w1, v2, w2, neg_dec (by omega : 0 ≤ k2), w64_succ (by omega : i < 4294967296), List.set_set, List.length_set, getD_set _ _ hi, show (!((3 : Int) == 0)) = true from rfl]
  obtain ⟨k2, a2, e1, e2, e3, e4⟩ := mark_list0 (wt tPut_) 4611686018427387904 (fun s => laws_markPutS_l0.B s.1 s.2.1 s.2.2) (fun b s => laws_heldPutS_l0.B b s.1 s.2) (fun k a => by simp only [laws_markPutS_l0.B, ge_dec (Nat.le_refl _), cond_ff]) (fun k a => by simp only [laws_heldPutS_l0.B, ge_dec (Nat.le_refl _), cond_ff]) hs k a hl hk (by omega) (by omega)
  refine ⟨k2, a2, e1, by simp only [wt_sl, wt_pair, wt_int, wt_bool, wt_str, wt_unit]; omega, ?_, ?_⟩
  · have : laws_markPutS_l0 (k, 0, a) = some (k2, a2) := e3
    simp only [laws_markPutS, this, Option.bind_some]
  · have : laws_heldPutS_l0 a2 (k, 0) = some (.inr k2) := e4
    simp only [laws_heldPutS, this, Option.bind_some, sel]
theorem laws_markDisk_ok (x_0 : List (List Int)) (x_1 : List Put_) (k : Int) (hk : 0 ≤ k) (hw : k + wt tDisk_ (x_0, x_1, ()) ≤ 4611686018427387904) (hz : wt tDisk_ (x_0, x_1, ()) ≤ 2147483648) : ∃ k2 y0 y1, k ≤ k2 ∧ k2 ≤ k + wt tDisk_ (x_0, x_1, ()) ∧ laws_markDisk (x_0, x_1, ()) k = some (k2, (y0, y1, ())) ∧ laws_heldDisk (y0, y1, ()) k = some k2 := by
  simp only [wt_sl, wt_pair, wt_int, wt_bool, wt_str, wt_unit] at hw hz
  obtain ⟨k0, y0, l0, u0, w0, v0⟩ := laws_markInt64SS_ok x_0 k (by omega) (by simp only [wt_sl, wt_pair, wt_int, wt_bool, wt_str, wt_unit]; omega) (by simp only [wt_sl, wt_pair, wt_int, wt_bool, wt_str, wt_unit]; omega)
  simp only [wt_sl, wt_pair, wt_int, wt_bool, wt_str, wt_unit] at u0
  obtain ⟨k1, y1, l1, u1, w1, v1⟩ := laws_markPutS_ok x_1 k0 (by omega) (by simp only [wt_sl, wt_pair, wt_int, wt_bool, wt_str, wt_unit]; omega) (by simp only [wt_sl, wt_pair, wt_int, wt_bool, wt_str, wt_unit]; omega)
  simp only [wt_sl, wt_pair, wt_int, wt_bool, wt_str, wt_unit] at u1
  refine ⟨k1, y0, y1, by omega, by simp only [wt_sl, wt_pair, wt_int, wt_bool, wt_str, wt_unit]; omega, ?_, ?_⟩
  · simp only [laws_markDisk, w0, w1, Option.bind_some, peta]
  · simp only [laws_heldDisk, v0, v1, Option.bind_some, cond_ff, neg_dec (by omega : 0 ≤ k0), neg_dec (by omega : 0 ≤ k1)]
theorem laws_markDiskResult_ok (x_0 : Int) (x_1_0 : List (List Int)) (x_1_1 : List Put_) (k : Int) (hk : 0 ≤ k) (hw : k + wt tDiskResult_ (x_0, (x_1_0, x_1_1, ()), ()) ≤ 4611686018427387904) (hz : wt tDiskResult_ (x_0, (x_1_0, x_1_1, ()), ()) ≤ 2147483648) : ∃ k2 y0 y1, k ≤ k2 ∧ k2 ≤ k + wt tDiskResult_ (x_0, (x_1_0, x_1_1, ()), ()) ∧ laws_markDiskResult (x_0, (x_1_0, x_1_1, ()), ()) k = some (k2, (x_0, (y0, y1, ()), ())) ∧ laws_heldDiskResult (x_0, (y0, y1, ()), ()) k = some k2 := by
  simp only [wt_sl, wt_pair, wt_int, wt_bool, wt_str, wt_unit] at hw hz
  obtain ⟨k0, y0, l0, u0, w0, v0⟩ := laws_markInt64SS_ok x_1_0 k (by omega) (by simp only [wt_sl, wt_pair, wt_int, wt_bool, wt_str, wt_unit]; omega) (by simp only [wt_sl, wt_pair, wt_int, wt_bool, wt_str, wt_unit]; omega)
  simp only [wt_sl, wt_pair, wt_int, wt_bool, wt_str, wt_unit] at u0
  obtain ⟨k1, y1, l1, u1, w1, v1⟩ := laws_markPutS_ok x_1_1 k0 (by omega) (by simp only [wt_sl, wt_pair, wt_int, wt_bool, wt_str, wt_unit]; omega) (by simp only [wt_sl, wt_pair, wt_int, wt_bool, wt_str, wt_unit]; omega)
  simp only [wt_sl, wt_pair, wt_int, wt_bool, wt_str, wt_unit] at u1
  refine ⟨k1, y0, y1, by omega, by simp only [wt_sl, wt_pair, wt_int, wt_bool, wt_str, wt_unit]; omega, ?_, ?_⟩
  · simp only [laws_markDiskResult, laws_markDisk, w0, w1, Option.bind_some, peta]
  · simp only [laws_heldDiskResult, laws_heldDisk, v0, v1, Option.bind_some, cond_ff, neg_dec (by omega : 0 ≤ k0), neg_dec (by omega : 0 ≤ k1)]
def inR (v lo hi : Int) : Bool := cond (decide (v ≥ lo)) (decide (v ≤ hi)) false
theorem inR_iff {v lo hi : Int} : inR v lo hi = true ↔ lo ≤ v ∧ v ≤ hi := by
  unfold inR; by_cases h : v ≥ lo <;> simp [h] <;> omega
theorem spec_l1In_eq (v lo hi : Int) : spec_l1In v lo hi = some (inR v lo hi) := rfl
theorem impl_within_eq (v lo hi : Int) : impl_within v lo hi = some (inR v lo hi) := rfl
def wordsF (w : List Int) : Int := cond (decide ((w.length : Int) > 64)) 2 (cond (w.any fun x => !inR x 0 65535) 3 0)
theorem spec_l1Words_eq (w : List Int) : spec_l1Words w = some (wordsF w) := by
  simp only [spec_l1Words, wordsF]
  by_cases hl : w.length ≤ 64
  · have h : spec_l1Words_l0 w 0 = _ := loop_any w (fun x => !inR x 0 65535) (3 : Int) (fun i hi => by
      simp only [spec_l1Words_l0.B, lt_dec hi, inB_lt hi, cond_tt, toNat_cast, getD_lt _ hi, spec_l1In_eq, Option.bind_some, w64_succ (by omega : i < 4294967296)]) (by
      simp only [spec_l1Words_l0.B, ge_dec (Nat.le_refl _), cond_ff])
    rw [h, show decide ((w.length : Int) > 64) = false by simp; omega]
    cases w.any fun x => !inR x 0 65535 <;> rfl
  · rw [show decide ((w.length : Int) > 64) = true by simp; omega]; rfl
theorem slices_IndexFunc_int64_wordsFault_c1_l0_eq (w : List Int) (hl : w.length ≤ 2147483648) : slices_IndexFunc_int64_wordsFault_c1_l0 w () (w.length : Int) 0 = some (match idxF (fun x => !inR x 0 65535) 0 w with | some j => .inl (j : Int) | none => .inr ()) :=
  loop_idx w (f := fun s => slices_IndexFunc_int64_wordsFault_c1_l0.B w () (w.length : Int) s) (fun x => !inR x 0 65535) (fun i hi => by
    simp only [slices_IndexFunc_int64_wordsFault_c1_l0.B, lt_dec hi, inB_lt hi, cond_tt, toNat_cast, getD_lt _ hi, impl_wordsFault_c1, impl_within_eq, Option.bind_some, w64_succ (by omega : i < 4294967296)]) (by
    simp only [slices_IndexFunc_int64_wordsFault_c1_l0.B, ge_dec (Nat.le_refl _), cond_ff]) 0 (Nat.zero_le _)
theorem idx_contains {α : Type} (p : α → Bool) (l : List α) : ((some (match idxF p 0 l with | some j => .inl (j : Int) | none => .inr () : Int ⊕ Unit)).bind fun o => sel o (fun b => some b) (fun c => some (-1))).bind (fun r => some (decide (r ≥ 0))) = some (l.any p) := by
  cases h : idxF p 0 l with
  | none => rw [idxF_none.1 h]; rfl
  | some j =>
    have : l.any p = true := by
      cases ha : l.any p with
      | true => rfl
      | false => rw [idxF_none.2 ha] at h; cases h
    rw [this]
    simp [sel]
theorem impl_wordsFault_eq (w : List Int) : impl_wordsFault w = some (wordsF w) := by
  simp only [impl_wordsFault, wordsF, slices_ContainsFunc_int64_wordsFault_c1, slices_IndexFunc_int64_wordsFault_c1]
  by_cases hl : w.length ≤ 64
  · rw [show decide ((w.length : Int) > 64) = false by simp; omega, slices_IndexFunc_int64_wordsFault_c1_l0_eq w (by omega), idx_contains]
    simp only [cond_ff, Option.bind_some]
    cases w.any fun x => !inR x 0 65535 <;> rfl
  · rw [show decide ((w.length : Int) > 64) = true by simp; omega]; rfl
theorem wordsF_ok {w : List Int} (h : wordsF w = 0) : w.length ≤ 64 ∧ ∀ x ∈ w, 0 ≤ x ∧ x ≤ 65535 := by
  unfold wordsF at h
  cases h1 : decide ((w.length : Int) > 64) with
  | true => rw [h1] at h; cases h
  | false =>
    rw [h1] at h
    cases h2 : (w.any fun x => !inR x 0 65535) with
    | true => rw [h2] at h; cases h
    | false =>
      refine ⟨by simp at h1; omega, fun x hx => ?_⟩
      have := List.any_eq_false.1 h2 x hx
      simp only [Bool.not_eq_true, Bool.not_eq_false'] at this
      exact inR_iff.1 (by simpa using this)
def stepF (x : Bool × Int × List Int × Unit) : Int := cond (cond x.1 (cond (x.2.1 != 0) true (decide ((x.2.2.1.length : Int) > 0))) false) 1 (cond (!inR x.2.1 0 46) 3 (wordsF x.2.2.1))
theorem spec_StepFault_eq (x : Bool × Int × List Int × Unit) : spec_StepFault x = some (stepF x) := by
  simp only [spec_StepFault, stepF, spec_l1In_eq, spec_l1Words_eq, Option.bind_some]; simp only [some_cond]
def stepsF (l : List (Bool × Int × List Int × Unit)) : Int := cond (decide ((l.length : Int) > 120)) 2 (firstC stepF l)
theorem sel_first (n : Int) (g : Option Int) : ((some (cond (n != 0) (.inl n) (.inr ()) : Int ⊕ Unit)).bind fun o => sel o (fun b => some b) (fun _ => g)) = cond (n != 0) (some n) g := by
  cases (n != 0) <;> rfl
theorem first_zero (n : Int) : cond (n != 0) (some n) (some 0) = some n := by
  cases h : (n != 0)
  · have : n = 0 := by simpa using h
    rw [this]; rfl
  · rfl
theorem spec_l13Steps_eq (l : List (Bool × Int × List Int × Unit)) : spec_l13Steps l = some (stepsF l) := by
  simp only [spec_l13Steps, stepsF]
  by_cases hl : l.length ≤ 120
  · have h : spec_l13Steps_l0 l 0 = _ := loop_first l stepF (fun i hi => by
      simp only [spec_l13Steps_l0.B, lt_dec hi, inB_lt hi, cond_tt, toNat_cast, getD_lt _ hi, spec_StepFault_eq, Option.bind_some, w64_succ (by omega : i < 4294967296)]) (by
      simp only [spec_l13Steps_l0.B, ge_dec (Nat.le_refl _), cond_ff])
    rw [h, show decide ((l.length : Int) > 120) = false by simp; omega, cond_ff, cond_ff, sel_first, first_zero]
  · rw [show decide ((l.length : Int) > 120) = true by simp; omega]; rfl
theorem firstC_zero {α : Type} {c : α → Int} : ∀ {l : List α}, firstC c l = 0 ↔ ∀ x ∈ l, c x = 0
  | [] => by simp [firstC]
  | x :: l => by
    simp only [firstC, List.mem_cons, forall_eq_or_imp]
    cases h : (c x != 0)
    · have : c x = 0 := by simpa using h
      simp only [cond_ff, this, true_and]; exact firstC_zero
    · have : c x ≠ 0 := by simpa using h
      simp only [cond_tt]; exact ⟨fun e => absurd e this, fun e => absurd e.1 this⟩
theorem wt_ints (k : IntKind) : ∀ xs : List Int, (xs.map (wt (.int k))).sum = xs.length
  | [] => rfl
  | x :: xs => by rw [List.map_cons, List.sum_cons, wt_ints k xs, wt_int, List.length_cons]; omega
theorem wt_puts {l : List Put_} {n B : Nat} (hl : l.length ≤ n) (h : ∀ p ∈ l, p.2.1.length ≤ B) : wt (.sl tPut_) l ≤ n * (B + 2) + 1 := by
  rw [wt_sl]
  have := sum_leB (wt tPut_) (B + 2) (xs := l) fun p hp => by
    have := h p hp
    have e := wt_ints .i64 p.2.1
    simp only [wt_pair, wt_sl, wt_int, wt_unit]
    show 1 + ((List.map (wt (.int .i64)) p.2.1).sum + 1 + 0) ≤ _
    rw [e]; omega
  have := Nat.mul_le_mul_right (B + 2) hl
  omega
theorem w64n {n : Int} (h : -9223372036854775808 ≤ n) (h' : n < 9223372036854775808) : w64 n = n := w64_id h (by omega)
def putF (n : Int) (p : Put_) : Int := cond (!inR p.1 0 n) 3 (wordsF p.2.1)
def diskF (d : Disk_) : Int := cond (cond (decide ((d.1.length : Int) > 60)) true (decide ((d.2.1.length : Int) > 200))) 2 (cond (firstC wordsF d.1 != 0) (firstC wordsF d.1) (firstC (putF ((d.1.length : Int) - 1)) d.2.1))
theorem big_ff {d : Disk_} (h1 : d.1.length ≤ 60) (h2 : d.2.1.length ≤ 200) : cond (decide ((d.1.length : Int) > 60)) true (decide ((d.2.1.length : Int) > 200)) = false := by
  rw [show decide ((d.1.length : Int) > 60) = false by simp; omega, show decide ((d.2.1.length : Int) > 200) = false by simp; omega]; rfl
theorem big_tt {d : Disk_} (h : ¬ (d.1.length ≤ 60 ∧ d.2.1.length ≤ 200)) : cond (decide ((d.1.length : Int) > 60)) true (decide ((d.2.1.length : Int) > 200)) = true := by
  by_cases h1 : d.1.length ≤ 60
  · rw [show decide ((d.2.1.length : Int) > 200) = true by simp; omega]; cases decide ((d.1.length : Int) > 60) <;> rfl
  · rw [show decide ((d.1.length : Int) > 60) = true by simp; omega]; rfl
theorem spec_l1Fault_eq (d : Disk_) : spec_l1Fault d = some (diskF d) := by
  simp only [spec_l1Fault, diskF, Option.bind_some]
  by_cases hb : d.1.length ≤ 60 ∧ d.2.1.length ≤ 200
  · obtain ⟨b1, b2⟩ := hb
    have h : spec_l1Fault_l0 d 0 = _ := loop_first d.1 wordsF (fun i hi => by
      simp only [spec_l1Fault_l0.B, lt_dec hi, inB_lt hi, cond_tt, toNat_cast, getD_lt _ hi, spec_l1Words_eq, Option.bind_some, w64_succ (by omega : i < 4294967296)]) (by
      simp only [spec_l1Fault_l0.B, ge_dec (Nat.le_refl _), cond_ff])
    have hw : w64 ((d.1.length : Int) - 1) = (d.1.length : Int) - 1 := w64n (by omega) (by omega)
    have h' : spec_l1Fault_l1 d 0 = _ := loop_first d.2.1 (putF ((d.1.length : Int) - 1)) (fun i hi => by
      simp only [spec_l1Fault_l1.B, lt_dec hi, inB_lt hi, cond_tt, toNat_cast, getD_lt _ hi, spec_l1Words_eq, spec_l1In_eq, hw, Option.bind_some, w64_succ (by omega : i < 4294967296), putF]
      cases inR d.2.1[i].1 0 ((d.1.length : Int) - 1) <;> rfl) (by
      simp only [spec_l1Fault_l1.B, ge_dec (Nat.le_refl _), cond_ff])
    rw [big_ff b1 b2, cond_ff, cond_ff, h, h', sel_first, sel_first, first_zero]
    cases (firstC wordsF d.1 != 0) <;> rfl
  · rw [big_tt hb]; rfl
theorem impl_diskFault_eq (d : Disk_) : impl_diskFault d = some (diskF d) := by
  simp only [impl_diskFault, diskF, Option.bind_some]
  by_cases hb : d.1.length ≤ 60 ∧ d.2.1.length ≤ 200
  · obtain ⟨b1, b2⟩ := hb
    have h : impl_diskFault_l0 d d.1 (d.1.length : Int) 0 = _ := loop_first d.1 wordsF (fun i hi => by
      simp only [impl_diskFault_l0.B, lt_dec hi, inB_lt hi, cond_tt, toNat_cast, getD_lt _ hi, impl_wordsFault_eq, Option.bind_some, w64_succ (by omega : i < 4294967296)]) (by
      simp only [impl_diskFault_l0.B, ge_dec (Nat.le_refl _), cond_ff])
    have hw : w64 ((d.1.length : Int) - 1) = (d.1.length : Int) - 1 := w64n (by omega) (by omega)
    have h' : impl_diskFault_l1 d d.2.1 (d.2.1.length : Int) 0 = _ := loop_first d.2.1 (putF ((d.1.length : Int) - 1)) (fun i hi => by
      simp only [impl_diskFault_l1.B, impl_size_Sint64, lt_dec hi, inB_lt hi, cond_tt, toNat_cast, getD_lt _ hi, impl_wordsFault_eq, impl_within_eq, hw, Option.bind_some, w64_succ (by omega : i < 4294967296), putF]
      cases inR d.2.1[i].1 0 ((d.1.length : Int) - 1) <;> rfl) (by
      simp only [impl_diskFault_l1.B, ge_dec (Nat.le_refl _), cond_ff])
    rw [big_ff b1 b2, cond_ff, cond_ff, h, h', sel_first, sel_first, first_zero]
    cases (firstC wordsF d.1 != 0) <;> rfl
  · rw [big_tt hb]; rfl
/-- a disk that is right -/
structure DiskOk (d : Disk_) : Prop where
  l1 : d.1.length ≤ 60
  l2 : d.2.1.length ≤ 200
  w1 : ∀ w ∈ d.1, w.length ≤ 64 ∧ ∀ x ∈ w, 0 ≤ x ∧ x ≤ 65535
  w2 : ∀ p ∈ d.2.1, (0 ≤ p.1 ∧ p.1 ≤ (d.1.length : Int) - 1) ∧ p.2.1.length ≤ 64 ∧ ∀ x ∈ p.2.1, 0 ≤ x ∧ x ≤ 65535
theorem DiskOk.of {d : Disk_} (h : diskF d = 0) : DiskOk d := by
  unfold diskF at h
  by_cases hb : d.1.length ≤ 60 ∧ d.2.1.length ≤ 200
  · obtain ⟨b1, b2⟩ := hb
    rw [big_ff b1 b2, cond_ff] at h
    cases hc : (firstC wordsF d.1 != 0) with
    | true => rw [hc, cond_tt] at h; simp [h] at hc
    | false =>
      rw [hc, cond_ff] at h
      refine ⟨b1, b2, fun w hw => wordsF_ok (firstC_zero.1 (by simpa using hc) w hw), fun p hp => ?_⟩
      have hp := firstC_zero.1 h p hp
      unfold putF at hp
      cases hr : inR p.1 0 ((d.1.length : Int) - 1) with
      | false => rw [hr] at hp; cases hp
      | true => rw [hr] at hp; exact ⟨inR_iff.1 hr, wordsF_ok hp⟩
  · rw [big_tt hb] at h; cases h
def blockF (d : Disk_) (at_ : Int) : List Int := match lastIx d.2.1 at_ d.2.1.length with
  | some j => (d.2.1.getD j (0, [], ())).2.1
  | none => d.1.getD at_.toNat []
theorem blockP_eq {d : Disk_} (h : d.2.1.length ≤ 200) {at_ : Int} (h0 : 0 ≤ at_) (h1 : at_ < (d.1.length : Int)) : blockP d at_ = some (blockF d at_) := by
  simp only [blockP, blockF]
  rw [show decide (d.2.1.length ≤ 2147483648) = true by simp; omega, cond_tt]
  cases lastIx d.2.1 at_ d.2.1.length with
  | some j => rfl
  | none => simp only [inB, decide_eq_true h0, decide_eq_true h1, Bool.and_self, cond_tt]
theorem impl_Disk_block_eq {d : Disk_} (h : d.2.1.length ≤ 200) {at_ : Int} (h0 : 0 ≤ at_) (h1 : at_ < (d.1.length : Int)) : impl_Disk_block d at_ = some (blockF d at_) := blockP_eq h h0 h1
theorem spec_l1At_l0_eq {d : Disk_} (h : d.2.1.length ≤ 200) (at_ : Int) : ∀ (k : Nat), k ≤ d.2.1.length → spec_l1At_l0 d at_ ((k : Int) - 1) = some (match lastIx d.2.1 at_ k with | some j => .inl (d.2.1.getD j (0, [], ())).2.1 | none => .inr ())
  | 0, _ => loopL_done (by
    show spec_l1At_l0.B d at_ (((0 : Nat) : Int) - 1) = some (.inr (.inr ()))
    unfold spec_l1At_l0.B
    rw [show decide ((((0 : Nat) : Int) - 1) ≥ 0) = false by simp]; rfl)
  | k + 1, hk => by
    have e : ((k + 1 : Nat) : Int) - 1 = (k : Int) := by omega
    have hlt : k < d.2.1.length := by omega
    rw [e]
    have hB : spec_l1At_l0.B d at_ (k : Int) = cond (d.2.1[k].1 == at_) (some (.inr (.inl d.2.1[k].2.1))) (some (.inl ((k : Int) - 1))) := by
      simp only [spec_l1At_l0.B, inB_lt hlt, toNat_cast, getD_lt _ hlt, cond_tt, show decide ((k : Int) ≥ 0) = true by simp, w64n (by omega : -9223372036854775808 ≤ (k : Int) - 1) (by omega)]
    have eg : d.2.1.getD k (0, [], ()) = d.2.1[k] := getD_lt _ hlt
    by_cases hc : d.2.1[k].1 = at_
    · rw [show spec_l1At_l0 d at_ (k : Int) = some (.inl d.2.1[k].2.1) from loopL_done (by
        show spec_l1At_l0.B d at_ (k : Int) = _
        rw [hB, show (d.2.1[k].1 == at_) = true by simpa using hc, cond_tt])]
      simp only [lastIx, eg, if_pos hc]
    · rw [show spec_l1At_l0 d at_ (k : Int) = spec_l1At_l0 d at_ ((k : Int) - 1) from loopL_step (by
        show spec_l1At_l0.B d at_ (k : Int) = _
        rw [hB, show (d.2.1[k].1 == at_) = false by simpa using hc, cond_ff]), spec_l1At_l0_eq h at_ k (by omega)]
      simp only [lastIx, eg, if_neg hc]
theorem spec_l1At_eq {d : Disk_} (h : d.2.1.length ≤ 200) {at_ : Int} (h0 : 0 ≤ at_) (h1 : at_ < (d.1.length : Int)) : spec_l1At d at_ = some (blockF d at_) := by
  simp only [spec_l1At, blockF]
  rw [w64n (by omega : -9223372036854775808 ≤ (d.2.1.length : Int) - 1) (by omega), spec_l1At_l0_eq h at_ _ (Nat.le_refl _)]
  cases lastIx d.2.1 at_ d.2.1.length with
  | some j => rfl
  | none => simp only [Option.bind_some, sel, inB, decide_eq_true h0, decide_eq_true h1, Bool.and_self, cond_tt]
/-- the number of the last sync; a code -/
def seqF (d : Disk_) : Int × Int := cond (diskF d != 0) (0, diskF d) (cond ((d.1.length : Int) != 47) (0, 1) (cond (cond (((blockF d 0).length : Int) != 2) true ((blockF d 0).getD 0 0 != 7)) (0, 5) (cond (!inR ((blockF d 0).getD 1 0) 1 60000) (0, 5) ((blockF d 0).getD 1 0, 0))))
theorem impl_seqOf_eq (d : Disk_) : impl_seqOf d = some (seqF d) := by
  simp only [impl_seqOf, seqF, impl_diskFault_eq, Option.bind_some]
  cases h : (diskF d != 0) with
  | true => rfl
  | false =>
    have hok := DiskOk.of (by simpa using h)
    simp only [cond_ff]
    cases h1 : ((d.1.length : Int) != 47) with
    | true => rfl
    | false =>
      have h47 : (d.1.length : Int) = 47 := by simpa using h1
      simp only [cond_ff, impl_Disk_block_eq hok.l2 (Int.le_refl 0) (by omega), Option.bind_some]
      cases h2 : (((blockF d 0).length : Int) != 2) with
      | true => rfl
      | false =>
        have hl2 : (blockF d 0).length = 2 := by have : ((blockF d 0).length : Int) = 2 := by simpa using h2
                                                 omega
        rw [hl2]
        simp only [cond_ff, cond_tt, Bool.not_false, show inB 0 2 = true from rfl, show inB 1 2 = true from rfl, impl_isSeq, impl_within_eq, Option.bind_some, Int.toNat_zero, show (1 : Int).toNat = 1 from rfl]
        cases ((blockF d 0).getD 0 0 != 7) with
        | true => rfl
        | false => cases inR ((blockF d 0).getD 1 0) 1 60000 <;> rfl
theorem spec_SeqOf_eq (d : Disk_) : spec_SeqOf d = some ((seqF d).2, (seqF d).1, ()) := by
  simp only [spec_SeqOf, seqF, spec_l1Fault_eq, Option.bind_some]
  cases h : (diskF d != 0) with
  | true => rfl
  | false =>
    have hok := DiskOk.of (by simpa using h)
    simp only [cond_ff]
    cases h1 : ((d.1.length : Int) != 47) with
    | true => rfl
    | false =>
      have h47 : (d.1.length : Int) = 47 := by simpa using h1
      simp only [cond_ff, spec_l1At_eq hok.l2 (Int.le_refl 0) (by omega), Option.bind_some]
      cases h2 : (((blockF d 0).length : Int) != 2) with
      | true => rfl
      | false =>
        have hl2 : (blockF d 0).length = 2 := by have : ((blockF d 0).length : Int) = 2 := by simpa using h2
                                                 omega
        rw [hl2]
        simp only [cond_ff, cond_tt, Bool.not_false, show inB 0 2 = true from rfl, show inB 1 2 = true from rfl, spec_l12Seq, spec_l1In_eq, Option.bind_some, Int.toNat_zero, show (1 : Int).toNat = 1 from rfl]
        cases ((blockF d 0).getD 0 0 != 7) with
        | true => rfl
        | false => cases inR ((blockF d 0).getD 1 0) 1 60000 <;> rfl
theorem eq_fold : ∀ (a b : List Int) (c : List Int) (i : Nat), c.drop i = b → a.length = b.length →
    foldE (τ := Unit) (fun i x _ => cond (x != c.getD i 0) (.inr (.inl false)) (.inl ())) (fun _ => (.inr () : Bool ⊕ Unit)) i a () = cond (a == b) (.inr ()) (.inl false)
  | [], [], c, i, h, hl => rfl
  | x :: a, y :: b, c, i, h, hl => by
    have hc : c.getD i 0 = y := by
      have : (c.drop i)[0]? = some y := by rw [h]; rfl
      rw [List.getElem?_drop] at this
      simp only [Nat.add_zero] at this
      simp [List.getD, this]
    have hd : c.drop (i + 1) = b := by
      have : (c.drop i).drop 1 = b := by rw [h]; rfl
      rwa [List.drop_drop] at this
    simp only [foldE, hc]
    cases he : (x != y) with
    | true =>
      have : (x :: a == y :: b) = false := by
        have hne : x ≠ y := by simpa using he
        simp [hne]
      rw [this]; rfl
    | false =>
      have hxy : x = y := by simpa using he
      subst hxy
      have ih := eq_fold a b c (i + 1) hd (by simpa using hl)
      simp only [cond_ff, sel]
      rw [ih]
      have : (x :: a == x :: b) = (a == b) := by simp
      rw [this]
theorem loop_eq {f : Int → Option (Int ⊕ (Bool ⊕ Unit))} (a b : List Int) (hl : a.length = b.length)
    (hs : ∀ (i : Nat) (h : i < a.length), f (i : Int) = cond (a[i] != b.getD i 0) (some (.inr (.inl false))) (some (.inl ((i + 1 : Nat) : Int)))) (he : f (a.length : Int) = some (.inr (.inr ()))) :
    loopL f 0 = some (cond (a == b) (.inr ()) (.inl false)) := by
  rw [loop_list0 (τ := Unit) a (fun i _ => (i : Int)) (fun i x _ => cond (x != b.getD i 0) (.inr (.inl false)) (.inl ())) (fun _ => (.inr () : Bool ⊕ Unit)) (fun i hi t => by rw [hs i hi]; cases (a[i] != b.getD i 0) <;> rfl) (fun t => he) () (s := 0) rfl, eq_fold a b b 0 rfl hl]
theorem eq_len {a b : List Int} (h : a.length ≠ b.length) : (a == b) = false := by
  have : a ≠ b := fun e => h (by rw [e])
  simpa using this
theorem spec_l4Ints_eq (a b : List Int) (hl : a.length ≤ 2147483648) : spec_l4Ints a b = some (a == b) := by
  simp only [spec_l4Ints]
  by_cases h : a.length = b.length
  · rw [show ((a.length : Int) != (b.length : Int)) = false by simp [h], cond_ff]
    have := loop_eq (f := fun s => spec_l4Ints_l0.B a b s) a b h (fun i hi => by
      simp only [spec_l4Ints_l0.B, lt_dec hi, inB_lt hi, inB_lt (show i < b.length by omega), cond_tt, toNat_cast, getD_lt _ hi, w64_succ (by omega : i < 4294967296)]) (by
      simp only [spec_l4Ints_l0.B, ge_dec (Nat.le_refl _), cond_ff])
    rw [show spec_l4Ints_l0 a b 0 = _ from this]
    cases (a == b) <;> rfl
  · rw [show ((a.length : Int) != (b.length : Int)) = true by simp; omega, cond_tt, eq_len h]
theorem slices_Equal_int64_eq (a b : List Int) (hl : a.length ≤ 2147483648) : slices_Equal_int64 a b = some (a == b) := by
  simp only [slices_Equal_int64]
  by_cases h : a.length = b.length
  · rw [show ((a.length : Int) != (b.length : Int)) = false by simp [h], cond_ff]
    have := loop_eq (f := fun s => slices_Equal_int64_l0.B a b (a.length : Int) s) a b h (fun i hi => by
      simp only [slices_Equal_int64_l0.B, lt_dec hi, inB_lt hi, inB_lt (show i < b.length by omega), cond_tt, toNat_cast, getD_lt _ hi, w64_succ (by omega : i < 4294967296)]) (by
      simp only [slices_Equal_int64_l0.B, ge_dec (Nat.le_refl _), cond_ff])
    rw [show slices_Equal_int64_l0 a b (a.length : Int) 0 = _ from this]
    cases (a == b) <;> rfl
  · rw [show ((a.length : Int) != (b.length : Int)) = true by simp; omega, cond_tt, eq_len h]
theorem blockF_len {d : Disk_} (hok : DiskOk d) (at_ : Int) : (blockF d at_).length ≤ 64 := by
  unfold blockF
  cases h : lastIx d.2.1 at_ d.2.1.length with
  | some j =>
    have hj : j < d.2.1.length := by
      have : ∀ (ps : List (Int × List Int × Unit)) (k j : Nat), lastIx ps at_ k = some j → j < k := by
        intro ps k
        induction k with
        | zero => intro j h; cases h
        | succ k ih =>
          intro j h
          unfold lastIx at h
          split at h
          · cases h; omega
          · have := ih j h; omega
      exact this _ _ _ h
    show (d.2.1.getD j (0, [], ())).2.1.length ≤ 64
    rw [show d.2.1.getD j (0, [], ()) = d.2.1[j] from getD_lt _ hj]
    exact (hok.w2 _ (List.getElem_mem hj)).2.1
  | none =>
    show (d.1.getD at_.toNat []).length ≤ 64
    rw [List.getD_eq_getElem?_getD]
    cases h2 : d.1[at_.toNat]? with
    | none => simp
    | some w => exact (hok.w1 w (List.mem_of_getElem? h2)).1
theorem clonePutsP_eq {l : List Put_} (h : l.length ≤ 2147483648) (hw : ∀ p ∈ l, p.2.1.length ≤ 2147483648) : clonePutsP l = some l := by
  have : (decide (l.length ≤ 2147483648) && l.all (fun x => decide (x.2.1.length ≤ 2147483648))) = true := by
    simp only [Bool.and_eq_true, decide_eq_true_eq, List.all_eq_true]
    exact ⟨h, hw⟩
  simp only [clonePutsP, this, cond_tt]
def mapG {α β : Type} (h : Nat → α → β) : Nat → List α → List β
  | _, [] => []
  | i, x :: l => h i x :: mapG h (i + 1) l
theorem mapG_len {α β : Type} (h : Nat → α → β) : ∀ (l : List α) (i : Nat), (mapG h i l).length = l.length
  | [], _ => rfl
  | x :: l, i => by simp [mapG, mapG_len h l]
theorem mapG_mem {α β : Type} {h : Nat → α → β} {y : β} : ∀ {l : List α} {i : Nat}, y ∈ mapG h i l → ∃ j x, x ∈ l ∧ y = h j x
  | x :: l, i, hy => by
    rcases List.mem_cons.1 hy with rfl | hy
    · exact ⟨i, x, List.mem_cons_self, rfl⟩
    · obtain ⟨j, z, h1, h2⟩ := mapG_mem hy
      exact ⟨j, z, List.mem_cons_of_mem _ h1, h2⟩
theorem foldE_mapG {α β ρ : Type} (h : Nat → α → β) (e : List β → ρ) : ∀ (l : List α) (i : Nat) (t : List β), foldE (fun i x t => .inl (t ++ [h i x])) e i l t = e (t ++ mapG h i l)
  | [], i, t => by simp [foldE, mapG]
  | x :: l, i, t => by
    simp only [foldE, sel]
    rw [foldE_mapG h e l (i + 1)]
    simp [mapG]
theorem foldE_bad {α β ρ : Type} (bad : α → Bool) (c : ρ) (h : Nat → α → β) : ∀ (l : List α) (i : Nat) (t : List β),
    foldE (fun i x t => cond (bad x) (.inr (.inl c)) (.inl (t ++ [h i x]))) (fun t => (.inr t : ρ ⊕ List β)) i l t = cond (l.any bad) (.inl c) (.inr (t ++ mapG h i l))
  | [], i, t => by simp [foldE, mapG]
  | x :: l, i, t => by
    simp only [foldE, List.any_cons]
    cases hb : bad x with
    | true => rfl
    | false =>
      simp only [cond_ff, sel, Bool.false_or]
      rw [foldE_bad bad c h l (i + 1)]
      simp [mapG]
def badAt (x : Int) : Bool := !inR x 17 26
def scanF (d : Disk_) (l : List Int) : List Put_ := mapG (fun i x => (x, blockF d ((i + 2 : Nat) : Int), ())) 0 l
theorem drop_get {l : List Int} {i : Nat} (h : i < (l.drop 3).length) : (l.drop 3)[i] = l.getD (3 + i) 0 := by
  have h3 : 3 + i < l.length := by simp at h; omega
  rw [getD_lt _ h3, List.getElem_drop]
theorem spec_l13Found_l0_eq {d : Disk_} (hok : DiskOk d) (h47 : (d.1.length : Int) = 47) (l : List Int) (hl : l.length ≤ 64) (hn : 3 ≤ l.length) (hm : l.length ≤ 13) :
    spec_l13Found_l0 d l (((l.drop 3).length : Nat) : Int) (0, []) = some (cond ((l.drop 3).any badAt) (.inl (false, [])) (.inr (scanF d (l.drop 3)))) := by
  have h := loop_listI0 (τ := List Put_) (f := fun s => spec_l13Found_l0.B d l (((l.drop 3).length : Nat) : Int) s.1 s.2) (l.drop 3) (fun i t => ((i : Int), t)) (fun i x t => cond (badAt x) (.inr (.inl (false, []))) (.inl (t ++ [(x, blockF d ((i + 2 : Nat) : Int), ())])))
    (fun t => (.inr t : (Bool × List Put_) ⊕ List Put_)) (fun i t => t.length ≤ i) (fun i hi t ht => by
      have e3 : w64 ((3 : Int) + (i : Int)) = ((3 + i : Nat) : Int) := by rw [w64n (by omega) (by simp at hi; omega)]; omega
      have e2 : w64 ((2 : Int) + (i : Int)) = ((i + 2 : Nat) : Int) := by rw [w64n (by omega) (by simp at hi; omega)]; omega
      have h3 : 3 + i < l.length := by simp at hi; omega
      simp only [spec_l13Found_l0.B, lt_dec hi, cond_tt, e3, e2, inB_lt h3, toNat_cast, ← drop_get hi, spec_l1In_eq, Option.bind_some, spec_l1At_eq hok.l2 (at_ := ((i + 2 : Nat) : Int)) (by omega) (by omega), spec_l1Ints, List.nil_append, badAt,
        w64_succ (by omega : i < 4294967296)]
      rw [decide_eq_true (Nat.le_trans (blockF_len hok _) (by omega : 64 ≤ 2147483648))]
      cases inR (l.drop 3)[i] 17 26 with
      | false => rfl
      | true =>
        simp only [Bool.not_true, cond_ff, cond_tt, sel, Option.bind_some]
        rw [show decide ((t ++ [((l.drop 3)[i], blockF d ((i + 2 : Nat) : Int), ())]).length ≤ 2147483648) = true by simp; simp at hi; omega, cond_tt]) (fun i hi t t' ht e => by
      cases hb : badAt (l.drop 3)[i] with
      | true => rw [hb] at e; cases e
      | false => rw [hb] at e; cases e; simp; omega) (fun t ht => by
      simp only [spec_l13Found_l0.B, ge_dec (Nat.le_refl _), cond_ff]) [] (Nat.le_refl _) (s := (0, [])) rfl
  rw [show spec_l13Found_l0 d l (((l.drop 3).length : Nat) : Int) (0, []) = _ from h, foldE_bad]
  rfl
theorem spec_l13Found_l1_eq {d : Disk_} (hok : DiskOk d) (h47 : (d.1.length : Int) = 47) (l : List Int) (hl : l.length ≤ 64) (hn : 3 ≤ l.length) (hm : l.length ≤ 13) :
    spec_l13Found_l1 d l (((l.drop 3).length : Nat) : Int) (0, []) = some (cond ((l.drop 3).any badAt) (.inl (false, [])) (.inr (scanF d (l.drop 3)))) := spec_l13Found_l0_eq hok h47 l hl hn hm
theorem impl_scanJournal_l0_eq {d : Disk_} (hok : DiskOk d) (h47 : (d.1.length : Int) = 47) (l : List Int) (hm : l.length ≤ 10) : impl_scanJournal_l0 d l (l.length : Int) (0, []) = some (scanF d l) := by
  have h := loop_listI0 (τ := List Put_) (f := fun s => impl_scanJournal_l0.B d l (l.length : Int) s.1 s.2) l (fun i t => ((i : Int), t)) (fun i x t => .inl (t ++ [(x, blockF d ((i + 2 : Nat) : Int), ())]))
    (fun t => t) (fun i t => t.length ≤ i) (fun i hi t ht => by
      have e2 : w64 ((2 : Int) + (i : Int)) = ((i + 2 : Nat) : Int) := by rw [w64n (by omega) (by omega)]; omega
      simp only [impl_scanJournal_l0.B, lt_dec hi, cond_tt, e2, inB_lt hi, toNat_cast, getD_lt _ hi, Option.bind_some, impl_Disk_block_eq hok.l2 (at_ := ((i + 2 : Nat) : Int)) (by omega) (by omega), w64_succ (by omega : i < 4294967296), sel]
      rw [show decide ((t ++ [(l[i], blockF d ((i + 2 : Nat) : Int), ())]).length ≤ 2147483648) = true by simp; omega, cond_tt]) (fun i hi t t' ht e => by cases e; simp; omega) (fun t ht => by
      simp only [impl_scanJournal_l0.B, ge_dec (Nat.le_refl _), cond_ff]) [] (Nat.le_refl _) (s := (0, [])) rfl
  rw [show impl_scanJournal_l0 d l (l.length : Int) (0, []) = _ from h, foldE_mapG]
  rfl
theorem slices_ContainsFunc_int64_scanJournal_c1_eq (l : List Int) (hl : l.length ≤ 2147483648) : slices_ContainsFunc_int64_scanJournal_c1 l () = some (l.any badAt) := by
  have h : slices_IndexFunc_int64_scanJournal_c1_l0 l () (l.length : Int) ((0 : Nat) : Int) = _ := loop_idx l (f := fun s => slices_IndexFunc_int64_scanJournal_c1_l0.B l () (l.length : Int) s) badAt (fun i hi => by
    simp only [slices_IndexFunc_int64_scanJournal_c1_l0.B, impl_scanJournal_c1, impl_within_eq, lt_dec hi, inB_lt hi, cond_tt, toNat_cast, getD_lt _ hi, Option.bind_some, badAt, w64_succ (by omega : i < 4294967296)]) (by
    simp only [slices_IndexFunc_int64_scanJournal_c1_l0.B, ge_dec (Nat.le_refl _), cond_ff]) 0 (Nat.zero_le _)
  rw [List.drop_zero] at h
  simp only [slices_ContainsFunc_int64_scanJournal_c1, slices_IndexFunc_int64_scanJournal_c1]
  rw [show slices_IndexFunc_int64_scanJournal_c1_l0 l () (l.length : Int) 0 = _ from h]
  exact idx_contains badAt l
/-- the puts of the journal -/
def foundF (d : Disk_) (seq : Int) : List Put_ × Bool :=
  let b := blockF d 1
  cond (cond (decide ((b.length : Int) < 3)) true (cond (b.getD 0 0 != 1) true (cond (b.getD 1 0 != seq) true (cond (!inR (b.getD 2 0) 0 10) true (cond ((b.length : Int) != 3 + b.getD 2 0) true (cond (!(blockF d (2 + b.getD 2 0) == [2, seq, b.getD 2 0])) true ((b.drop 3).any badAt)))))))
    ([], false) (scanF d (b.drop 3), true)
theorem scan_both {d : Disk_} (hok : DiskOk d) (h47 : (d.1.length : Int) = 47) (seq : Int) : spec_l13Found d seq = some (foundF d seq) ∧ impl_scanJournal d seq = some (foundF d seq) := by
  have hb : blockF d 1 = blockF d 1 := rfl
  have hl := blockF_len hok 1
  simp only [spec_l13Found, impl_scanJournal, foundF, spec_l1At_eq hok.l2 (at_ := 1) (by omega) (by omega), impl_Disk_block_eq hok.l2 (at_ := 1) (by omega) (by omega), Option.bind_some]
  generalize blockF d 1 = b at hl
  by_cases h3 : (b.length : Int) < 3
  · rw [decide_eq_true h3]; exact ⟨rfl, rfl⟩
  · rw [decide_eq_false h3]
    have i0 : inB 0 b.length = true := by simp [inB]; omega
    have i1 : inB 1 b.length = true := by simp [inB]; omega
    have i2 : inB 2 b.length = true := by simp [inB]; omega
    simp only [i0, i1, i2, cond_ff, cond_tt, Bool.not_false, Bool.not_true, Option.bind_some, Int.toNat_zero, show (1 : Int).toNat = 1 from rfl, show (2 : Int).toNat = 2 from rfl, show (3 : Int).toNat = 3 from rfl]
    cases h0 : (b.getD 0 0 != 1) with
    | true => exact ⟨rfl, rfl⟩
    | false =>
      simp only [cond_ff, cond_tt, Bool.not_false]
      cases h1 : (b.getD 1 0 != seq) with
      | true => exact ⟨rfl, rfl⟩
      | false =>
        simp only [cond_ff, cond_tt, Bool.not_false, spec_l1In_eq, impl_within_eq, Option.bind_some]
        cases hr : inR (b.getD 2 0) 0 10 with
        | false => exact ⟨rfl, rfl⟩
        | true =>
          have hn := inR_iff.1 hr
          have e3 : w64 ((3 : Int) + b.getD 2 0) = 3 + b.getD 2 0 := w64n (by omega) (by omega)
          have e2 : w64 ((2 : Int) + b.getD 2 0) = 2 + b.getD 2 0 := w64n (by omega) (by omega)
          simp only [Bool.not_true, cond_ff, cond_tt, Bool.not_false, e3, e2, Option.bind_some, impl_size_int64]
          cases hs : ((b.length : Int) != 3 + b.getD 2 0) with
          | true => exact ⟨rfl, rfl⟩
          | false =>
            have hsz : (b.length : Int) = 3 + b.getD 2 0 := by simpa using hs
            have hd : (((b.drop 3).length : Nat) : Int) = b.getD 2 0 := by simp only [List.length_drop]; omega
            have hbl := blockF_len hok (2 + b.getD 2 0)
            simp only [cond_ff, cond_tt, Option.bind_some, spec_l1At_eq hok.l2 (at_ := 2 + b.getD 2 0) (by omega) (by omega), impl_Disk_block_eq hok.l2 (at_ := 2 + b.getD 2 0) (by omega) (by omega), spec_l4Ints_eq _ _ (Nat.le_trans hbl (by omega)),
              slices_Equal_int64_eq _ _ (Nat.le_trans hbl (by omega)), List.take_length, show (decide ((0 : Int) ≤ (3 : Int)) && decide ((3 : Int) ≤ (b.length : Int))) = true by simp; omega]
            rw [slices_ContainsFunc_int64_scanJournal_c1_eq _ (by simp; omega), impl_scanJournal_l0_eq hok h47 (b.drop 3) (by simp; omega)]
            have hf := spec_l13Found_l1_eq hok h47 b hl (by omega) (by omega)
            rw [hd] at hf
            rw [hf]
            cases (blockF d (2 + b.getD 2 0) == [2, seq, b.getD 2 0]) with
            | false =>
              simp only [Bool.not_false, cond_tt, Option.bind_some]
              cases (b.drop 3).any badAt <;> (constructor <;> first | rfl | trivial)
            | true =>
              simp only [Bool.not_true, cond_ff, cond_tt, Option.bind_some]
              cases (b.drop 3).any badAt <;> (constructor <;> first | rfl | trivial)
theorem seqF_ok {d : Disk_} (h : (seqF d).2 = 0) : DiskOk d ∧ (d.1.length : Int) = 47 := by
  unfold seqF at h
  cases h1 : (diskF d != 0) with
  | true =>
    rw [h1, cond_tt] at h
    have h' : diskF d = 0 := h
    rw [h'] at h1; cases h1
  | false =>
    rw [h1, cond_ff] at h
    refine ⟨DiskOk.of (by simpa using h1), ?_⟩
    cases h2 : ((d.1.length : Int) != 47) with
    | true => rw [h2] at h; cases h
    | false => simpa using h2
theorem scanF_len (d : Disk_) (l : List Int) : (scanF d l).length = l.length := mapG_len _ _ _
theorem scanF_words {d : Disk_} (hok : DiskOk d) {l : List Int} {p : Put_} (h : p ∈ scanF d l) : p.2.1.length ≤ 64 := by
  obtain ⟨j, x, _, rfl⟩ := mapG_mem h
  exact blockF_len hok _
theorem foundF_bnd {d : Disk_} (hok : DiskOk d) (seq : Int) : (foundF d seq).1.length ≤ 64 ∧ ∀ p ∈ (foundF d seq).1, p.2.1.length ≤ 64 := by
  have hl := blockF_len hok 1
  unfold foundF
  dsimp only
  generalize (cond (decide (((blockF d 1).length : Int) < 3)) true _) = c
  cases c with
  | true => exact ⟨Nat.zero_le _, fun p h => by cases h⟩
  | false =>
    simp only [cond_ff, scanF_len]
    exact ⟨by simp; omega, fun p h => scanF_words hok h⟩
theorem putStepsP_eq {l : List Put_} (h : l.length ≤ 1048576) (hw : ∀ p ∈ l, p.2.1.length ≤ 2147483648) : putStepsP l = some (l.map toStep) := by
  have : (decide (l.length ≤ 1048576) && l.all (fun x => decide (x.2.1.length ≤ 2147483648))) = true := by
    simp only [Bool.and_eq_true, decide_eq_true_eq, List.all_eq_true]
    exact ⟨h, hw⟩
  simp only [putStepsP, this, cond_tt]
theorem spec_l13Puts_eq {l : List Put_} (h : l.length ≤ 1048576) (hw : ∀ p ∈ l, p.2.1.length ≤ 2147483648) : spec_l13Puts l = some (l.map toStep) := by
  have hh : spec_l13Puts_l0 l (0, []) = some ([] ++ l.map toStep) := by
    rw [← foldl_map]
    exact loop_foldI l (f := fun s => spec_l13Puts_l0.B l s.1 s.2) (fun t x => t ++ [toStep x]) (fun t => t) (fun i t => t.length ≤ i) (fun i hi t ht => by
      have hw := hw _ (List.getElem_mem hi)
      constructor
      · simp only [spec_l13Puts_l0.B, lt_dec hi, inB_lt hi, cond_tt, toNat_cast, getD_lt _ hi, Option.bind_some, spec_l1Ints, List.nil_append, decide_eq_true hw, w64_succ (by omega : i < 4294967296), toStep]
        rw [show decide ((t ++ [((false, l[i].1, l[i].2.1, ()) : Step_)]).length ≤ 2147483648) = true by simp; omega, cond_tt]
      · simp; omega) (fun t ht => by
      simp only [spec_l13Puts_l0.B, ge_dec (Nat.le_refl _), cond_ff]) [] (Nat.le_refl _)
  simp only [spec_l13Puts, hh, Option.bind_some, List.nil_append]
theorem seqF_rng {d : Disk_} (h : (seqF d).2 = 0) : 1 ≤ (seqF d).1 ∧ (seqF d).1 ≤ 60000 := by
  unfold seqF at h ⊢
  cases h1 : (diskF d != 0) with
  | true => rw [h1, cond_tt] at h; have h' : diskF d = 0 := h; rw [h'] at h1; cases h1
  | false =>
    rw [h1, cond_ff] at h
    cases h2 : ((d.1.length : Int) != 47) with
    | true => rw [h2] at h; cases h
    | false =>
      rw [h2, cond_ff] at h
      cases h3 : (cond (((blockF d 0).length : Int) != 2) true ((blockF d 0).getD 0 0 != 7)) with
      | true => rw [h3] at h; cases h
      | false =>
        rw [h3, cond_ff] at h
        cases h4 : inR ((blockF d 0).getD 1 0) 1 60000 with
        | false => rw [h4] at h; cases h
        | true => exact inR_iff.1 h4
/-- the steps of a mount -/
def mountF (d : Disk_) (seq : Int) : List Step_ := cond (cond (!(foundF d seq).2) true (seq == 60000)) [] ((foundF d seq).1.map toStep ++ [(true, 0, [], ()), (false, 0, [7, seq + 1], ()), (true, 0, [], ())])
theorem mountF_bnd {d : Disk_} (hok : DiskOk d) (seq : Int) : (mountF d seq).length ≤ 70 ∧ ∀ p ∈ mountF d seq, p.2.2.1.length ≤ 64 := by
  obtain ⟨b1, b2⟩ := foundF_bnd hok seq
  unfold mountF
  cases (cond (!(foundF d seq).2) true (seq == 60000)) with
  | true => exact ⟨Nat.zero_le _, fun p h => by cases h⟩
  | false =>
    refine ⟨by simp; omega, fun p hp => ?_⟩
    rcases List.mem_append.1 hp with h | h
    · obtain ⟨q, hq, rfl⟩ := List.mem_map.1 h
      exact b2 q hq
    · simp at h
      rcases h with rfl | rfl | rfl <;> simp
theorem impl_planMount_eq {d : Disk_} (hok : DiskOk d) (h47 : (d.1.length : Int) = 47) {seq : Int} (hs : 1 ≤ seq ∧ seq ≤ 60000) : impl_planMount d seq = some (mountF d seq) := by
  obtain ⟨b1, b2⟩ := foundF_bnd hok seq
  simp only [impl_planMount, (scan_both hok h47 seq).2, Option.bind_some, mountF]
  cases (cond (!(foundF d seq).2) true (seq == 60000)) with
  | true => rfl
  | false =>
    simp only [cond_ff, impl_putSteps, putStepsP_eq (l := (foundF d seq).1) (by omega) (fun p hp => Nat.le_trans (b2 p hp) (by omega)), Option.bind_some, impl_superWords, w64n (by omega : -9223372036854775808 ≤ seq + 1) (by omega)]
    rw [show decide (((foundF d seq).1.map toStep ++ [((true, 0, [], ()) : Step_), (false, 0, [7, seq + 1], ()), (true, 0, [], ())]).length ≤ 2147483648) = true by simp; omega, cond_tt]
theorem DiskOk.zero {d : Disk_} (h : DiskOk d) : diskF d = 0 := by
  have hw : ∀ w : List Int, w.length ≤ 64 → (∀ x ∈ w, 0 ≤ x ∧ x ≤ 65535) → wordsF w = 0 := fun w h1 h2 => by
    unfold wordsF
    rw [show decide ((w.length : Int) > 64) = false by simp; omega, cond_ff]
    rw [show (w.any fun x => !inR x 0 65535) = false from List.any_eq_false.2 (fun x hx => by
      have := inR_iff.2 (h2 x hx); simp [this])]
    rfl
  unfold diskF
  rw [big_ff h.l1 h.l2, cond_ff]
  rw [firstC_zero.2 (fun w hm => hw w (h.w1 w hm).1 (h.w1 w hm).2)]
  show cond ((0 : Int) != 0) _ _ = 0
  rw [show ((0 : Int) != 0) = false from rfl, cond_ff]
  refine firstC_zero.2 (fun p hm => ?_)
  obtain ⟨h1, h2, h3⟩ := h.w2 p hm
  unfold putF
  rw [inR_iff.2 h1]
  exact hw _ h2 h3
theorem fold1 {α β : Type} : ∀ (l : List α) (a : List α) (b : β), l.foldl (fun (t : List α × β) x => (t.1 ++ [x], t.2)) (a, b) = (a ++ l, b)
  | [], a, b => by simp
  | x :: l, a, b => by rw [List.foldl_cons, fold1 l]; simp
theorem fold2 {α β γ : Type} : ∀ (l : List α) (a : β) (b : List α) (c : γ), l.foldl (fun (t : β × List α × γ) x => (t.1, t.2.1 ++ [x], t.2.2)) (a, b, c) = (a, b ++ l, c)
  | [], a, b, c => by simp
  | x :: l, a, b, c => by rw [List.foldl_cons, fold2 l]; simp
theorem spec_l1Copy_eq {d : Disk_} (h : DiskOk d) : spec_l1Copy d = some d := by
  obtain ⟨bs, ps, ⟨⟩⟩ := d
  have hl1 : bs.length ≤ 60 := h.l1
  have hl2 : ps.length ≤ 200 := h.l2
  have h0 : spec_l1Copy_l0 (bs, ps, ()) ([], [], ()) (0, ([], [], ())) = some (bs.foldl (fun (t : List (List Int) × List Put_ × Unit) x => (t.1 ++ [x], t.2)) ([], [], ())) :=
    loop_foldI bs (f := fun s => spec_l1Copy_l0.B (bs, ps, ()) ([], [], ()) s.1 s.2) _ (fun t => t) (fun i t => t.1.length ≤ i) (fun i hi t ht => by
      have hw : bs[i].length ≤ 64 := (h.w1 _ (List.getElem_mem hi)).1
      constructor
      · simp only [spec_l1Copy_l0.B, lt_dec hi, inB_lt hi, cond_tt, toNat_cast, getD_lt _ hi, spec_l1Ints, List.nil_append, decide_eq_true (show bs[i].length ≤ 2147483648 by omega), Option.bind_some, w64_succ (by omega : i < 4294967296)]
        rw [show decide ((t.1 ++ [bs[i]]).length ≤ 2147483648) = true by simp; omega, cond_tt]
      · simp; omega) (fun t ht => by simp only [spec_l1Copy_l0.B, ge_dec (Nat.le_refl _), cond_ff]) _ (Nat.le_refl _)
  have h1 : spec_l1Copy_l1 (bs, ps, ()) ([], [], ()) (0, (bs, [], ())) = some (ps.foldl (fun (t : List (List Int) × List Put_ × Unit) x => (t.1, t.2.1 ++ [x], t.2.2)) (bs, [], ())) :=
    loop_foldI ps (f := fun s => spec_l1Copy_l1.B (bs, ps, ()) ([], [], ()) s.1 s.2) _ (fun t => t) (fun i t => t.2.1.length ≤ i) (fun i hi t ht => by
      have hw : ps[i].2.1.length ≤ 64 := (h.w2 _ (List.getElem_mem hi)).2.1
      constructor
      · simp only [spec_l1Copy_l1.B, lt_dec hi, inB_lt hi, cond_tt, toNat_cast, getD_lt _ hi, spec_l1Ints, List.nil_append, decide_eq_true (show ps[i].2.1.length ≤ 2147483648 by omega), Option.bind_some, w64_succ (by omega : i < 4294967296)]
        rw [show decide ((t.2.1 ++ [ps[i]]).length ≤ 2147483648) = true by simp; omega, cond_tt]
      · simp; omega) (fun t ht => by simp only [spec_l1Copy_l1.B, ge_dec (Nat.le_refl _), cond_ff]) _ (Nat.le_refl _)
  rw [fold1] at h0
  rw [fold2] at h1
  simp only [spec_l1Copy, h0, Option.bind_some, List.nil_append, h1]
theorem impl_cloneDisk_eq {d : Disk_} (h : DiskOk d) : impl_cloneDisk d = some d := by
  obtain ⟨bs, ps, ⟨⟩⟩ := d
  have hl1 : bs.length ≤ 60 := h.l1
  have hl2 : ps.length ≤ 200 := h.l2
  have h0 : impl_cloneDisk_l0 (bs, ps, ()) bs (bs.length : Int) ([], [], ()) (0, ([], [], ())) = some (bs.foldl (fun (t : List (List Int) × List Put_ × Unit) x => (t.1 ++ [x], t.2)) ([], [], ())) :=
    loop_foldI bs (f := fun s => impl_cloneDisk_l0.B (bs, ps, ()) bs (bs.length : Int) ([], [], ()) s.1 s.2) _ (fun t => t) (fun i t => t.1.length ≤ i) (fun i hi t ht => by
      have hw : bs[i].length ≤ 64 := (h.w1 _ (List.getElem_mem hi)).1
      constructor
      · simp only [impl_cloneDisk_l0.B, lt_dec hi, inB_lt hi, cond_tt, toNat_cast, getD_lt _ hi, slices_Clone_int64, cloneP, decide_eq_true (show bs[i].length ≤ 2147483648 by omega), Option.bind_some, w64_succ (by omega : i < 4294967296)]
        rw [show decide ((t.1 ++ [bs[i]]).length ≤ 2147483648) = true by simp; omega, cond_tt]
      · simp; omega) (fun t ht => by simp only [impl_cloneDisk_l0.B, ge_dec (Nat.le_refl _), cond_ff]) _ (Nat.le_refl _)
  rw [fold1] at h0
  simp only [impl_cloneDisk, h0, Option.bind_some, List.nil_append, impl_clonePuts]
  rw [clonePutsP_eq (l := ps) (by omega) (fun p hp => Nat.le_trans (h.w2 p hp).2.1 (by omega))]
  rfl
/-- all puts into the blocks -/
def flushF (d : Disk_) : Disk_ := (movedF d.1 d.2.1 (fun _ => true) d.2.1.length, [], ())
theorem moved_len (bs : List (List Int)) (ps : List Put_) (pick : Nat → Bool) : ∀ k, (movedF bs ps pick k).length = bs.length
  | 0 => rfl
  | k + 1 => by
    simp only [movedF]
    split
    · rw [List.length_set, moved_len bs ps pick k]
    · exact moved_len bs ps pick k
theorem moved_mem {bs : List (List Int)} {ps : List Put_} {pick : Nat → Bool} {w : List Int} : ∀ {k}, k ≤ ps.length → w ∈ movedF bs ps pick k → w ∈ bs ∨ ∃ p ∈ ps, w = p.2.1
  | 0, _, h => .inl h
  | k + 1, hk, h => by
    simp only [movedF] at h
    have hg : ps.getD k (0, [], ()) = ps[k] := by simp [List.getD, show k < ps.length by omega]
    split at h
    · rcases List.mem_or_eq_of_mem_set h with h | h
      · exact moved_mem (by omega) h
      · rw [hg] at h; exact .inr ⟨ps[k], List.getElem_mem _, h⟩
    · exact moved_mem (by omega) h
theorem flushF_ok {d : Disk_} (h : DiskOk d) : DiskOk (flushF d) where
  l1 := by show (movedF _ _ _ _).length ≤ 60; rw [moved_len]; exact h.l1
  l2 := Nat.zero_le _
  w1 := fun w hw => by
    rcases moved_mem (Nat.le_refl _) hw with h1 | ⟨p, hp, rfl⟩
    · exact h.w1 w h1
    · exact (h.w2 p hp).2
  w2 := fun p hp => by cases hp
theorem flushP_eq {d : Disk_} (h : DiskOk d) : flushP d = some (flushF d) := by
  have : (decide (d.2.1.length ≤ 1152921504606846976) && d.2.1.all (fun p => inB p.1 d.1.length)) = true := by
    simp only [Bool.and_eq_true, decide_eq_true_eq, List.all_eq_true]
    refine ⟨by have := h.l2; omega, fun p hp => ?_⟩
    have := (h.w2 p hp).1
    simp [inB]; omega
  simp only [flushP, this, cond_tt, flushF]
theorem spec_l1Keep_l0_eq {d : Disk_} (h : DiskOk d) : ∀ (k i : Nat), i + k = d.2.1.length → spec_l1Keep_l0 [] true d ([], [], ()) ((i : Int), (movedF d.1 d.2.1 (fun _ => true) i, [], ())) = some (flushF d)
  | 0, i, hi => loopL_done (by
    have e : i = d.2.1.length := by omega
    subst e
    simp only [spec_l1Keep_l0.B, ge_dec (Nat.le_refl _), cond_ff, flushF])
  | k + 1, i, hi => by
    have hlt : i < d.2.1.length := by omega
    have hp := h.w2 _ (List.getElem_mem hlt)
    have hl2 := h.l2
    have hin : inB d.2.1[i].1 (movedF d.1 d.2.1 (fun _ => true) i).length = true := by rw [moved_len]; simp [inB]; omega
    have hg : d.2.1.getD i (0, [], ()) = d.2.1[i] := by simp [List.getD, hlt]
    rw [show spec_l1Keep_l0 [] true d ([], [], ()) ((i : Int), (movedF d.1 d.2.1 (fun _ => true) i, [], ())) = spec_l1Keep_l0 [] true d ([], [], ()) (((i + 1 : Nat) : Int), (movedF d.1 d.2.1 (fun _ => true) (i + 1), [], ())) from loopL_step (by
      simp only [spec_l1Keep_l0.B, lt_dec hlt, inB_lt hlt, cond_tt, cond_ff, Bool.not_true, Bool.false_and, toNat_cast, getD_lt _ hlt, Option.bind_some, spec_l1Ints, List.nil_append, decide_eq_true (show d.2.1[i].2.1.length ≤ 2147483648 by have := hp.2.1; omega), hin, w64_succ (by omega : i < 4294967296), movedF, hg, if_true])]
    exact spec_l1Keep_l0_eq h k (i + 1) (by omega)
theorem spec_l1Keep_eq {d : Disk_} (h : DiskOk d) : spec_l1Keep d [] true = some (flushF d) := by
  have := spec_l1Keep_l0_eq h d.2.1.length 0 (by omega)
  simp only [spec_l1Keep, spec_l1Copy_eq h, Option.bind_some]
  rw [show spec_l1Keep_l0 [] true d ([], [], ()) (0, (d.1, [], d.2.2)) = some (flushF d) from this]
  rfl
def putD (d : Disk_) (x : Step_) : Disk_ := (d.1, d.2.1 ++ [(x.2.1, x.2.2.1, ())], ())
/-- the steps, one by one; none: too many puts -/
def runF : List Step_ → Disk_ → Option Disk_
  | [], d => some d
  | x :: l, d => cond x.1 (runF l (flushF d)) (cond ((d.2.1.length : Int) == 200) none (runF l (putD d x)))
structure Disk47 (d : Disk_) : Prop where
  ok : DiskOk d
  l : d.1.length = 47
theorem Disk47.flush {d : Disk_} (h : Disk47 d) : Disk47 (flushF d) := ⟨flushF_ok h.ok, by show (movedF _ _ _ _).length = 47; rw [moved_len]; exact h.l⟩
theorem step_put {x : Step_} (h : stepF x = 0) (hx : x.1 = false) : (0 ≤ x.2.1 ∧ x.2.1 ≤ 46) ∧ wordsF x.2.2.1 = 0 := by
  unfold stepF at h
  rw [hx] at h
  simp only [cond_ff] at h
  cases hr : inR x.2.1 0 46 with
  | false => rw [hr] at h; cases h
  | true => rw [hr] at h; exact ⟨inR_iff.1 hr, h⟩
theorem Disk47.put {d : Disk_} (h : Disk47 d) {x : Step_} (hx : stepF x = 0) (hf : x.1 = false) (hl : d.2.1.length ≠ 200) : Disk47 (putD d x) := by
  obtain ⟨h1, h2⟩ := step_put hx hf
  have h3 := wordsF_ok h2
  have hl2 := h.ok.l2
  have h47 := h.l
  refine ⟨⟨h.ok.l1, by show (d.2.1 ++ [_]).length ≤ 200; simp; omega, h.ok.w1, fun p hp => ?_⟩, h47⟩
  rcases List.mem_append.1 hp with hp | hp
  · exact h.ok.w2 p hp
  · simp at hp
    subst hp
    exact ⟨⟨h1.1, by show x.2.1 ≤ (d.1.length : Int) - 1; omega⟩, h3⟩
theorem runF_ok : ∀ {l : List Step_} {d d' : Disk_}, Disk47 d → (∀ x ∈ l, stepF x = 0) → runF l d = some d' → Disk47 d'
  | [], d, d', h, _, e => by cases e; exact h
  | x :: l, d, d', h, hl, e => by
    simp only [runF] at e
    cases hx : x.1 with
    | true => rw [hx, cond_tt] at e; exact runF_ok h.flush (fun y hy => hl y (List.mem_cons_of_mem _ hy)) e
    | false =>
      rw [hx, cond_ff] at e
      cases hn : ((d.2.1.length : Int) == 200) with
      | true => rw [hn] at e; cases e
      | false =>
        rw [hn, cond_ff] at e
        exact runF_ok (h.put (hl x List.mem_cons_self) hx (fun e' => by rw [e'] at hn; cases hn)) (fun y hy => hl y (List.mem_cons_of_mem _ hy)) e
theorem spec_PutBlock_eq {d : Disk_} (h : Disk47 d) {x : Step_} (hx : stepF x = 0) (hf : x.1 = false) :
    spec_PutBlock d x.2.1 x.2.2.1 = some (cond ((d.2.1.length : Int) == 200) (2, ([], [], ()), ()) (0, putD d x, ())) := by
  obtain ⟨h1, h2⟩ := step_put hx hf
  have h3 := wordsF_ok h2
  have hl2 := h.ok.l2
  have h47 := h.l
  have hin : inR x.2.1 0 ((d.1.length : Int) - 1) = true := inR_iff.2 (by omega)
  simp only [spec_PutBlock, spec_l1Fault_eq, h.ok.zero, Option.bind_some, show ((0 : Int) != 0) = false from rfl, cond_ff, spec_l1Place, spec_l1In_eq, w64n (by omega : -9223372036854775808 ≤ (d.1.length : Int) - 1) (by omega), hin, Bool.not_true, spec_l1Words_eq, h2]
  by_cases e : d.2.1.length = 200
  · rw [show decide ((d.2.1.length : Int) ≥ 200) = true by simp; omega, show ((d.2.1.length : Int) == 200) = true by rw [e]; rfl]; rfl
  · rw [show decide ((d.2.1.length : Int) ≥ 200) = false by simp; omega, show ((d.2.1.length : Int) == 200) = false by rw [beq_eq_false_iff_ne]; omega]
    simp only [cond_ff, spec_l1Copy_eq h.ok, Option.bind_some, spec_l1Ints, List.nil_append, decide_eq_true (show x.2.2.1.length ≤ 2147483648 by have := h3.1; omega), cond_tt]
    rw [show decide ((d.2.1 ++ [((x.2.1, x.2.2.1, ()) : Put_)]).length ≤ 2147483648) = true by simp; omega]
    rfl
theorem spec_run {list : List Step_} (hl : list.length ≤ 120) (hs : ∀ x ∈ list, stepF x = 0) (v : DiskResult_) : ∀ (k i : Nat) (d : Disk_), i + k = list.length → Disk47 d →
    spec_l13Run_l0 list v ((i : Int), (0, d, ())) = some (match runF (list.drop i) d with | some d' => .inr (0, d', ()) | none => .inl (2, ([], [], ()), ()))
  | 0, i, d, hi, h => by
    have e : i = list.length := by omega
    subst e
    rw [List.drop_length]
    exact loopL_done (by simp only [spec_l13Run_l0.B, ge_dec (Nat.le_refl _), cond_ff, runF])
  | k + 1, i, d, hi, h => by
    have hlt : i < list.length := by omega
    have hx := hs _ (List.getElem_mem hlt)
    rw [List.drop_eq_getElem_cons hlt]
    simp only [runF]
    cases hf : list[i].1 with
    | true =>
      rw [show spec_l13Run_l0 list v ((i : Int), (0, d, ())) = spec_l13Run_l0 list v (((i + 1 : Nat) : Int), (0, flushF d, ())) from loopL_step (by
        simp only [spec_l13Run_l0.B, lt_dec hlt, inB_lt hlt, cond_tt, toNat_cast, getD_lt _ hlt, hf, spec_l1Keep_eq h.ok, Option.bind_some, w64_succ (by omega : i < 4294967296)])]
      exact spec_run hl hs v k (i + 1) _ (by omega) h.flush
    | false =>
      have hp := spec_PutBlock_eq h hx hf
      cases hn : ((d.2.1.length : Int) == 200) with
      | true =>
        rw [hn, cond_tt] at hp
        exact loopL_done (by
          simp only [spec_l13Run_l0.B, lt_dec hlt, inB_lt hlt, cond_tt, cond_ff, toNat_cast, getD_lt _ hlt, hf]
          rw [show spec_PutBlock (d.1, d.2.1, d.2.2) list[i].2.1 list[i].2.2.1 = _ from hp]
          rfl)
      | false =>
        rw [hn, cond_ff] at hp
        rw [show spec_l13Run_l0 list v ((i : Int), (0, d, ())) = spec_l13Run_l0 list v (((i + 1 : Nat) : Int), (0, putD d list[i], ())) from loopL_step (by
          simp only [spec_l13Run_l0.B, lt_dec hlt, inB_lt hlt, cond_tt, cond_ff, toNat_cast, getD_lt _ hlt, hf]
          rw [show spec_PutBlock (d.1, d.2.1, d.2.2) list[i].2.1 list[i].2.2.1 = _ from hp]
          simp only [Option.bind_some, w64_succ (by omega : i < 4294967296)]
          rfl)]
        exact spec_run hl hs v k (i + 1) _ (by omega) (h.put hx hf (fun e' => by rw [e'] at hn; cases hn))
theorem impl_run {list : List Step_} (hl : list.length ≤ 120) (hs : ∀ x ∈ list, stepF x = 0) : ∀ (k i : Nat) (d : Disk_), i + k = list.length → Disk47 d →
    (match runF (list.drop i) d with | some d' => impl_Disk_run_l0 list (list.length : Int) ((i : Int), d) = some (.inr d') | none => ∃ dx, impl_Disk_run_l0 list (list.length : Int) ((i : Int), d) = some (.inl (2, dx)))
  | 0, i, d, hi, h => by
    have e : i = list.length := by omega
    subst e
    rw [List.drop_length]
    exact loopL_done (by simp only [impl_Disk_run_l0.B, ge_dec (Nat.le_refl _), cond_ff])
  | k + 1, i, d, hi, h => by
    have hlt : i < list.length := by omega
    have hx := hs _ (List.getElem_mem hlt)
    rw [List.drop_eq_getElem_cons hlt]
    simp only [runF]
    cases hf : list[i].1 with
    | true =>
      have e1 : impl_Disk_run_l0 list (list.length : Int) ((i : Int), d) = impl_Disk_run_l0 list (list.length : Int) (((i + 1 : Nat) : Int), flushF d) := loopL_step (by
        simp only [impl_Disk_run_l0.B, lt_dec hlt, inB_lt hlt, cond_tt, toNat_cast, getD_lt _ hlt, hf, impl_Disk_flush, flushP_eq h.ok, Option.bind_some, w64_succ (by omega : i < 4294967296)])
      rw [e1, cond_tt]
      exact impl_run hl hs k (i + 1) _ (by omega) h.flush
    | false =>
      rw [cond_ff]
      cases hn : ((d.2.1.length : Int) == 200) with
      | true =>
        rw [cond_tt]
        exact ⟨d, loopL_done (by
          simp only [impl_Disk_run_l0.B, lt_dec hlt, inB_lt hlt, cond_tt, cond_ff, toNat_cast, getD_lt _ hlt, hf, hn])⟩
      | false =>
        have hl2 := h.ok.l2
        have hw := wordsF_ok (step_put hx hf).2
        have e1 : impl_Disk_run_l0 list (list.length : Int) ((i : Int), d) = impl_Disk_run_l0 list (list.length : Int) (((i + 1 : Nat) : Int), putD d list[i]) := loopL_step (by
          simp only [impl_Disk_run_l0.B, lt_dec hlt, inB_lt hlt, cond_tt, cond_ff, toNat_cast, getD_lt _ hlt, hf, hn, impl_Disk_put, slices_Clone_int64, cloneP, decide_eq_true (show list[i].2.2.1.length ≤ 2147483648 by have := hw.1; omega), Option.bind_some]
          rw [show decide ((d.2.1 ++ [((list[i].2.1, list[i].2.2.1, ()) : Put_)]).length ≤ 2147483648) = true by simp; omega]
          simp only [cond_tt, Option.bind_some, w64_succ (by omega : i < 4294967296)]
          rfl)
        rw [e1, cond_ff]
        exact impl_run hl hs k (i + 1) _ (by omega) (h.put hx hf (fun e' => by rw [e'] at hn; cases hn))
theorem wt_disk {d : Disk_} (h : DiskOk d) : wt tDisk_ d ≤ 100000 := by
  have e : ∀ w : List Int, (w.map (wt (.int .i64))).sum = w.length := fun w => wt_ints .i64 w
  have h1 := sum_leB (wt (.sl (.int .i64))) 65 (xs := d.1) (fun w hw => by
    have := (h.w1 w hw).1
    rw [wt_sl, e]; omega)
  have h2 := wt_puts h.l2 (fun p hp => (h.w2 p hp).2.1)
  have hl := h.l1
  simp only [wt_sl] at h2
  simp only [wt_pair, wt_sl, wt_unit] at h1 ⊢
  omega
theorem blockF_rng {d : Disk_} (hok : DiskOk d) (at_ : Int) : ∀ x ∈ blockF d at_, 0 ≤ x ∧ x ≤ 65535 := by
  unfold blockF
  cases h : lastIx d.2.1 at_ d.2.1.length with
  | some j =>
    have hj : j < d.2.1.length := by
      have : ∀ (ps : List (Int × List Int × Unit)) (k j : Nat), lastIx ps at_ k = some j → j < k := by
        intro ps k
        induction k with
        | zero => intro j h; cases h
        | succ k ih =>
          intro j h
          unfold lastIx at h
          split at h
          · cases h; omega
          · have := ih j h; omega
      exact this _ _ _ h
    show ∀ x ∈ (d.2.1.getD j (0, [], ())).2.1, _
    rw [show d.2.1.getD j (0, [], ()) = d.2.1[j] from getD_lt _ hj]
    exact (hok.w2 _ (List.getElem_mem hj)).2.2
  | none =>
    show ∀ x ∈ d.1.getD at_.toNat [], _
    rw [List.getD_eq_getElem?_getD]
    cases h2 : d.1[at_.toNat]? with
    | none => intro x hx; simp at hx
    | some w => exact (hok.w1 w (List.mem_of_getElem? h2)).2
theorem wordsF_zero {w : List Int} (h1 : w.length ≤ 64) (h2 : ∀ x ∈ w, 0 ≤ x ∧ x ≤ 65535) : wordsF w = 0 := by
  unfold wordsF
  rw [show decide ((w.length : Int) > 64) = false by simp; omega, cond_ff]
  rw [show (w.any fun x => !inR x 0 65535) = false from List.any_eq_false.2 (fun x hx => by
    have := inR_iff.2 (h2 x hx); simp [this])]
  rfl
theorem found_steps {d : Disk_} (hok : DiskOk d) (seq : Int) : ∀ p ∈ (foundF d seq).1, stepF (toStep p) = 0 := by
  unfold foundF
  dsimp only
  generalize hc : (cond (decide (((blockF d 1).length : Int) < 3)) true _) = c
  cases c with
  | true => intro p hp; cases hp
  | false =>
    intro p hp
    have hb : ((blockF d 1).drop 3).any badAt = false := by
      revert hc
      repeat' (first | (intro hc; exact hc) | (cases (decide (((blockF d 1).length : Int) < 3)) <;> simp only [cond_tt, cond_ff]) | (intro hc; cases hc) | (cases ((blockF d 1).getD 0 0 != 1) <;> simp only [cond_tt, cond_ff]) | (cases ((blockF d 1).getD 1 0 != seq) <;> simp only [cond_tt, cond_ff]) | (cases (!inR ((blockF d 1).getD 2 0) 0 10) <;> simp only [cond_tt, cond_ff]) | (cases (((blockF d 1).length : Int) != 3 + (blockF d 1).getD 2 0) <;> simp only [cond_tt, cond_ff]) | (cases (!(blockF d (2 + (blockF d 1).getD 2 0) == [2, seq, (blockF d 1).getD 2 0])) <;> simp only [cond_tt, cond_ff]))
    obtain ⟨j, x, hx, rfl⟩ := mapG_mem hp
    have hx := List.any_eq_false.1 hb x hx
    simp only [badAt, Bool.not_eq_true, Bool.not_eq_false'] at hx
    have hr := inR_iff.1 (by simpa using hx)
    unfold stepF toStep
    simp only [cond_ff]
    rw [inR_iff.2 (by omega : (0 : Int) ≤ x ∧ x ≤ 46)]
    exact wordsF_zero (blockF_len hok _) (blockF_rng hok _)
theorem mount_steps {d : Disk_} (hok : DiskOk d) {seq : Int} (hs : 1 ≤ seq ∧ seq ≤ 60000) : ∀ x ∈ mountF d seq, stepF x = 0 := by
  unfold mountF
  cases hc : (cond (!(foundF d seq).2) true (seq == 60000)) with
  | true => intro x hx; cases hx
  | false =>
    have hne : seq ≠ 60000 := fun e => by
      rw [e] at hc
      cases h : (!(foundF d 60000).2) <;> rw [h] at hc <;> cases hc
    intro x hx
    rcases List.mem_append.1 hx with h | h
    · obtain ⟨p, hp, rfl⟩ := List.mem_map.1 h
      exact found_steps hok seq p hp
    · simp at h
      have hflush : stepF (true, 0, [], ()) = 0 := by decide
      have hsup : stepF (false, 0, [7, seq + 1], ()) = 0 := by
        unfold stepF
        simp only [cond_ff]
        rw [inR_iff.2 (by omega : (0 : Int) ≤ 0 ∧ (0 : Int) ≤ 46)]
        exact wordsF_zero (w := [7, seq + 1]) (by simp) (fun y hy => by simp at hy; rcases hy with rfl | rfl <;> omega)
      rcases h with rfl | rfl | rfl
      · exact hflush
      · exact hsup
      · exact hflush
/-- what was picked of the puts into the blocks -/
def crashF (d : Disk_) (picks : List Bool) : Disk_ := (movedF d.1 d.2.1 (fun k => picks.getD k false) d.2.1.length, [], ())
theorem crashF_ok {d : Disk_} (h : DiskOk d) (picks : List Bool) : DiskOk (crashF d picks) where
  l1 := by show (movedF _ _ _ _).length ≤ 60; rw [moved_len]; exact h.l1
  l2 := Nat.zero_le _
  w1 := fun w hw => by
    rcases moved_mem (Nat.le_refl _) hw with h1 | ⟨p, hp, rfl⟩
    · exact h.w1 w h1
    · exact (h.w2 p hp).2
  w2 := fun p hp => by cases hp
theorem crashP_eq {d : Disk_} (h : DiskOk d) (picks : List Bool) : crashP d picks = some (crashF d picks) := by
  have : (decide (d.2.1.length ≤ 1152921504606846976) && d.2.1.all (fun p => inB p.1 d.1.length)) = true := by
    simp only [Bool.and_eq_true, decide_eq_true_eq, List.all_eq_true]
    refine ⟨by have := h.l2; omega, fun p hp => ?_⟩
    have := (h.w2 p hp).1
    simp [inB]; omega
  simp only [crashP, this, cond_tt, crashF]
theorem spec_crash_l0 {d : Disk_} (h : DiskOk d) (picks : List Bool) : ∀ (k i : Nat), i + k = d.2.1.length → spec_l1Keep_l0 picks false d ([], [], ()) ((i : Int), (movedF d.1 d.2.1 (fun k => picks.getD k false) i, [], ())) = some (crashF d picks)
  | 0, i, hi => loopL_done (by
    have e : i = d.2.1.length := by omega
    subst e
    simp only [spec_l1Keep_l0.B, ge_dec (Nat.le_refl _), cond_ff, crashF])
  | k + 1, i, hi => by
    have hlt : i < d.2.1.length := by omega
    have hp := h.w2 _ (List.getElem_mem hlt)
    have hl2 := h.l2
    have hin : inB d.2.1[i].1 (movedF d.1 d.2.1 (fun k => picks.getD k false) i).length = true := by rw [moved_len]; simp [inB]; omega
    have hg : d.2.1.getD i (0, [], ()) = d.2.1[i] := by simp [List.getD, hlt]
    have hpick : (cond (cond ((!false) && (decide ((i : Int) < (picks.length : Int)))) (inB (i : Int) picks.length) true) (some (cond false true (cond (decide ((i : Int) < (picks.length : Int))) (picks.getD (i : Int).toNat false) false))) none) = some (picks.getD i false) := by
      by_cases hi2 : i < picks.length
      · simp only [lt_dec hi2, inB_lt hi2, cond_tt, cond_ff, Bool.not_false, Bool.true_and, toNat_cast]
      · rw [show decide ((i : Int) < (picks.length : Int)) = false by simp; omega]
        simp [List.getD, hi2]
    have hcond : ∀ {α : Type} (c : Bool) (a : Bool) (g : Bool → Option α), cond c ((some a).bind g) none = (cond c (some a) none).bind g := fun c a g => by cases c <;> rfl
    rw [show spec_l1Keep_l0 picks false d ([], [], ()) ((i : Int), (movedF d.1 d.2.1 (fun k => picks.getD k false) i, [], ())) = spec_l1Keep_l0 picks false d ([], [], ()) (((i + 1 : Nat) : Int), (movedF d.1 d.2.1 (fun k => picks.getD k false) (i + 1), [], ())) from loopL_step (by
      simp only [spec_l1Keep_l0.B, lt_dec hlt]
      rw [hcond, hpick]
      simp only [Option.bind_some, cond_tt, movedF]
      rcases Bool.eq_false_or_eq_true (picks.getD i false) with hpk | hpk
      · simp only [hpk, inB_lt hlt, cond_tt, toNat_cast, getD_lt _ hlt, Option.bind_some, spec_l1Ints, List.nil_append, decide_eq_true (show d.2.1[i].2.1.length ≤ 2147483648 by have := hp.2.1; omega), hin, w64_succ (by omega : i < 4294967296), hg, if_true]
      · simp only [hpk, cond_ff, w64_succ (by omega : i < 4294967296), Bool.false_eq_true, if_false])]
    exact spec_crash_l0 h picks k (i + 1) (by omega)
theorem spec_CrashDisk_eq {d : Disk_} (h : DiskOk d) (picks : List Bool) : spec_CrashDisk d picks = some (0, crashF d picks, ()) := by
  have := spec_crash_l0 h picks d.2.1.length 0 (by omega)
  simp only [spec_CrashDisk, spec_l1Fault_eq, h.zero, Option.bind_some, show ((0 : Int) != 0) = false from rfl, cond_ff, spec_l1Keep, spec_l1Copy_eq h]
  rw [show spec_l1Keep_l0 picks false d ([], [], ()) (0, (d.1, [], d.2.2)) = some (crashF d picks) from this]
  rfl
theorem firstC_all {α : Type} {c : α → Int} {l : List α} (h : ∀ x ∈ l, c x = 0) : firstC c l = 0 := firstC_zero.2 h
theorem spec_RunSteps_ok {d : Disk_} (h : Disk47 d) {list : List Step_} (hl : list.length ≤ 120) (hs : ∀ x ∈ list, stepF x = 0) :
    spec_RunSteps d list = some (match runF list d with | some d' => (0, d', ()) | none => (2, ([], [], ()), ())) := by
  have h1 : ((d.1.length : Int) != 47) = false := by rw [h.l]; rfl
  have h2 : stepsF list = 0 := by
    unfold stepsF
    rw [show decide ((list.length : Int) > 120) = false by simp; omega, cond_ff]
    exact firstC_all hs
  have e1 := spec_run hl hs (0, ([], [], ()), ()) list.length 0 d (by omega) h
  rw [List.drop_zero] at e1
  simp only [spec_RunSteps, spec_l1Fault_eq, h.ok.zero, Option.bind_some, show ((0 : Int) != 0) = false from rfl, cond_ff, h1, spec_l13Steps_eq, h2, spec_l13Run, spec_l1Copy_eq h.ok]
  rw [show spec_l13Run_l0 list (0, ([], [], ()), ()) (0, (0, (d.1, d.2.1, d.2.2), ())) = _ from e1]
  cases runF list d <;> rfl
theorem spec_PlanMount_eq (d : Disk_) : spec_PlanMount d = some (cond ((seqF d).2 != 0) ((seqF d).2, [], ()) (0, mountF d (seqF d).1, ())) := by
  simp only [spec_PlanMount, spec_SeqOf_eq, Option.bind_some]
  cases h : ((seqF d).2 != 0) with
  | true => rfl
  | false =>
    have h0 : (seqF d).2 = 0 := by simpa using h
    obtain ⟨hok, h47⟩ := seqF_ok h0
    have hr := seqF_rng h0
    obtain ⟨b1, b2⟩ := foundF_bnd hok (seqF d).1
    simp only [cond_ff, (scan_both hok h47 _).1, Option.bind_some]
    have e60 : decide ((seqF d).1 ≥ 60000) = ((seqF d).1 == 60000) := by
      by_cases e : (seqF d).1 = 60000
      · rw [e]; rfl
      · rw [beq_eq_false_iff_ne.2 e]; simp; omega
    simp only [mountF, e60]
    cases (cond (!(foundF d (seqF d).1).2) true ((seqF d).1 == 60000)) with
    | true => rfl
    | false =>
      simp only [cond_ff, spec_l13Puts_eq (l := (foundF d (seqF d).1).1) (by omega) (fun p hp => Nat.le_trans (b2 p hp) (by omega)), Option.bind_some, spec_l13Super, w64n (by omega : -9223372036854775808 ≤ (seqF d).1 + 1) (by omega)]
      rw [show decide (((foundF d (seqF d).1).1.map toStep ++ [((true, 0, [], ()) : Step_), (false, 0, [7, (seqF d).1 + 1], ()), (true, 0, [], ())]).length ≤ 2147483648) = true by simp; omega, cond_tt]
theorem CrashMount.main (d : Disk_) (steps : Int) (picks : List Bool) (hf : Fit tDisk_ d) (hf1 : Fit (.int .i64) steps) (hf2 : Fit (.sl .bool) picks) (hw : wt tDisk_ d ≤ 1048576) (hw1 : wt (.int .i64) steps ≤ 1048576) (hw2 : wt (.sl .bool) picks ≤ 1048576) :
    ∃ r, spec_CrashMount d steps picks = some r ∧ impl_CrashMount d steps picks = some r ∧ wt tDiskResult_ r ≤ 2147483648 := by
  have small : ∀ c : Int, wt tDiskResult_ (c, ([], [], ()), ()) ≤ 2147483648 := fun c => by simp only [wt_sl, wt_pair, wt_int, wt_unit]; simp
  simp only [spec_CrashMount, impl_CrashMount, spec_PlanMount_eq, impl_seqOf_eq, Option.bind_some, spec_l14Cut]
  cases h : ((seqF d).2 != 0) with
  | true =>
    simp only [h, cond_tt, Option.bind_some]
    exact ⟨_, rfl, rfl, small _⟩
  | false =>
    have h0 : (seqF d).2 = 0 := by simpa using h
    obtain ⟨hok, h47⟩ := seqF_ok h0
    have hr := seqF_rng h0
    have hd : Disk47 d := ⟨hok, by omega⟩
    simp only [cond_ff]
    obtain ⟨b1, b2⟩ := mountF_bnd hok (seqF d).1
    have hst := mount_steps hok hr
    have hpm := impl_planMount_eq hok h47 hr
    generalize mountF d (seqF d).1 = list at b1 hst hpm ⊢
    simp only [show ((0 : Int) != 0) = false from rfl, cond_ff, hpm, Option.bind_some, spec_l1In_eq, impl_crashSteps, impl_size_Step, impl_within_eq]
    cases hin : inR steps 0 (list.length : Int) with
    | false => exact ⟨_, rfl, rfl, small _⟩
    | true =>
      have hi := inR_iff.1 hin
      simp only [Bool.not_true, cond_ff, show (decide ((0 : Int) ≤ steps) && decide (steps ≤ (list.length : Int))) = true by simp; omega, cond_tt, List.drop_zero, impl_cloneDisk_eq hok, Option.bind_some]
      have hl : (list.take steps.toNat).length ≤ 120 := by simp; omega
      have hs : ∀ x ∈ list.take steps.toNat, stepF x = 0 := fun x hx => hst x (List.mem_of_mem_take hx)
      have e2 := impl_run hl hs (list.take steps.toNat).length 0 d (by omega) hd
      rw [List.drop_zero] at e2
      rw [spec_RunSteps_ok hd hl hs]
      simp only [impl_Disk_run, Option.bind_some]
      cases hrun : runF (list.take steps.toNat) d with
      | some d' =>
        rw [hrun] at e2
        rw [show impl_Disk_run_l0 (list.take steps.toNat) ((list.take steps.toNat).length : Int) (0, (d.1, d.2.1, d.2.2)) = _ from e2]
        have h' := runF_ok hd hs hrun
        simp only [Option.bind_some, sel, show ((0 : Int) != 0) = false from rfl, cond_ff, impl_Disk_crash, crashP_eq h'.ok]
        rw [show spec_CrashDisk (d'.1, d'.2.1, d'.2.2) picks = _ from spec_CrashDisk_eq h'.ok picks]
        have := wt_disk (crashF_ok h'.ok picks)
        refine ⟨(0, crashF d' picks, ()), rfl, rfl, ?_⟩
        rw [wt_pair, wt_pair, wt_int, wt_unit]
        show 1 + (wt tDisk_ (crashF d' picks) + 0) ≤ _
        omega
      | none =>
        rw [hrun] at e2
        obtain ⟨dx, e2⟩ := e2
        rw [show impl_Disk_run_l0 (list.take steps.toNat) ((list.take steps.toNat).length : Int) (0, (d.1, d.2.1, d.2.2)) = _ from e2]
        exact ⟨(2, ([], [], ()), ()), rfl, rfl, small _⟩
theorem CrashMount.law (x : PT.Els (shs [tDisk_, (.int .i64), (.sl .bool)])) (hf : FitAll [tDisk_, (.int .i64), (.sl .bool)] x) (hw : wtAll [tDisk_, (.int .i64), (.sl .bool)] x ≤ 1048576) : laws_FnExactCrashMount x.1 x.2.1 x.2.2.1 = some true := by
  simp only [wtAll] at hw
  have hf0 : Fit tDisk_ x.1 := hf.1
  have hf1 : Fit (.int .i64) x.2.1 := hf.2.1
  have hf2 : Fit (.sl .bool) x.2.2.1 := hf.2.2.1
  have hw0 : wt tDisk_ x.1 ≤ 1048576 := by omega
  have hw1 : wt (.int .i64) x.2.1 ≤ 1048576 := by omega
  have hw2 : wt (.sl .bool) x.2.2.1 ≤ 1048576 := by omega
  clear hw hf
  generalize x.2.2.1 = a2 at hf2 hw2 ⊢
  generalize x.2.1 = a1 at hf1 hw1 ⊢
  generalize x.1 = a0 at hf0 hw0 ⊢
  obtain ⟨r, hr1, hr2, hr3⟩ := CrashMount.main a0 a1 a2 hf0 hf1 hf2 hw0 hw1 hw2
  obtain ⟨r_0, ⟨r_1_0, r_1_1, ⟨⟩⟩, ⟨⟩⟩ := r
  replace hr3 : wt tDiskResult_ (r_0, (r_1_0, r_1_1, ()), ()) ≤ 2147483648 := hr3
  replace hr1 : spec_CrashMount a0 a1 a2 = some (r_0, (r_1_0, r_1_1, ()), ()) := hr1
  replace hr2 : impl_CrashMount a0 a1 a2 = some (r_0, (r_1_0, r_1_1, ()), ()) := hr2
  have er := laws_eqDiskResult_ok (r_0, (r_1_0, r_1_1, ()), ()) hr3
  obtain ⟨kr, y0, y1, l1, l2, hm, hh⟩ := laws_markDiskResult_ok r_0 r_1_0 r_1_1 1 (by omega) (by omega) hr3
  have to0 := laws_toDisk_ok a0 (by omega)
  have eq0 := laws_eqDisk_ok a0 (by omega)
  have to2 := laws_toBoolS_ok a2 (by omega)
  have eq2 := laws_eqBoolS_ok a2 (by omega)
  obtain ⟨k0, z0_0, z0_1, l0, u0, m0, _⟩ := laws_markDisk_ok a0.1 a0.2.1 1 (by omega) (by show _ + ((wt tDisk_ a0 : Nat) : Int) ≤ _; omega) (by show wt tDisk_ a0 ≤ _; omega)
  have u0 : k0 ≤ 1 + ((wt tDisk_ a0 : Nat) : Int) := u0
  try simp only [peta] at m0
  obtain ⟨k2, z2, l2, u2, m2⟩ := laws_markBoolS_ok a2 k0 (by omega) (by omega) (by omega)
  have hsz : ∀ g : Option Bool, g = some true → ∀ b : Bool, cond b (some true) g = some true := fun g h b => by cases b <;> first | rfl | exact h
  simp only [laws_FnExactCrashMount]
  repeat' (first | with_reducible refine hsz _ ?_ _ | (rw [Option.bind_some]) | (obtain ⟨q, hq⟩ := laws_szDisk_ok a0 _ (by omega); rw [hq, Option.bind_some]; clear hq))
  simp only [er, hm, hh, to0, eq0, to2, eq2, m0, m2, hr1, hr2, peta, Option.bind_some, Bool.not_true, cond_ff, cond_tt, bne_self, beq_selfB, beq_selfS, neg_dec (by omega : 0 ≤ kr), neg_dec (by omega : 0 ≤ k2)]
end Mf
