/- The law over plain data: laws.FnExactSeqOf answers true. -/
import Derived.Test.YtkckfagcnnhimaaSeqOfA
noncomputable section
namespace Mf
open Go
set_option linter.unusedVariables false
set_option linter.unusedSimpArgs false
set_option maxRecDepth 100000
theorem laws_szInt64S_ok (a : (List Int)) (n : Int) (hw : wt (.sl (.int .i64)) a ≤ 2147483648) : ∃ r, laws_szInt64S a n = some r := by
  simp only [laws_szInt64S]
  repeat' (first | with_reducible exact ex_some _ | with_reducible refine ex_bind (ex_some _) fun _ => ?_ | with_reducible apply ex_cond)
theorem laws_szInt64SS_ok (a : (List (List Int))) (n : Int) (hw : wt (.sl (.sl (.int .i64))) a ≤ 2147483648) : ∃ r, laws_szInt64SS a n = some r := by
  have hw2 := hw
  simp only [wt_sl, wt_pair, wt_int, wt_bool, wt_str, wt_unit] at hw2
  have hl : a.length ≤ 2147483648 := by have := len_sum (wt (.sl (.int .i64))) (fun x => by simp only [wt_sl, wt_pair, wt_int, wt_bool, wt_str, wt_unit]; omega) a; omega
  have lp : ∀ k, ∃ r, laws_szInt64SS_l0 a (k, 0) = some r := fun k => by
    refine loop_ex (f := fun s => laws_szInt64SS_l0.B a s.1 s.2) (fun (i : Nat) (k : Int) => (k, (i : Int))) a.length (fun i k hi => ?_) (fun k => ?_) a.length 0 k (by omega)
    · have hm := mem_sum (wt (.sl (.int .i64))) a i hi
      have hb : inB (i : Int) a.length = true := inB_ok (by omega) (by omega)
      simp only [laws_szInt64SS_l0.B, lt_dec hi, hb, cond_tt, toNat_cast, getD_lt _ hi, w64_succ (by omega : i < 4294967296)]
      repeat' (first | with_reducible exact ex_inr _ | (with_reducible refine .inl ⟨_, rfl, ?_⟩; exact ⟨_, rfl⟩) | with_reducible refine ex_bind2 (laws_szInt64S_ok _ _ (by first | omega | (simp only [wt_sl, wt_pair, wt_int, wt_bool, wt_str, wt_unit] at hm ⊢; omega))) fun _ => ?_ | with_reducible refine ex_bind2 (ex_some _) fun _ => ?_ | with_reducible apply ex_cond2)
    · refine ⟨.inr k, ?_⟩; simp only [laws_szInt64SS_l0.B, ge_dec (Nat.le_refl _), cond_ff]
  simp only [laws_szInt64SS]
  repeat' (first | with_reducible exact ex_some _ | with_reducible refine ex_bind (lp _) fun o => ?_ | with_reducible refine ex_bind (ex_some _) fun _ => ?_ | with_reducible apply ex_cond | (cases o <;> exact ⟨_, rfl⟩))
theorem laws_szPut_ok (a : Put_) (n : Int) (hw : wt tPut_ a ≤ 2147483648) : ∃ r, laws_szPut a n = some r := by
  simp only [laws_szPut]
  repeat' (first | with_reducible exact ex_some _ | with_reducible refine ex_bind (laws_szInt64S_ok _ _ (by first | omega | (simp only [wt_sl, wt_pair, wt_int, wt_bool, wt_str, wt_unit] at hw ⊢; omega))) fun _ => ?_ | with_reducible refine ex_bind (ex_some _) fun _ => ?_ | with_reducible apply ex_cond)
theorem laws_szPutS_ok (a : (List Put_)) (n : Int) (hw : wt (.sl tPut_) a ≤ 2147483648) : ∃ r, laws_szPutS a n = some r := by
  have hw2 := hw
  simp only [wt_sl, wt_pair, wt_int, wt_bool, wt_str, wt_unit] at hw2
  have hl : a.length ≤ 2147483648 := by have := len_sum (wt tPut_) (fun x => by simp only [wt_sl, wt_pair, wt_int, wt_bool, wt_str, wt_unit]; omega) a; omega
  have lp : ∀ k, ∃ r, laws_szPutS_l0 a (k, 0) = some r := fun k => by
    refine loop_ex (f := fun s => laws_szPutS_l0.B a s.1 s.2) (fun (i : Nat) (k : Int) => (k, (i : Int))) a.length (fun i k hi => ?_) (fun k => ?_) a.length 0 k (by omega)
    · have hm := mem_sum (wt tPut_) a i hi
      have hb : inB (i : Int) a.length = true := inB_ok (by omega) (by omega)
      simp only [laws_szPutS_l0.B, lt_dec hi, hb, cond_tt, toNat_cast, getD_lt _ hi, w64_succ (by omega : i < 4294967296)]
      repeat' (first | with_reducible exact ex_inr _ | (with_reducible refine .inl ⟨_, rfl, ?_⟩; exact ⟨_, rfl⟩) | with_reducible refine ex_bind2 (laws_szPut_ok _ _ (by first | omega | (simp only [wt_sl, wt_pair, wt_int, wt_bool, wt_str, wt_unit] at hm ⊢; omega))) fun _ => ?_ | with_reducible refine ex_bind2 (ex_some _) fun _ => ?_ | with_reducible apply ex_cond2)
    · refine ⟨.inr k, ?_⟩; simp only [laws_szPutS_l0.B, ge_dec (Nat.le_refl _), cond_ff]
  simp only [laws_szPutS]
  repeat' (first | with_reducible exact ex_some _ | with_reducible refine ex_bind (lp _) fun o => ?_ | with_reducible refine ex_bind (ex_some _) fun _ => ?_ | with_reducible apply ex_cond | (cases o <;> exact ⟨_, rfl⟩))
theorem laws_szDisk_ok (a : Disk_) (n : Int) (hw : wt tDisk_ a ≤ 2147483648) : ∃ r, laws_szDisk a n = some r := by
  simp only [laws_szDisk]
  repeat' (first | with_reducible exact ex_some _ | with_reducible refine ex_bind (laws_szInt64SS_ok _ _ (by first | omega | (simp only [wt_sl, wt_pair, wt_int, wt_bool, wt_str, wt_unit] at hw ⊢; omega))) fun _ => ?_ | with_reducible refine ex_bind (laws_szPutS_ok _ _ (by first | omega | (simp only [wt_sl, wt_pair, wt_int, wt_bool, wt_str, wt_unit] at hw ⊢; omega))) fun _ => ?_ | with_reducible refine ex_bind (ex_some _) fun _ => ?_ | with_reducible apply ex_cond)
theorem laws_toInt64S_ok (a : (List Int)) (hw : wt (.sl (.int .i64)) a ≤ 2147483648) : laws_toInt64S a = some a := by
  have hw2 := hw
  simp only [wt_sl, wt_pair, wt_int, wt_bool, wt_str, wt_unit] at hw2
  have hl : a.length ≤ 2147483648 := by have := len_sum (wt (.int .i64)) (fun x => by simp only [wt_sl, wt_pair, wt_int, wt_bool, wt_str, wt_unit]; omega) a; omega
  have lp : laws_toInt64S_l0 a (0, List.replicate (a.length : Int).toNat 0) = some a := by
    refine to_list0 a (fun s => laws_toInt64S_l0.B a s.1 s.2) 0 (fun i hi out ho => ?_) (fun out ho => ?_)
    · have hm := mem_sum (wt (.int .i64)) a i hi
      have hb : inB (i : Int) a.length = true := inB_ok (by omega) (by omega)
      have hc : inB (i : Int) out.length = true := inB_ok (by omega) (by omega)
      simp only [laws_toInt64S_l0.B, lt_dec hi, hb, hc, cond_tt, toNat_cast, getD_lt _ hi, Option.bind_some, peta, w64_succ (by omega : i < 4294967296)]
    · simp only [laws_toInt64S_l0.B]; rw [show decide ((a.length : Int) < (a.length : Int)) = false by simp]; rfl
  simp only [laws_toInt64S]
  rw [show (decide ((0 : Int) ≤ (a.length : Int)) && (decide ((a.length : Int) ≤ (a.length : Int)) && decide ((a.length : Int) ≤ 2147483648))) = true by simp; omega]
  simp only [cond_tt, Option.bind_some, lp]
theorem laws_toInt64SS_ok (a : (List (List Int))) (hw : wt (.sl (.sl (.int .i64))) a ≤ 2147483648) : laws_toInt64SS a = some a := by
  have hw2 := hw
  simp only [wt_sl, wt_pair, wt_int, wt_bool, wt_str, wt_unit] at hw2
  have hl : a.length ≤ 2147483648 := by have := len_sum (wt (.sl (.int .i64))) (fun x => by simp only [wt_sl, wt_pair, wt_int, wt_bool, wt_str, wt_unit]; omega) a; omega
  have lp : laws_toInt64SS_l0 a (0, List.replicate (a.length : Int).toNat ([] : List Int)) = some a := by
    refine to_list0 a (fun s => laws_toInt64SS_l0.B a s.1 s.2) [] (fun i hi out ho => ?_) (fun out ho => ?_)
    · have hm := mem_sum (wt (.sl (.int .i64))) a i hi
      have hb : inB (i : Int) a.length = true := inB_ok (by omega) (by omega)
      have hc : inB (i : Int) out.length = true := inB_ok (by omega) (by omega)
      have h0 := laws_toInt64S_ok a[i] (by omega)
      simp only [laws_toInt64SS_l0.B, lt_dec hi, hb, hc, cond_tt, toNat_cast, getD_lt _ hi, h0, Option.bind_some, peta, w64_succ (by omega : i < 4294967296)]
    · simp only [laws_toInt64SS_l0.B]; rw [show decide ((a.length : Int) < (a.length : Int)) = false by simp]; rfl
  simp only [laws_toInt64SS]
  rw [show (decide ((0 : Int) ≤ (a.length : Int)) && (decide ((a.length : Int) ≤ (a.length : Int)) && decide ((a.length : Int) ≤ 2147483648))) = true by simp; omega]
  simp only [cond_tt, Option.bind_some, lp]
theorem laws_toPut_ok (a : Put_) (hw : wt tPut_ a ≤ 2147483648) : laws_toPut a = some a := by
  obtain ⟨x0, x1, ⟨⟩⟩ := a
  simp only [wt_sl, wt_pair, wt_int, wt_bool, wt_str, wt_unit] at hw
  have h_x1_0 := laws_toInt64S_ok x1 (by simp only [wt_sl, wt_pair, wt_int, wt_bool, wt_str, wt_unit]; omega)
  simp only [laws_toPut, h_x1_0, Option.bind_some, peta]
theorem laws_toPutS_ok (a : (List Put_)) (hw : wt (.sl tPut_) a ≤ 2147483648) : laws_toPutS a = some a := by
  have hw2 := hw
  simp only [wt_sl, wt_pair, wt_int, wt_bool, wt_str, wt_unit] at hw2
  have hl : a.length ≤ 2147483648 := by have := len_sum (wt tPut_) (fun x => by simp only [wt_sl, wt_pair, wt_int, wt_bool, wt_str, wt_unit]; omega) a; omega
  have lp : laws_toPutS_l0 a (0, List.replicate (a.length : Int).toNat zPut_) = some a := by
    refine to_list0 a (fun s => laws_toPutS_l0.B a s.1 s.2) zPut_ (fun i hi out ho => ?_) (fun out ho => ?_)
    · have hm := mem_sum (wt tPut_) a i hi
      have hb : inB (i : Int) a.length = true := inB_ok (by omega) (by omega)
      have hc : inB (i : Int) out.length = true := inB_ok (by omega) (by omega)
      have h0 := laws_toPut_ok a[i] (by omega)
      simp only [laws_toPutS_l0.B, lt_dec hi, hb, hc, cond_tt, toNat_cast, getD_lt _ hi, h0, Option.bind_some, peta, w64_succ (by omega : i < 4294967296)]
    · simp only [laws_toPutS_l0.B]; rw [show decide ((a.length : Int) < (a.length : Int)) = false by simp]; rfl
  simp only [laws_toPutS]
  rw [show (decide ((0 : Int) ≤ (a.length : Int)) && (decide ((a.length : Int) ≤ (a.length : Int)) && decide ((a.length : Int) ≤ 2147483648))) = true by simp; omega]
  simp only [cond_tt, Option.bind_some, lp]
theorem laws_toDisk_ok (a : Disk_) (hw : wt tDisk_ a ≤ 2147483648) : laws_toDisk a = some a := by
  obtain ⟨x0, x1, ⟨⟩⟩ := a
  simp only [wt_sl, wt_pair, wt_int, wt_bool, wt_str, wt_unit] at hw
  have h_x0_0 := laws_toInt64SS_ok x0 (by simp only [wt_sl, wt_pair, wt_int, wt_bool, wt_str, wt_unit]; omega)
  have h_x1_1 := laws_toPutS_ok x1 (by simp only [wt_sl, wt_pair, wt_int, wt_bool, wt_str, wt_unit]; omega)
  simp only [laws_toDisk, h_x0_0, h_x1_1, Option.bind_some, peta]
theorem laws_eqIntResult_ok (a : IntResult_) (hw : wt tIntResult_ a ≤ 2147483648) : laws_eqIntResult a a = some true := by
  obtain ⟨x0, x1, ⟨⟩⟩ := a
  simp only [wt_sl, wt_pair, wt_int, wt_bool, wt_str, wt_unit] at hw
  simp only [laws_eqIntResult, Option.bind_some, Bool.not_true, bne_self, beq_selfS, beq_selfB, cond_ff, cond_tt]
theorem laws_eqInt64S_ok (a : (List Int)) (hw : wt (.sl (.int .i64)) a ≤ 2147483648) : laws_eqInt64S a a = some true := by
  have hw2 := hw
  simp only [wt_sl, wt_pair, wt_int, wt_bool, wt_str, wt_unit] at hw2
  have hl : a.length ≤ 2147483648 := by have := len_sum (wt (.int .i64)) (fun x => by simp only [wt_sl, wt_pair, wt_int, wt_bool, wt_str, wt_unit]; omega) a; omega
  have lp : laws_eqInt64S_l0 a a 0 = some (.inr ()) := by
    refine eq_list0 (n := a.length) (fun s => laws_eqInt64S_l0.B a a s) (fun i hi => ?_) ?_
    · have hm := mem_sum (wt (.int .i64)) a i hi
      have hb : inB (i : Int) a.length = true := inB_ok (by omega) (by omega)
      simp only [laws_eqInt64S_l0.B, lt_dec hi, hb, cond_tt, cond_ff, toNat_cast, getD_lt _ hi, Option.bind_some, Bool.not_true, bne_self, beq_selfS, beq_selfB, w64_succ (by omega : i < 4294967296)]
    · simp only [laws_eqInt64S_l0.B, ge_dec (Nat.le_refl _), cond_ff]
  simp only [laws_eqInt64S, bne_self, cond_ff, lp, Option.bind_some, sel]
theorem laws_eqInt64SS_ok (a : (List (List Int))) (hw : wt (.sl (.sl (.int .i64))) a ≤ 2147483648) : laws_eqInt64SS a a = some true := by
  have hw2 := hw
  simp only [wt_sl, wt_pair, wt_int, wt_bool, wt_str, wt_unit] at hw2
  have hl : a.length ≤ 2147483648 := by have := len_sum (wt (.sl (.int .i64))) (fun x => by simp only [wt_sl, wt_pair, wt_int, wt_bool, wt_str, wt_unit]; omega) a; omega
  have lp : laws_eqInt64SS_l0 a a 0 = some (.inr ()) := by
    refine eq_list0 (n := a.length) (fun s => laws_eqInt64SS_l0.B a a s) (fun i hi => ?_) ?_
    · have hm := mem_sum (wt (.sl (.int .i64))) a i hi
      have hb : inB (i : Int) a.length = true := inB_ok (by omega) (by omega)
      have h0 := laws_eqInt64S_ok a[i] (by omega)
      simp only [laws_eqInt64SS_l0.B, lt_dec hi, hb, cond_tt, cond_ff, toNat_cast, getD_lt _ hi, h0, Option.bind_some, Bool.not_true, bne_self, beq_selfS, beq_selfB, w64_succ (by omega : i < 4294967296)]
    · simp only [laws_eqInt64SS_l0.B, ge_dec (Nat.le_refl _), cond_ff]
  simp only [laws_eqInt64SS, bne_self, cond_ff, lp, Option.bind_some, sel]
theorem laws_eqPut_ok (a : Put_) (hw : wt tPut_ a ≤ 2147483648) : laws_eqPut a a = some true := by
  obtain ⟨x0, x1, ⟨⟩⟩ := a
  simp only [wt_sl, wt_pair, wt_int, wt_bool, wt_str, wt_unit] at hw
  have h_x1_0 := laws_eqInt64S_ok x1 (by simp only [wt_sl, wt_pair, wt_int, wt_bool, wt_str, wt_unit]; omega)
  simp only [laws_eqPut, h_x1_0, Option.bind_some, Bool.not_true, bne_self, beq_selfS, beq_selfB, cond_ff, cond_tt]
theorem laws_eqPutS_ok (a : (List Put_)) (hw : wt (.sl tPut_) a ≤ 2147483648) : laws_eqPutS a a = some true := by
  have hw2 := hw
  simp only [wt_sl, wt_pair, wt_int, wt_bool, wt_str, wt_unit] at hw2
  have hl : a.length ≤ 2147483648 := by have := len_sum (wt tPut_) (fun x => by simp only [wt_sl, wt_pair, wt_int, wt_bool, wt_str, wt_unit]; omega) a; omega
  have lp : laws_eqPutS_l0 a a 0 = some (.inr ()) := by
    refine eq_list0 (n := a.length) (fun s => laws_eqPutS_l0.B a a s) (fun i hi => ?_) ?_
    · have hm := mem_sum (wt tPut_) a i hi
      have hb : inB (i : Int) a.length = true := inB_ok (by omega) (by omega)
      have h0 := laws_eqPut_ok a[i] (by omega)
      simp only [laws_eqPutS_l0.B, lt_dec hi, hb, cond_tt, cond_ff, toNat_cast, getD_lt _ hi, h0, Option.bind_some, Bool.not_true, bne_self, beq_selfS, beq_selfB, w64_succ (by omega : i < 4294967296)]
    · simp only [laws_eqPutS_l0.B, ge_dec (Nat.le_refl _), cond_ff]
  simp only [laws_eqPutS, bne_self, cond_ff, lp, Option.bind_some, sel]
theorem laws_eqDisk_ok (a : Disk_) (hw : wt tDisk_ a ≤ 2147483648) : laws_eqDisk a a = some true := by
  obtain ⟨x0, x1, ⟨⟩⟩ := a
  simp only [wt_sl, wt_pair, wt_int, wt_bool, wt_str, wt_unit] at hw
  have h_x0_0 := laws_eqInt64SS_ok x0 (by simp only [wt_sl, wt_pair, wt_int, wt_bool, wt_str, wt_unit]; omega)
  have h_x1_1 := laws_eqPutS_ok x1 (by simp only [wt_sl, wt_pair, wt_int, wt_bool, wt_str, wt_unit]; omega)
  simp only [laws_eqDisk, h_x0_0, h_x1_1, Option.bind_some, Bool.not_true, bne_self, beq_selfS, beq_selfB, cond_ff, cond_tt]
def inR (v lo hi : Int) : Bool := cond (decide (v ≥ lo)) (decide (v ≤ hi)) false
theorem inR_iff {v lo hi : Int} : inR v lo hi = true ↔ lo ≤ v ∧ v ≤ hi := by
  unfold inR; by_cases h : v ≥ lo <;> simp [h] <;> omega
theorem spec_l1In_eq (v lo hi : Int) : spec_l1In v lo hi = some (inR v lo hi) := rfl
theorem impl_within_eq (v lo hi : Int) : impl_within v lo hi = some (inR v lo hi) := rfl
def wordsF (w : List Int) : Int := cond (decide ((w.length : Int) > 64)) 2 (cond (w.any fun x => !inR x 0 65535) 3 0)
theorem spec_l1Words_eq (w : List Int) : spec_l1Words w = some (wordsF w) := by
  simp only [spec_l1Words, wordsF]
  by_cases hl : w.length ≤ 64
  · have h : spec_l1Words_l0 w 0 = _ := loop_any w (fun x => !inR x 0 65535) (3 : Int) (fun i hi => by
      simp only [spec_l1Words_l0.B, lt_dec hi, inB_lt hi, cond_tt, toNat_cast, getD_lt _ hi, spec_l1In_eq, Option.bind_some, w64_succ (by omega : i < 4294967296)]) (by
      simp only [spec_l1Words_l0.B, ge_dec (Nat.le_refl _), cond_ff])
    rw [h, show decide ((w.length : Int) > 64) = false by simp; omega]
    cases w.any fun x => !inR x 0 65535 <;> rfl
  · rw [show decide ((w.length : Int) > 64) = true by simp; omega]; rfl
theorem slices_IndexFunc_int64_wordsFault_c1_l0_eq (w : List Int) (hl : w.length ≤ 2147483648) : slices_IndexFunc_int64_wordsFault_c1_l0 w () (w.length : Int) 0 = some (match idxF (fun x => !inR x 0 65535) 0 w with | some j => .inl (j : Int) | none => .inr ()) :=
  loop_idx w (f := fun s => slices_IndexFunc_int64_wordsFault_c1_l0.B w () (w.length : Int) s) (fun x => !inR x 0 65535) (fun i hi => by
    simp only [slices_IndexFunc_int64_wordsFault_c1_l0.B, lt_dec hi, inB_lt hi, cond_tt, toNat_cast, getD_lt _ hi, impl_wordsFault_c1, impl_within_eq, Option.bind_some, w64_succ (by omega : i < 4294967296)]) (by
    simp only [slices_IndexFunc_int64_wordsFault_c1_l0.B, ge_dec (Nat.le_refl _), cond_ff]) 0 (Nat.zero_le _)
theorem idx_contains {α : Type} (p : α → Bool) (l : List α) : ((some (match idxF p 0 l with | some j => .inl (j : Int) | none => .inr () : Int ⊕ Unit)).bind fun o => sel o (fun b => some b) (fun c => some (-1))).bind (fun r => some (decide (r ≥ 0))) = some (l.any p) := by
  cases h : idxF p 0 l with
  | none => rw [idxF_none.1 h]; rfl
  | some j =>
    have : l.any p = true := by
      cases ha : l.any p with
      | true => rfl
      | false => rw [idxF_none.2 ha] at h; cases h
    rw [this]
    simp [sel]
theorem impl_wordsFault_eq (w : List Int) : impl_wordsFault w = some (wordsF w) := by
  simp only [impl_wordsFault, wordsF, slices_ContainsFunc_int64_wordsFault_c1, slices_IndexFunc_int64_wordsFault_c1]
  by_cases hl : w.length ≤ 64
  · rw [show decide ((w.length : Int) > 64) = false by simp; omega, slices_IndexFunc_int64_wordsFault_c1_l0_eq w (by omega), idx_contains]
    simp only [cond_ff, Option.bind_some]
    cases w.any fun x => !inR x 0 65535 <;> rfl
  · rw [show decide ((w.length : Int) > 64) = true by simp; omega]; rfl
theorem wordsF_ok {w : List Int} (h : wordsF w = 0) : w.length ≤ 64 ∧ ∀ x ∈ w, 0 ≤ x ∧ x ≤ 65535 := by
  unfold wordsF at h
  cases h1 : decide ((w.length : Int) > 64) with
  | true => rw [h1] at h; cases h
  | false =>
    rw [h1] at h
    cases h2 : (w.any fun x => !inR x 0 65535) with
    | true => rw [h2] at h; cases h
    | false =>
      refine ⟨by simp at h1; omega, fun x hx => ?_⟩
      have := List.any_eq_false.1 h2 x hx
      simp only [Bool.not_eq_true, Bool.not_eq_false'] at this
      exact inR_iff.1 (by simpa using this)
theorem sel_first (n : Int) (g : Option Int) : ((some (cond (n != 0) (.inl n) (.inr ()) : Int ⊕ Unit)).bind fun o => sel o (fun b => some b) (fun _ => g)) = cond (n != 0) (some n) g := by
  cases (n != 0) <;> rfl
theorem first_zero (n : Int) : cond (n != 0) (some n) (some 0) = some n := by
  cases h : (n != 0)
  · have : n = 0 := by simpa using h
    rw [this]; rfl
  · rfl
theorem firstC_zero {α : Type} {c : α → Int} : ∀ {l : List α}, firstC c l = 0 ↔ ∀ x ∈ l, c x = 0
  | [] => by simp [firstC]
  | x :: l => by
    simp only [firstC, List.mem_cons, forall_eq_or_imp]
    cases h : (c x != 0)
    · have : c x = 0 := by simpa using h
      simp only [cond_ff, this, true_and]; exact firstC_zero
    · have : c x ≠ 0 := by simpa using h
      simp only [cond_tt]; exact ⟨fun e => absurd e this, fun e => absurd e.1 this⟩
theorem w64n {n : Int} (h : -9223372036854775808 ≤ n) (h' : n < 9223372036854775808) : w64 n = n := w64_id h (by omega)
def putF (n : Int) (p : Put_) : Int := cond (!inR p.1 0 n) 3 (wordsF p.2.1)
def diskF (d : Disk_) : Int := cond (cond (decide ((d.1.length : Int) > 60)) true (decide ((d.2.1.length : Int) > 200))) 2 (cond (firstC wordsF d.1 != 0) (firstC wordsF d.1) (firstC (putF ((d.1.length : Int) - 1)) d.2.1))
theorem big_ff {d : Disk_} (h1 : d.1.length ≤ 60) (h2 : d.2.1.length ≤ 200) : cond (decide ((d.1.length : Int) > 60)) true (decide ((d.2.1.length : Int) > 200)) = false := by
  rw [show decide ((d.1.length : Int) > 60) = false by simp; omega, show decide ((d.2.1.length : Int) > 200) = false by simp; omega]; rfl
theorem big_tt {d : Disk_} (h : ¬ (d.1.length ≤ 60 ∧ d.2.1.length ≤ 200)) : cond (decide ((d.1.length : Int) > 60)) true (decide ((d.2.1.length : Int) > 200)) = true := by
  by_cases h1 : d.1.length ≤ 60
  · rw [show decide ((d.2.1.length : Int) > 200) = true by simp; omega]; cases decide ((d.1.length : Int) > 60) <;> rfl
  · rw [show decide ((d.1.length : Int) > 60) = true by simp; omega]; rfl
theorem spec_l1Fault_eq (d : Disk_) : spec_l1Fault d = some (diskF d) := by
  simp only [spec_l1Fault, diskF, Option.bind_some]
  by_cases hb : d.1.length ≤ 60 ∧ d.2.1.length ≤ 200
  · obtain ⟨b1, b2⟩ := hb
    have h : spec_l1Fault_l0 d 0 = _ := loop_first d.1 wordsF (fun i hi => by
      simp only [spec_l1Fault_l0.B, lt_dec hi, inB_lt hi, cond_tt, toNat_cast, getD_lt _ hi, spec_l1Words_eq, Option.bind_some, w64_succ (by omega : i < 4294967296)]) (by
      simp only [spec_l1Fault_l0.B, ge_dec (Nat.le_refl _), cond_ff])
    have hw : w64 ((d.1.length : Int) - 1) = (d.1.length : Int) - 1 := w64n (by omega) (by omega)
    have h' : spec_l1Fault_l1 d 0 = _ := loop_first d.2.1 (putF ((d.1.length : Int) - 1)) (fun i hi => by
      simp only [spec_l1Fault_l1.B, lt_dec hi, inB_lt hi, cond_tt, toNat_cast, getD_lt _ hi, spec_l1Words_eq, spec_l1In_eq, hw, Option.bind_some, w64_succ (by omega : i < 4294967296), putF]
      cases inR d.2.1[i].1 0 ((d.1.length : Int) - 1) <;> rfl) (by
      simp only [spec_l1Fault_l1.B, ge_dec (Nat.le_refl _), cond_ff])
    rw [big_ff b1 b2, cond_ff, cond_ff, h, h', sel_first, sel_first, first_zero]
    cases (firstC wordsF d.1 != 0) <;> rfl
  · rw [big_tt hb]; rfl
theorem impl_diskFault_eq (d : Disk_) : impl_diskFault d = some (diskF d) := by
  simp only [impl_diskFault, diskF, Option.bind_some]
  by_cases hb : d.1.length ≤ 60 ∧ d.2.1.length ≤ 200
  · obtain ⟨b1, b2⟩ := hb
    have h : impl_diskFault_l0 d d.1 (d.1.length : Int) 0 = _ := loop_first d.1 wordsF (fun i hi => by
      simp only [impl_diskFault_l0.B, lt_dec hi, inB_lt hi, cond_tt, toNat_cast, getD_lt _ hi, impl_wordsFault_eq, Option.bind_some, w64_succ (by omega : i < 4294967296)]) (by
      simp only [impl_diskFault_l0.B, ge_dec (Nat.le_refl _), cond_ff])
    have hw : w64 ((d.1.length : Int) - 1) = (d.1.length : Int) - 1 := w64n (by omega) (by omega)
    have h' : impl_diskFault_l1 d d.2.1 (d.2.1.length : Int) 0 = _ := loop_first d.2.1 (putF ((d.1.length : Int) - 1)) (fun i hi => by
      simp only [impl_diskFault_l1.B, impl_size_Sint64, lt_dec hi, inB_lt hi, cond_tt, toNat_cast, getD_lt _ hi, impl_wordsFault_eq, impl_within_eq, hw, Option.bind_some, w64_succ (by omega : i < 4294967296), putF]
      cases inR d.2.1[i].1 0 ((d.1.length : Int) - 1) <;> rfl) (by
      simp only [impl_diskFault_l1.B, ge_dec (Nat.le_refl _), cond_ff])
    rw [big_ff b1 b2, cond_ff, cond_ff, h, h', sel_first, sel_first, first_zero]
    cases (firstC wordsF d.1 != 0) <;> rfl
  · rw [big_tt hb]; rfl
/-- a disk that is right -/
structure DiskOk (d : Disk_) : Prop where
  l1 : d.1.length ≤ 60
  l2 : d.2.1.length ≤ 200
  w1 : ∀ w ∈ d.1, w.length ≤ 64 ∧ ∀ x ∈ w, 0 ≤ x ∧ x ≤ 65535
  w2 : ∀ p ∈ d.2.1, (0 ≤ p.1 ∧ p.1 ≤ (d.1.length : Int) - 1) ∧ p.2.1.length ≤ 64 ∧ ∀ x ∈ p.2.1, 0 ≤ x ∧ x ≤ 65535
theorem DiskOk.of {d : Disk_} (h : diskF d = 0) : DiskOk d := by
  unfold diskF at h
  by_cases hb : d.1.length ≤ 60 ∧ d.2.1.length ≤ 200
  · obtain ⟨b1, b2⟩ := hb
    rw [big_ff b1 b2, cond_ff] at h
    cases hc : (firstC wordsF d.1 != 0) with
    | true => rw [hc, cond_tt] at h; simp [h] at hc
    | false =>
      rw [hc, cond_ff] at h
      refine ⟨b1, b2, fun w hw => wordsF_ok (firstC_zero.1 (by simpa using hc) w hw), fun p hp => ?_⟩
      have hp := firstC_zero.1 h p hp
      unfold putF at hp
      cases hr : inR p.1 0 ((d.1.length : Int) - 1) with
      | false => rw [hr] at hp; cases hp
      | true => rw [hr] at hp; exact ⟨inR_iff.1 hr, wordsF_ok hp⟩
  · rw [big_tt hb] at h; cases h
def blockF (d : Disk_) (at_ : Int) : List Int := match lastIx d.2.1 at_ d.2.1.length with
  | some j => (d.2.1.getD j (0, [], ())).2.1
  | none => d.1.getD at_.toNat []
theorem blockP_eq {d : Disk_} (h : d.2.1.length ≤ 200) {at_ : Int} (h0 : 0 ≤ at_) (h1 : at_ < (d.1.length : Int)) : blockP d at_ = some (blockF d at_) := by
  simp only [blockP, blockF]
  rw [show decide (d.2.1.length ≤ 2147483648) = true by simp; omega, cond_tt]
  cases lastIx d.2.1 at_ d.2.1.length with
  | some j => rfl
  | none => simp only [inB, decide_eq_true h0, decide_eq_true h1, Bool.and_self, cond_tt]
theorem impl_Disk_block_eq {d : Disk_} (h : d.2.1.length ≤ 200) {at_ : Int} (h0 : 0 ≤ at_) (h1 : at_ < (d.1.length : Int)) : impl_Disk_block d at_ = some (blockF d at_) := blockP_eq h h0 h1
theorem spec_l1At_l0_eq {d : Disk_} (h : d.2.1.length ≤ 200) (at_ : Int) : ∀ (k : Nat), k ≤ d.2.1.length → spec_l1At_l0 d at_ ((k : Int) - 1) = some (match lastIx d.2.1 at_ k with | some j => .inl (d.2.1.getD j (0, [], ())).2.1 | none => .inr ())
  | 0, _ => loopL_done (by
    show spec_l1At_l0.B d at_ (((0 : Nat) : Int) - 1) = some (.inr (.inr ()))
    unfold spec_l1At_l0.B
    rw [show decide ((((0 : Nat) : Int) - 1) ≥ 0) = false by simp]; rfl)
  | k + 1, hk => by
    have e : ((k + 1 : Nat) : Int) - 1 = (k : Int) := by omega
    have hlt : k < d.2.1.length := by omega
    rw [e]
    have hB : spec_l1At_l0.B d at_ (k : Int) = cond (d.2.1[k].1 == at_) (some (.inr (.inl d.2.1[k].2.1))) (some (.inl ((k : Int) - 1))) := by
      simp only [spec_l1At_l0.B, inB_lt hlt, toNat_cast, getD_lt _ hlt, cond_tt, show decide ((k : Int) ≥ 0) = true by simp, w64n (by omega : -9223372036854775808 ≤ (k : Int) - 1) (by omega)]
    have eg : d.2.1.getD k (0, [], ()) = d.2.1[k] := getD_lt _ hlt
    by_cases hc : d.2.1[k].1 = at_
    · rw [show spec_l1At_l0 d at_ (k : Int) = some (.inl d.2.1[k].2.1) from loopL_done (by
        show spec_l1At_l0.B d at_ (k : Int) = _
        rw [hB, show (d.2.1[k].1 == at_) = true by simpa using hc, cond_tt])]
      simp only [lastIx, eg, if_pos hc]
    · rw [show spec_l1At_l0 d at_ (k : Int) = spec_l1At_l0 d at_ ((k : Int) - 1) from loopL_step (by
        show spec_l1At_l0.B d at_ (k : Int) = _
        rw [hB, show (d.2.1[k].1 == at_) = false by simpa using hc, cond_ff]), spec_l1At_l0_eq h at_ k (by omega)]
      simp only [lastIx, eg, if_neg hc]
theorem spec_l1At_eq {d : Disk_} (h : d.2.1.length ≤ 200) {at_ : Int} (h0 : 0 ≤ at_) (h1 : at_ < (d.1.length : Int)) : spec_l1At d at_ = some (blockF d at_) := by
  simp only [spec_l1At, blockF]
  rw [w64n (by omega : -9223372036854775808 ≤ (d.2.1.length : Int) - 1) (by omega), spec_l1At_l0_eq h at_ _ (Nat.le_refl _)]
  cases lastIx d.2.1 at_ d.2.1.length with
  | some j => rfl
  | none => simp only [Option.bind_some, sel, inB, decide_eq_true h0, decide_eq_true h1, Bool.and_self, cond_tt]
/-- the number of the last sync; a code -/
def seqF (d : Disk_) : Int × Int := cond (diskF d != 0) (0, diskF d) (cond ((d.1.length : Int) != 47) (0, 1) (cond (cond (((blockF d 0).length : Int) != 2) true ((blockF d 0).getD 0 0 != 7)) (0, 5) (cond (!inR ((blockF d 0).getD 1 0) 1 60000) (0, 5) ((blockF d 0).getD 1 0, 0))))
theorem impl_seqOf_eq (d : Disk_) : impl_seqOf d = some (seqF d) := by
  simp only [impl_seqOf, seqF, impl_diskFault_eq, Option.bind_some]
  cases h : (diskF d != 0) with
  | true => rfl
  | false =>
    have hok := DiskOk.of (by simpa using h)
    simp only [cond_ff]
    cases h1 : ((d.1.length : Int) != 47) with
    | true => rfl
    | false =>
      have h47 : (d.1.length : Int) = 47 := by simpa using h1
      simp only [cond_ff, impl_Disk_block_eq hok.l2 (Int.le_refl 0) (by omega), Option.bind_some]
      cases h2 : (((blockF d 0).length : Int) != 2) with
      | true => rfl
      | false =>
        have hl2 : (blockF d 0).length = 2 := by have : ((blockF d 0).length : Int) = 2 := by simpa using h2
                                                 omega
        rw [hl2]
        simp only [cond_ff, cond_tt, Bool.not_false, show inB 0 2 = true from rfl, show inB 1 2 = true from rfl, impl_isSeq, impl_within_eq, Option.bind_some, Int.toNat_zero, show (1 : Int).toNat = 1 from rfl]
        cases ((blockF d 0).getD 0 0 != 7) with
        | true => rfl
        | false => cases inR ((blockF d 0).getD 1 0) 1 60000 <;> rfl
theorem spec_SeqOf_eq (d : Disk_) : spec_SeqOf d = some ((seqF d).2, (seqF d).1, ()) := by
  simp only [spec_SeqOf, seqF, spec_l1Fault_eq, Option.bind_some]
  cases h : (diskF d != 0) with
  | true => rfl
  | false =>
    have hok := DiskOk.of (by simpa using h)
    simp only [cond_ff]
    cases h1 : ((d.1.length : Int) != 47) with
    | true => rfl
    | false =>
      have h47 : (d.1.length : Int) = 47 := by simpa using h1
      simp only [cond_ff, spec_l1At_eq hok.l2 (Int.le_refl 0) (by omega), Option.bind_some]
      cases h2 : (((blockF d 0).length : Int) != 2) with
      | true => rfl
      | false =>
        have hl2 : (blockF d 0).length = 2 := by have : ((blockF d 0).length : Int) = 2 := by simpa using h2
                                                 omega
        rw [hl2]
        simp only [cond_ff, cond_tt, Bool.not_false, show inB 0 2 = true from rfl, show inB 1 2 = true from rfl, spec_l12Seq, spec_l1In_eq, Option.bind_some, Int.toNat_zero, show (1 : Int).toNat = 1 from rfl]
        cases ((blockF d 0).getD 0 0 != 7) with
        | true => rfl
        | false => cases inR ((blockF d 0).getD 1 0) 1 60000 <;> rfl
theorem SeqOf.main (d : Disk_) (hf : Fit tDisk_ d) (hw : wt tDisk_ d ≤ 1048576) : ∃ r, spec_SeqOf d = some r ∧ impl_SeqOf d = some r ∧ wt tIntResult_ r ≤ 2147483648 :=
  ⟨_, spec_SeqOf_eq d, by simp only [impl_SeqOf, impl_seqOf_eq, Option.bind_some], by simp only [wt_pair, wt_int, wt_unit]; omega⟩
theorem SeqOf.law (x : PT.Els (shs [tDisk_])) (hf : FitAll [tDisk_] x) (hw : wtAll [tDisk_] x ≤ 1048576) : laws_FnExactSeqOf x.1 = some true := by
  simp only [wtAll] at hw
  have hf0 : Fit tDisk_ x.1 := hf.1
  have hw0 : wt tDisk_ x.1 ≤ 1048576 := by omega
  clear hw hf
  generalize x.1 = a0 at hf0 hw0 ⊢
  obtain ⟨r, hr1, hr2, hr3⟩ := SeqOf.main a0 hf0 hw0
  have er := laws_eqIntResult_ok r hr3
  have to0 := laws_toDisk_ok a0 (by omega)
  have eq0 := laws_eqDisk_ok a0 (by omega)
  have hsz : ∀ g : Option Bool, g = some true → ∀ b : Bool, cond b (some true) g = some true := fun g h b => by cases b <;> first | rfl | exact h
  simp only [laws_FnExactSeqOf]
  repeat' (first | with_reducible refine hsz _ ?_ _ | (rw [Option.bind_some]) | (obtain ⟨q, hq⟩ := laws_szDisk_ok a0 _ (by omega); rw [hq, Option.bind_some]; clear hq))
  simp only [er, to0, eq0, hr1, hr2, peta, Option.bind_some, Bool.not_true, cond_ff, cond_tt, bne_self, beq_selfB, beq_selfS]
end Mf
