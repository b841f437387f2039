/- The law over plain data: laws.FnExactDataPuts answers true. -/
import Derived.Test.YtgdajbngfigjdaaGreatDataPutsA
noncomputable section
namespace Mf
open Go
set_option linter.unusedVariables false
set_option linter.unusedSimpArgs false
set_option maxRecDepth 100000
theorem laws_szInt64S_ok (a : (List Int)) (n : Int) (hw : wt (.sl (.int .i64)) a ≤ 2147483648) : ∃ r, laws_szInt64S a n = some r := by
  simp only [laws_szInt64S]
  repeat' (first | with_reducible exact ex_some _ | with_reducible refine ex_bind (ex_some _) fun _ => ?_ | with_reducible apply ex_cond)
theorem laws_szEntry_ok (a : Entry_) (n : Int) (hw : wt tEntry_ a ≤ 2147483648) : ∃ r, laws_szEntry a n = some r := by
  simp only [laws_szEntry]
  repeat' (first | with_reducible exact ex_some _ | with_reducible refine ex_bind (ex_some _) fun _ => ?_ | with_reducible apply ex_cond)
theorem laws_szEntryS_ok (a : (List Entry_)) (n : Int) (hw : wt (.sl tEntry_) a ≤ 2147483648) : ∃ r, laws_szEntryS a n = some r := by
  have hw2 := hw
  simp only [wt_sl, wt_pair, wt_int, wt_bool, wt_str, wt_unit] at hw2
  have hl : a.length ≤ 2147483648 := by have := len_sum (wt tEntry_) (fun x => by simp only [wt_sl, wt_pair, wt_int, wt_bool, wt_str, wt_unit]; omega) a; omega
  have lp : ∀ k, ∃ r, laws_szEntryS_l0 a (k, 0) = some r := fun k => by
    refine loop_ex (f := fun s => laws_szEntryS_l0.B a s.1 s.2) (fun (i : Nat) (k : Int) => (k, (i : Int))) a.length (fun i k hi => ?_) (fun k => ?_) a.length 0 k (by omega)
    · have hm := mem_sum (wt tEntry_) a i hi
      have hb : inB (i : Int) a.length = true := inB_ok (by omega) (by omega)
      simp only [laws_szEntryS_l0.B, lt_dec hi, hb, cond_tt, toNat_cast, getD_lt _ hi, w64_succ (by omega : i < 4294967296)]
      repeat' (first | with_reducible exact ex_inr _ | (with_reducible refine .inl ⟨_, rfl, ?_⟩; exact ⟨_, rfl⟩) | with_reducible refine ex_bind2 (laws_szEntry_ok _ _ (by first | omega | (simp only [wt_sl, wt_pair, wt_int, wt_bool, wt_str, wt_unit] at hm ⊢; omega))) fun _ => ?_ | with_reducible refine ex_bind2 (ex_some _) fun _ => ?_ | with_reducible apply ex_cond2)
    · refine ⟨.inr k, ?_⟩; simp only [laws_szEntryS_l0.B, ge_dec (Nat.le_refl _), cond_ff]
  simp only [laws_szEntryS]
  repeat' (first | with_reducible exact ex_some _ | with_reducible refine ex_bind (lp _) fun o => ?_ | with_reducible refine ex_bind (ex_some _) fun _ => ?_ | with_reducible apply ex_cond | (cases o <;> exact ⟨_, rfl⟩))
theorem laws_szInode_ok (a : Inode_) (n : Int) (hw : wt tInode_ a ≤ 2147483648) : ∃ r, laws_szInode a n = some r := by
  simp only [laws_szInode]
  repeat' (first | with_reducible exact ex_some _ | with_reducible refine ex_bind (laws_szInt64S_ok _ _ (by first | omega | (simp only [wt_sl, wt_pair, wt_int, wt_bool, wt_str, wt_unit] at hw ⊢; omega))) fun _ => ?_ | with_reducible refine ex_bind (laws_szEntryS_ok _ _ (by first | omega | (simp only [wt_sl, wt_pair, wt_int, wt_bool, wt_str, wt_unit] at hw ⊢; omega))) fun _ => ?_ | with_reducible refine ex_bind (ex_some _) fun _ => ?_ | with_reducible apply ex_cond)
theorem laws_szInodeS_ok (a : (List Inode_)) (n : Int) (hw : wt (.sl tInode_) a ≤ 2147483648) : ∃ r, laws_szInodeS a n = some r := by
  have hw2 := hw
  simp only [wt_sl, wt_pair, wt_int, wt_bool, wt_str, wt_unit] at hw2
  have hl : a.length ≤ 2147483648 := by have := len_sum (wt tInode_) (fun x => by simp only [wt_sl, wt_pair, wt_int, wt_bool, wt_str, wt_unit]; omega) a; omega
  have lp : ∀ k, ∃ r, laws_szInodeS_l0 a (k, 0) = some r := fun k => by
    refine loop_ex (f := fun s => laws_szInodeS_l0.B a s.1 s.2) (fun (i : Nat) (k : Int) => (k, (i : Int))) a.length (fun i k hi => ?_) (fun k => ?_) a.length 0 k (by omega)
    · have hm := mem_sum (wt tInode_) a i hi
      have hb : inB (i : Int) a.length = true := inB_ok (by omega) (by omega)
      simp only [laws_szInodeS_l0.B, lt_dec hi, hb, cond_tt, toNat_cast, getD_lt _ hi, w64_succ (by omega : i < 4294967296)]
      repeat' (first | with_reducible exact ex_inr _ | (with_reducible refine .inl ⟨_, rfl, ?_⟩; exact ⟨_, rfl⟩) | with_reducible refine ex_bind2 (laws_szInode_ok _ _ (by first | omega | (simp only [wt_sl, wt_pair, wt_int, wt_bool, wt_str, wt_unit] at hm ⊢; omega))) fun _ => ?_ | with_reducible refine ex_bind2 (ex_some _) fun _ => ?_ | with_reducible apply ex_cond2)
    · refine ⟨.inr k, ?_⟩; simp only [laws_szInodeS_l0.B, ge_dec (Nat.le_refl _), cond_ff]
  simp only [laws_szInodeS]
  repeat' (first | with_reducible exact ex_some _ | with_reducible refine ex_bind (lp _) fun o => ?_ | with_reducible refine ex_bind (ex_some _) fun _ => ?_ | with_reducible apply ex_cond | (cases o <;> exact ⟨_, rfl⟩))
theorem laws_szByteS_ok (a : (List Int)) (n : Int) (hw : wt (.sl (.int .u8)) a ≤ 2147483648) : ∃ r, laws_szByteS a n = some r := by
  simp only [laws_szByteS]
  repeat' (first | with_reducible exact ex_some _ | with_reducible refine ex_bind (ex_some _) fun _ => ?_ | with_reducible apply ex_cond)
theorem laws_szByteSS_ok (a : (List (List Int))) (n : Int) (hw : wt (.sl (.sl (.int .u8))) a ≤ 2147483648) : ∃ r, laws_szByteSS a n = some r := by
  have hw2 := hw
  simp only [wt_sl, wt_pair, wt_int, wt_bool, wt_str, wt_unit] at hw2
  have hl : a.length ≤ 2147483648 := by have := len_sum (wt (.sl (.int .u8))) (fun x => by simp only [wt_sl, wt_pair, wt_int, wt_bool, wt_str, wt_unit]; omega) a; omega
  have lp : ∀ k, ∃ r, laws_szByteSS_l0 a (k, 0) = some r := fun k => by
    refine loop_ex (f := fun s => laws_szByteSS_l0.B a s.1 s.2) (fun (i : Nat) (k : Int) => (k, (i : Int))) a.length (fun i k hi => ?_) (fun k => ?_) a.length 0 k (by omega)
    · have hm := mem_sum (wt (.sl (.int .u8))) a i hi
      have hb : inB (i : Int) a.length = true := inB_ok (by omega) (by omega)
      simp only [laws_szByteSS_l0.B, lt_dec hi, hb, cond_tt, toNat_cast, getD_lt _ hi, w64_succ (by omega : i < 4294967296)]
      repeat' (first | with_reducible exact ex_inr _ | (with_reducible refine .inl ⟨_, rfl, ?_⟩; exact ⟨_, rfl⟩) | with_reducible refine ex_bind2 (laws_szByteS_ok _ _ (by first | omega | (simp only [wt_sl, wt_pair, wt_int, wt_bool, wt_str, wt_unit] at hm ⊢; omega))) fun _ => ?_ | with_reducible refine ex_bind2 (ex_some _) fun _ => ?_ | with_reducible apply ex_cond2)
    · refine ⟨.inr k, ?_⟩; simp only [laws_szByteSS_l0.B, ge_dec (Nat.le_refl _), cond_ff]
  simp only [laws_szByteSS]
  repeat' (first | with_reducible exact ex_some _ | with_reducible refine ex_bind (lp _) fun o => ?_ | with_reducible refine ex_bind (ex_some _) fun _ => ?_ | with_reducible apply ex_cond | (cases o <;> exact ⟨_, rfl⟩))
theorem laws_szFs_ok (a : Fs_) (n : Int) (hw : wt tFs_ a ≤ 2147483648) : ∃ r, laws_szFs a n = some r := by
  simp only [laws_szFs]
  repeat' (first | with_reducible exact ex_some _ | with_reducible refine ex_bind (laws_szInodeS_ok _ _ (by first | omega | (simp only [wt_sl, wt_pair, wt_int, wt_bool, wt_str, wt_unit] at hw ⊢; omega))) fun _ => ?_ | with_reducible refine ex_bind (laws_szByteSS_ok _ _ (by first | omega | (simp only [wt_sl, wt_pair, wt_int, wt_bool, wt_str, wt_unit] at hw ⊢; omega))) fun _ => ?_ | with_reducible refine ex_bind (ex_some _) fun _ => ?_ | with_reducible apply ex_cond)
theorem laws_toInt64S_ok (a : (List Int)) (hw : wt (.sl (.int .i64)) a ≤ 2147483648) : laws_toInt64S a = some a := by
  have hw2 := hw
  simp only [wt_sl, wt_pair, wt_int, wt_bool, wt_str, wt_unit] at hw2
  have hl : a.length ≤ 2147483648 := by have := len_sum (wt (.int .i64)) (fun x => by simp only [wt_sl, wt_pair, wt_int, wt_bool, wt_str, wt_unit]; omega) a; omega
  have lp : laws_toInt64S_l0 a (0, List.replicate (a.length : Int).toNat 0) = some a := by
    refine to_list0 a (fun s => laws_toInt64S_l0.B a s.1 s.2) 0 (fun i hi out ho => ?_) (fun out ho => ?_)
    · have hm := mem_sum (wt (.int .i64)) a i hi
      have hb : inB (i : Int) a.length = true := inB_ok (by omega) (by omega)
      have hc : inB (i : Int) out.length = true := inB_ok (by omega) (by omega)
      simp only [laws_toInt64S_l0.B, lt_dec hi, hb, hc, cond_tt, toNat_cast, getD_lt _ hi, Option.bind_some, peta, w64_succ (by omega : i < 4294967296)]
    · simp only [laws_toInt64S_l0.B]; rw [show decide ((a.length : Int) < (a.length : Int)) = false by simp]; rfl
  simp only [laws_toInt64S]
  rw [show (decide ((0 : Int) ≤ (a.length : Int)) && (decide ((a.length : Int) ≤ (a.length : Int)) && decide ((a.length : Int) ≤ 2147483648))) = true by simp; omega]
  simp only [cond_tt, Option.bind_some, lp]
theorem laws_toEntry_ok (a : Entry_) (hw : wt tEntry_ a ≤ 2147483648) : laws_toEntry a = some a := by
  obtain ⟨x0, x1, ⟨⟩⟩ := a
  simp only [wt_sl, wt_pair, wt_int, wt_bool, wt_str, wt_unit] at hw
  simp only [laws_toEntry, Option.bind_some, peta]
theorem laws_toEntryS_ok (a : (List Entry_)) (hw : wt (.sl tEntry_) a ≤ 2147483648) : laws_toEntryS a = some a := by
  have hw2 := hw
  simp only [wt_sl, wt_pair, wt_int, wt_bool, wt_str, wt_unit] at hw2
  have hl : a.length ≤ 2147483648 := by have := len_sum (wt tEntry_) (fun x => by simp only [wt_sl, wt_pair, wt_int, wt_bool, wt_str, wt_unit]; omega) a; omega
  have lp : laws_toEntryS_l0 a (0, List.replicate (a.length : Int).toNat zEntry_) = some a := by
    refine to_list0 a (fun s => laws_toEntryS_l0.B a s.1 s.2) zEntry_ (fun i hi out ho => ?_) (fun out ho => ?_)
    · have hm := mem_sum (wt tEntry_) a i hi
      have hb : inB (i : Int) a.length = true := inB_ok (by omega) (by omega)
      have hc : inB (i : Int) out.length = true := inB_ok (by omega) (by omega)
      have h0 := laws_toEntry_ok a[i] (by omega)
      simp only [laws_toEntryS_l0.B, lt_dec hi, hb, hc, cond_tt, toNat_cast, getD_lt _ hi, h0, Option.bind_some, peta, w64_succ (by omega : i < 4294967296)]
    · simp only [laws_toEntryS_l0.B]; rw [show decide ((a.length : Int) < (a.length : Int)) = false by simp]; rfl
  simp only [laws_toEntryS]
  rw [show (decide ((0 : Int) ≤ (a.length : Int)) && (decide ((a.length : Int) ≤ (a.length : Int)) && decide ((a.length : Int) ≤ 2147483648))) = true by simp; omega]
  simp only [cond_tt, Option.bind_some, lp]
theorem laws_toInode_ok (a : Inode_) (hw : wt tInode_ a ≤ 2147483648) : laws_toInode a = some a := by
  obtain ⟨x0, x1, x2, x3, x4, ⟨⟩⟩ := a
  simp only [wt_sl, wt_pair, wt_int, wt_bool, wt_str, wt_unit] at hw
  have h_x3_0 := laws_toInt64S_ok x3 (by simp only [wt_sl, wt_pair, wt_int, wt_bool, wt_str, wt_unit]; omega)
  have h_x4_1 := laws_toEntryS_ok x4 (by simp only [wt_sl, wt_pair, wt_int, wt_bool, wt_str, wt_unit]; omega)
  simp only [laws_toInode, h_x3_0, h_x4_1, Option.bind_some, peta]
theorem laws_toInodeS_ok (a : (List Inode_)) (hw : wt (.sl tInode_) a ≤ 2147483648) : laws_toInodeS a = some a := by
  have hw2 := hw
  simp only [wt_sl, wt_pair, wt_int, wt_bool, wt_str, wt_unit] at hw2
  have hl : a.length ≤ 2147483648 := by have := len_sum (wt tInode_) (fun x => by simp only [wt_sl, wt_pair, wt_int, wt_bool, wt_str, wt_unit]; omega) a; omega
  have lp : laws_toInodeS_l0 a (0, List.replicate (a.length : Int).toNat zInode_) = some a := by
    refine to_list0 a (fun s => laws_toInodeS_l0.B a s.1 s.2) zInode_ (fun i hi out ho => ?_) (fun out ho => ?_)
    · have hm := mem_sum (wt tInode_) a i hi
      have hb : inB (i : Int) a.length = true := inB_ok (by omega) (by omega)
      have hc : inB (i : Int) out.length = true := inB_ok (by omega) (by omega)
      have h0 := laws_toInode_ok a[i] (by omega)
      simp only [laws_toInodeS_l0.B, lt_dec hi, hb, hc, cond_tt, toNat_cast, getD_lt _ hi, h0, Option.bind_some, peta, w64_succ (by omega : i < 4294967296)]
    · simp only [laws_toInodeS_l0.B]; rw [show decide ((a.length : Int) < (a.length : Int)) = false by simp]; rfl
  simp only [laws_toInodeS]
  rw [show (decide ((0 : Int) ≤ (a.length : Int)) && (decide ((a.length : Int) ≤ (a.length : Int)) && decide ((a.length : Int) ≤ 2147483648))) = true by simp; omega]
  simp only [cond_tt, Option.bind_some, lp]
theorem laws_toByteS_ok (a : (List Int)) (hw : wt (.sl (.int .u8)) a ≤ 2147483648) : laws_toByteS a = some a := by
  have hw2 := hw
  simp only [wt_sl, wt_pair, wt_int, wt_bool, wt_str, wt_unit] at hw2
  have hl : a.length ≤ 2147483648 := by have := len_sum (wt (.int .u8)) (fun x => by simp only [wt_sl, wt_pair, wt_int, wt_bool, wt_str, wt_unit]; omega) a; omega
  have lp : laws_toByteS_l0 a (0, List.replicate (a.length : Int).toNat 0) = some a := by
    refine to_list0 a (fun s => laws_toByteS_l0.B a s.1 s.2) 0 (fun i hi out ho => ?_) (fun out ho => ?_)
    · have hm := mem_sum (wt (.int .u8)) a i hi
      have hb : inB (i : Int) a.length = true := inB_ok (by omega) (by omega)
      have hc : inB (i : Int) out.length = true := inB_ok (by omega) (by omega)
      simp only [laws_toByteS_l0.B, lt_dec hi, hb, hc, cond_tt, toNat_cast, getD_lt _ hi, Option.bind_some, peta, w64_succ (by omega : i < 4294967296)]
    · simp only [laws_toByteS_l0.B]; rw [show decide ((a.length : Int) < (a.length : Int)) = false by simp]; rfl
  simp only [laws_toByteS]
  rw [show (decide ((0 : Int) ≤ (a.length : Int)) && (decide ((a.length : Int) ≤ (a.length : Int)) && decide ((a.length : Int) ≤ 2147483648))) = true by simp; omega]
  simp only [cond_tt, Option.bind_some, lp]
theorem laws_toByteSS_ok (a : (List (List Int))) (hw : wt (.sl (.sl (.int .u8))) a ≤ 2147483648) : laws_toByteSS a = some a := by
  have hw2 := hw
  simp only [wt_sl, wt_pair, wt_int, wt_bool, wt_str, wt_unit] at hw2
  have hl : a.length ≤ 2147483648 := by have := len_sum (wt (.sl (.int .u8))) (fun x => by simp only [wt_sl, wt_pair, wt_int, wt_bool, wt_str, wt_unit]; omega) a; omega
  have lp : laws_toByteSS_l0 a (0, List.replicate (a.length : Int).toNat ([] : List Int)) = some a := by
    refine to_list0 a (fun s => laws_toByteSS_l0.B a s.1 s.2) [] (fun i hi out ho => ?_) (fun out ho => ?_)
    · have hm := mem_sum (wt (.sl (.int .u8))) a i hi
      have hb : inB (i : Int) a.length = true := inB_ok (by omega) (by omega)
      have hc : inB (i : Int) out.length = true := inB_ok (by omega) (by omega)
      have h0 := laws_toByteS_ok a[i] (by omega)
      simp only [laws_toByteSS_l0.B, lt_dec hi, hb, hc, cond_tt, toNat_cast, getD_lt _ hi, h0, Option.bind_some, peta, w64_succ (by omega : i < 4294967296)]
    · simp only [laws_toByteSS_l0.B]; rw [show decide ((a.length : Int) < (a.length : Int)) = false by simp]; rfl
  simp only [laws_toByteSS]
  rw [show (decide ((0 : Int) ≤ (a.length : Int)) && (decide ((a.length : Int) ≤ (a.length : Int)) && decide ((a.length : Int) ≤ 2147483648))) = true by simp; omega]
  simp only [cond_tt, Option.bind_some, lp]
theorem laws_toFs_ok (a : Fs_) (hw : wt tFs_ a ≤ 2147483648) : laws_toFs a = some a := by
  obtain ⟨x0, x1, ⟨⟩⟩ := a
  simp only [wt_sl, wt_pair, wt_int, wt_bool, wt_str, wt_unit] at hw
  have h_x0_0 := laws_toInodeS_ok x0 (by simp only [wt_sl, wt_pair, wt_int, wt_bool, wt_str, wt_unit]; omega)
  have h_x1_1 := laws_toByteSS_ok x1 (by simp only [wt_sl, wt_pair, wt_int, wt_bool, wt_str, wt_unit]; omega)
  simp only [laws_toFs, h_x0_0, h_x1_1, Option.bind_some, peta]
theorem laws_eqInt64S_ok (a : (List Int)) (hw : wt (.sl (.int .i64)) a ≤ 2147483648) : laws_eqInt64S a a = some true := by
  have hw2 := hw
  simp only [wt_sl, wt_pair, wt_int, wt_bool, wt_str, wt_unit] at hw2
  have hl : a.length ≤ 2147483648 := by have := len_sum (wt (.int .i64)) (fun x => by simp only [wt_sl, wt_pair, wt_int, wt_bool, wt_str, wt_unit]; omega) a; omega
  have lp : laws_eqInt64S_l0 a a 0 = some (.inr ()) := by
    refine eq_list0 (n := a.length) (fun s => laws_eqInt64S_l0.B a a s) (fun i hi => ?_) ?_
    · have hm := mem_sum (wt (.int .i64)) a i hi
      have hb : inB (i : Int) a.length = true := inB_ok (by omega) (by omega)
      simp only [laws_eqInt64S_l0.B, lt_dec hi, hb, cond_tt, cond_ff, toNat_cast, getD_lt _ hi, Option.bind_some, Bool.not_true, bne_self, beq_selfS, beq_selfB, w64_succ (by omega : i < 4294967296)]
    · simp only [laws_eqInt64S_l0.B, ge_dec (Nat.le_refl _), cond_ff]
  simp only [laws_eqInt64S, bne_self, cond_ff, lp, Option.bind_some, sel]
theorem laws_eqPut_ok (a : Put_) (hw : wt tPut_ a ≤ 2147483648) : laws_eqPut a a = some true := by
  obtain ⟨x0, x1, ⟨⟩⟩ := a
  simp only [wt_sl, wt_pair, wt_int, wt_bool, wt_str, wt_unit] at hw
  have h_x1_0 := laws_eqInt64S_ok x1 (by simp only [wt_sl, wt_pair, wt_int, wt_bool, wt_str, wt_unit]; omega)
  simp only [laws_eqPut, h_x1_0, Option.bind_some, Bool.not_true, bne_self, beq_selfS, beq_selfB, cond_ff, cond_tt]
theorem laws_eqPutS_ok (a : (List Put_)) (hw : wt (.sl tPut_) a ≤ 2147483648) : laws_eqPutS a a = some true := by
  have hw2 := hw
  simp only [wt_sl, wt_pair, wt_int, wt_bool, wt_str, wt_unit] at hw2
  have hl : a.length ≤ 2147483648 := by have := len_sum (wt tPut_) (fun x => by simp only [wt_sl, wt_pair, wt_int, wt_bool, wt_str, wt_unit]; omega) a; omega
  have lp : laws_eqPutS_l0 a a 0 = some (.inr ()) := by
    refine eq_list0 (n := a.length) (fun s => laws_eqPutS_l0.B a a s) (fun i hi => ?_) ?_
    · have hm := mem_sum (wt tPut_) a i hi
      have hb : inB (i : Int) a.length = true := inB_ok (by omega) (by omega)
      have h0 := laws_eqPut_ok a[i] (by omega)
      simp only [laws_eqPutS_l0.B, lt_dec hi, hb, cond_tt, cond_ff, toNat_cast, getD_lt _ hi, h0, Option.bind_some, Bool.not_true, bne_self, beq_selfS, beq_selfB, w64_succ (by omega : i < 4294967296)]
    · simp only [laws_eqPutS_l0.B, ge_dec (Nat.le_refl _), cond_ff]
  simp only [laws_eqPutS, bne_self, cond_ff, lp, Option.bind_some, sel]
theorem laws_eqPutsResult_ok (a : PutsResult_) (hw : wt tPutsResult_ a ≤ 2147483648) : laws_eqPutsResult a a = some true := by
  obtain ⟨x0, x1, ⟨⟩⟩ := a
  simp only [wt_sl, wt_pair, wt_int, wt_bool, wt_str, wt_unit] at hw
  have h_x1_0 := laws_eqPutS_ok x1 (by simp only [wt_sl, wt_pair, wt_int, wt_bool, wt_str, wt_unit]; omega)
  simp only [laws_eqPutsResult, h_x1_0, Option.bind_some, Bool.not_true, bne_self, beq_selfS, beq_selfB, cond_ff, cond_tt]
theorem laws_eqEntry_ok (a : Entry_) (hw : wt tEntry_ a ≤ 2147483648) : laws_eqEntry a a = some true := by
  obtain ⟨x0, x1, ⟨⟩⟩ := a
  simp only [wt_sl, wt_pair, wt_int, wt_bool, wt_str, wt_unit] at hw
  simp only [laws_eqEntry, Option.bind_some, Bool.not_true, bne_self, beq_selfS, beq_selfB, cond_ff, cond_tt]
theorem laws_eqEntryS_ok (a : (List Entry_)) (hw : wt (.sl tEntry_) a ≤ 2147483648) : laws_eqEntryS a a = some true := by
  have hw2 := hw
  simp only [wt_sl, wt_pair, wt_int, wt_bool, wt_str, wt_unit] at hw2
  have hl : a.length ≤ 2147483648 := by have := len_sum (wt tEntry_) (fun x => by simp only [wt_sl, wt_pair, wt_int, wt_bool, wt_str, wt_unit]; omega) a; omega
  have lp : laws_eqEntryS_l0 a a 0 = some (.inr ()) := by
    refine eq_list0 (n := a.length) (fun s => laws_eqEntryS_l0.B a a s) (fun i hi => ?_) ?_
    · have hm := mem_sum (wt tEntry_) a i hi
      have hb : inB (i : Int) a.length = true := inB_ok (by omega) (by omega)
      have h0 := laws_eqEntry_ok a[i] (by omega)
      simp only [laws_eqEntryS_l0.B, lt_dec hi, hb, cond_tt, cond_ff, toNat_cast, getD_lt _ hi, h0, Option.bind_some, Bool.not_true, bne_self, beq_selfS, beq_selfB, w64_succ (by omega : i < 4294967296)]
    · simp only [laws_eqEntryS_l0.B, ge_dec (Nat.le_refl _), cond_ff]
  simp only [laws_eqEntryS, bne_self, cond_ff, lp, Option.bind_some, sel]
theorem laws_eqInode_ok (a : Inode_) (hw : wt tInode_ a ≤ 2147483648) : laws_eqInode a a = some true := by
  obtain ⟨x0, x1, x2, x3, x4, ⟨⟩⟩ := a
  simp only [wt_sl, wt_pair, wt_int, wt_bool, wt_str, wt_unit] at hw
  have h_x3_0 := laws_eqInt64S_ok x3 (by simp only [wt_sl, wt_pair, wt_int, wt_bool, wt_str, wt_unit]; omega)
  have h_x4_1 := laws_eqEntryS_ok x4 (by simp only [wt_sl, wt_pair, wt_int, wt_bool, wt_str, wt_unit]; omega)
  simp only [laws_eqInode, h_x3_0, h_x4_1, Option.bind_some, Bool.not_true, bne_self, beq_selfS, beq_selfB, cond_ff, cond_tt]
theorem laws_eqInodeS_ok (a : (List Inode_)) (hw : wt (.sl tInode_) a ≤ 2147483648) : laws_eqInodeS a a = some true := by
  have hw2 := hw
  simp only [wt_sl, wt_pair, wt_int, wt_bool, wt_str, wt_unit] at hw2
  have hl : a.length ≤ 2147483648 := by have := len_sum (wt tInode_) (fun x => by simp only [wt_sl, wt_pair, wt_int, wt_bool, wt_str, wt_unit]; omega) a; omega
  have lp : laws_eqInodeS_l0 a a 0 = some (.inr ()) := by
    refine eq_list0 (n := a.length) (fun s => laws_eqInodeS_l0.B a a s) (fun i hi => ?_) ?_
    · have hm := mem_sum (wt tInode_) a i hi
      have hb : inB (i : Int) a.length = true := inB_ok (by omega) (by omega)
      have h0 := laws_eqInode_ok a[i] (by omega)
      simp only [laws_eqInodeS_l0.B, lt_dec hi, hb, cond_tt, cond_ff, toNat_cast, getD_lt _ hi, h0, Option.bind_some, Bool.not_true, bne_self, beq_selfS, beq_selfB, w64_succ (by omega : i < 4294967296)]
    · simp only [laws_eqInodeS_l0.B, ge_dec (Nat.le_refl _), cond_ff]
  simp only [laws_eqInodeS, bne_self, cond_ff, lp, Option.bind_some, sel]
theorem laws_eqByteS_ok (a : (List Int)) (hw : wt (.sl (.int .u8)) a ≤ 2147483648) : laws_eqByteS a a = some true := by
  have hw2 := hw
  simp only [wt_sl, wt_pair, wt_int, wt_bool, wt_str, wt_unit] at hw2
  have hl : a.length ≤ 2147483648 := by have := len_sum (wt (.int .u8)) (fun x => by simp only [wt_sl, wt_pair, wt_int, wt_bool, wt_str, wt_unit]; omega) a; omega
  have lp : laws_eqByteS_l0 a a 0 = some (.inr ()) := by
    refine eq_list0 (n := a.length) (fun s => laws_eqByteS_l0.B a a s) (fun i hi => ?_) ?_
    · have hm := mem_sum (wt (.int .u8)) a i hi
      have hb : inB (i : Int) a.length = true := inB_ok (by omega) (by omega)
      simp only [laws_eqByteS_l0.B, lt_dec hi, hb, cond_tt, cond_ff, toNat_cast, getD_lt _ hi, Option.bind_some, Bool.not_true, bne_self, beq_selfS, beq_selfB, w64_succ (by omega : i < 4294967296)]
    · simp only [laws_eqByteS_l0.B, ge_dec (Nat.le_refl _), cond_ff]
  simp only [laws_eqByteS, bne_self, cond_ff, lp, Option.bind_some, sel]
theorem laws_eqByteSS_ok (a : (List (List Int))) (hw : wt (.sl (.sl (.int .u8))) a ≤ 2147483648) : laws_eqByteSS a a = some true := by
  have hw2 := hw
  simp only [wt_sl, wt_pair, wt_int, wt_bool, wt_str, wt_unit] at hw2
  have hl : a.length ≤ 2147483648 := by have := len_sum (wt (.sl (.int .u8))) (fun x => by simp only [wt_sl, wt_pair, wt_int, wt_bool, wt_str, wt_unit]; omega) a; omega
  have lp : laws_eqByteSS_l0 a a 0 = some (.inr ()) := by
    refine eq_list0 (n := a.length) (fun s => laws_eqByteSS_l0.B a a s) (fun i hi => ?_) ?_
    · have hm := mem_sum (wt (.sl (.int .u8))) a i hi
      have hb : inB (i : Int) a.length = true := inB_ok (by omega) (by omega)
      have h0 := laws_eqByteS_ok a[i] (by omega)
      simp only [laws_eqByteSS_l0.B, lt_dec hi, hb, cond_tt, cond_ff, toNat_cast, getD_lt _ hi, h0, Option.bind_some, Bool.not_true, bne_self, beq_selfS, beq_selfB, w64_succ (by omega : i < 4294967296)]
    · simp only [laws_eqByteSS_l0.B, ge_dec (Nat.le_refl _), cond_ff]
  simp only [laws_eqByteSS, bne_self, cond_ff, lp, Option.bind_some, sel]
theorem laws_eqFs_ok (a : Fs_) (hw : wt tFs_ a ≤ 2147483648) : laws_eqFs a a = some true := by
  obtain ⟨x0, x1, ⟨⟩⟩ := a
  simp only [wt_sl, wt_pair, wt_int, wt_bool, wt_str, wt_unit] at hw
  have h_x0_0 := laws_eqInodeS_ok x0 (by simp only [wt_sl, wt_pair, wt_int, wt_bool, wt_str, wt_unit]; omega)
  have h_x1_1 := laws_eqByteSS_ok x1 (by simp only [wt_sl, wt_pair, wt_int, wt_bool, wt_str, wt_unit]; omega)
  simp only [laws_eqFs, h_x0_0, h_x1_1, Option.bind_some, Bool.not_true, bne_self, beq_selfS, beq_selfB, cond_ff, cond_tt]
theorem laws_markText_loop : ∀ (n : Nat) (k : Int) (out : List UInt8), 0 ≤ k → k < 10 ^ n → out.length + n ≤ 2147483648 → k ≤ 4611686018427387904 → ∃ s, laws_markText_l0 (k, out) = some s ∧ s.length ≤ out.length + n
  | 0, k, out, h0, h1, h2, h3 => by
    have : k = 0 := by simp at h1; omega
    subst this
    exact ⟨out, loopL_done (by simp only [laws_markText_l0.B]; rfl), by omega⟩
  | n + 1, k, out, h0, h1, h2, h3 => by
    by_cases hk : k = 0
    · subst hk; exact ⟨out, loopL_done (by simp only [laws_markText_l0.B]; rfl), by omega⟩
    · have hd : k.tdiv 10 = k / 10 := Int.tdiv_eq_ediv_of_nonneg h0
      have hq : w64 (k / 10) = k / 10 := w64_id (by omega) (by omega)
      have hp : k / 10 < 10 ^ n := by rw [Int.pow_succ] at h1; omega
      obtain ⟨s, hs, hl⟩ := laws_markText_loop n (k / 10) ((([IntKind.u8.wrap (w64 ((48 : Int) + (k.tmod 10)))]).map fun n => UInt8.ofNat n.toNat) ++ out) (by omega) hp (by simp; omega) (by omega)
      refine ⟨s, ?_, by simp at hl; omega⟩
      rw [← hs]
      refine loopL_step (s' := (k / 10, _)) ?_
      simp only [laws_markText_l0.B, show decide (k > 0) = true by simp; omega, cond_tt, show (!((10 : Int) == 0)) = true from rfl, Option.bind_some, hd, hq]
      rw [show decide ((([IntKind.u8.wrap (w64 ((48 : Int) + (k.tmod 10)))]).map fun n => UInt8.ofNat n.toNat).length + out.length ≤ 2147483648) = true by simp; omega]
      rfl
theorem laws_markText_ok (k : Int) (h : 0 ≤ k) (hk : k ≤ 4611686018427387904) : ∃ s, laws_markText k = some s := by
  obtain ⟨s, hs, hl⟩ := laws_markText_loop 19 k [] h (by omega) (by simp) hk
  simp only [laws_markText]
  cases decide (k ≤ 0)
  · simp only [cond_ff, hs, Option.bind_some]
    rw [show decide (([109] : List UInt8).length + s.length ≤ 2147483648) = true by simp at hl ⊢; omega]
    exact ⟨_, rfl⟩
  · exact ⟨_, rfl⟩
theorem laws_markEntryS_ok (a : (List Entry_)) (k : Int) (hk : 0 ≤ k) (hw : k + wt (.sl tEntry_) a ≤ 4611686018427387904) (hz : wt (.sl tEntry_) a ≤ 2147483648) : MK laws_markEntryS (wt (.sl tEntry_) a) a k := by
  simp only [wt_sl, wt_pair, wt_int, wt_bool, wt_str, wt_unit] at hw hz
  have hl : a.length ≤ 2147483648 := by have := len_sum (wt tEntry_) (fun x => by simp only [wt_sl, wt_pair, wt_int, wt_bool, wt_str, wt_unit]; omega) a; omega
  have hs : ∀ (k : Int) (i : Nat) (a : (List Entry_)) (h : i < a.length), a.length ≤ 2147483648 → 0 ≤ k → k + wt tEntry_ a[i] ≤ 4611686018427387904 → wt tEntry_ a[i] ≤ 2147483648 → ∃ k2 x2, k ≤ k2 ∧ k2 ≤ k + wt tEntry_ a[i] ∧ laws_markEntryS_l0.B k (i : Int) a = some (.inl (k2, ((i + 1 : Nat) : Int), a.set i x2)) := by
    clear hw hz hl hk k a
    intro k i a hi hl hk hw hz
    have hb : inB (i : Int) a.length = true := inB_ok (by omega) (by omega)
    simp only [wt_sl, wt_pair, wt_int, wt_bool, wt_str, wt_unit] at hw hz
    obtain ⟨s1, w1⟩ := laws_markText_ok (k) (by omega) (by omega)
    have w2 : w64 (k + 1) = k + 1 := w64s (by omega) (by omega)
    have w3 : w64 (k + 1 + 1) = k + 1 + 1 := w64s (by omega) (by omega)
    refine ⟨k + 1 + 1, (s1, k + 1, ()), by omega, by simp only [wt_sl, wt_pair, wt_int, wt_bool, wt_str, wt_unit]; omega, ?_⟩
    simp only [laws_markEntryS_l0.B, lt_dec hi, hb, cond_tt, toNat_cast, getD_lt _ hi, Option.bind_some, w1, w2, w3, w64_succ (by omega : i < 4294967296), List.set_set, List.length_set, getD_set _ _ hi, show (!((3 : Int) == 0)) = true from rfl]
  obtain ⟨k2, a2, e1, e2, e3⟩ := mark_only0 (wt tEntry_) 4611686018427387904 (fun s => laws_markEntryS_l0.B s.1 s.2.1 s.2.2) (fun k a => by simp only [laws_markEntryS_l0.B, ge_dec (Nat.le_refl _), cond_ff]) hs k a hl hk (by omega) (by omega)
  refine ⟨k2, a2, e1, by simp only [wt_sl, wt_pair, wt_int, wt_bool, wt_str, wt_unit]; omega, ?_⟩
  have : laws_markEntryS_l0 (k, 0, a) = some (k2, a2) := e3
  simp only [laws_markEntryS, this, Option.bind_some]
theorem laws_markInt64S_ok (a : (List Int)) (k : Int) (hk : 0 ≤ k) (hw : k + wt (.sl (.int .i64)) a ≤ 4611686018427387904) (hz : wt (.sl (.int .i64)) a ≤ 2147483648) : MH laws_markInt64S laws_heldInt64S (wt (.sl (.int .i64)) a) a k := by
  simp only [wt_sl, wt_pair, wt_int, wt_bool, wt_str, wt_unit] at hw hz
  have hl : a.length ≤ 2147483648 := by have := len_sum (wt (.int .i64)) (fun x => by simp only [wt_sl, wt_pair, wt_int, wt_bool, wt_str, wt_unit]; omega) a; omega
  have hs : ∀ (k : Int) (i : Nat) (a : (List Int)) (h : i < a.length), a.length ≤ 2147483648 → 0 ≤ k → k + wt (.int .i64) a[i] ≤ 4611686018427387904 → wt (.int .i64) a[i] ≤ 2147483648 → ∃ k2 x2, k ≤ k2 ∧ k2 ≤ k + wt (.int .i64) a[i] ∧ laws_markInt64S_l0.B k (i : Int) a = some (.inl (k2, ((i + 1 : Nat) : Int), a.set i x2)) ∧ ∀ b : (List Int), b.length = a.length → b[i]? = some x2 → laws_heldInt64S_l0.B b k (i : Int) = some (.inl (k2, ((i + 1 : Nat) : Int))) := by
    clear hw hz hl hk k a
    intro k i a hi hl hk hw hz
    have hb : inB (i : Int) a.length = true := inB_ok (by omega) (by omega)
    simp only [wt_sl, wt_pair, wt_int, wt_bool, wt_str, wt_unit] at hw hz
    have w1 : w64 (k + 1) = k + 1 := w64s (by omega) (by omega)
    refine ⟨k + 1, k, by omega, by simp only [wt_sl, wt_pair, wt_int, wt_bool, wt_str, wt_unit]; omega, ?_, fun b hlb hx => ?_⟩
    · simp only [laws_markInt64S_l0.B, lt_dec hi, hb, cond_tt, toNat_cast, getD_lt _ hi, Option.bind_some, w1, w64_succ (by omega : i < 4294967296), List.set_set, List.length_set, getD_set _ _ hi, show (!((3 : Int) == 0)) = true from rfl]
    · have hc : inB (i : Int) b.length = true := inB_ok (by omega) (by omega)
      have hd : decide ((i : Int) < (b.length : Int)) = true := lt_dec (by omega)
      simp only [laws_heldInt64S_l0.B, hd, hc, cond_tt, cond_ff, toNat_cast, getD_of _ hx, Option.bind_some, bne_self, beq_selfS, beq_selfB, Bool.not_true, w1, w64_succ (by omega : i < 4294967296), List.set_set, List.length_set, getD_set _ _ hi, show (!((3 : Int) == 0)) = true from rfl]
  obtain ⟨k2, a2, e1, e2, e3, e4⟩ := mark_list0 (wt (.int .i64)) 4611686018427387904 (fun s => laws_markInt64S_l0.B s.1 s.2.1 s.2.2) (fun b s => laws_heldInt64S_l0.B b s.1 s.2) (fun k a => by simp only [laws_markInt64S_l0.B, ge_dec (Nat.le_refl _), cond_ff]) (fun k a => by simp only [laws_heldInt64S_l0.B, ge_dec (Nat.le_refl _), cond_ff]) hs k a hl hk (by omega) (by omega)
  refine ⟨k2, a2, e1, by simp only [wt_sl, wt_pair, wt_int, wt_bool, wt_str, wt_unit]; omega, ?_, ?_⟩
  · have : laws_markInt64S_l0 (k, 0, a) = some (k2, a2) := e3
    simp only [laws_markInt64S, this, Option.bind_some]
  · have : laws_heldInt64S_l0 a2 (k, 0) = some (.inr k2) := e4
    simp only [laws_heldInt64S, this, Option.bind_some, sel]
theorem laws_markInodeS_ok (a : (List Inode_)) (k : Int) (hk : 0 ≤ k) (hw : k + wt (.sl tInode_) a ≤ 4611686018427387904) (hz : wt (.sl tInode_) a ≤ 2147483648) : MK laws_markInodeS (wt (.sl tInode_) a) a k := by
  simp only [wt_sl, wt_pair, wt_int, wt_bool, wt_str, wt_unit] at hw hz
  have hl : a.length ≤ 2147483648 := by have := len_sum (wt tInode_) (fun x => by simp only [wt_sl, wt_pair, wt_int, wt_bool, wt_str, wt_unit]; omega) a; omega
  have hs : ∀ (k : Int) (i : Nat) (a : (List Inode_)) (h : i < a.length), a.length ≤ 2147483648 → 0 ≤ k → k + wt tInode_ a[i] ≤ 4611686018427387904 → wt tInode_ a[i] ≤ 2147483648 → ∃ k2 x2, k ≤ k2 ∧ k2 ≤ k + wt tInode_ a[i] ∧ laws_markInodeS_l0.B k (i : Int) a = some (.inl (k2, ((i + 1 : Nat) : Int), a.set i x2)) := by
    clear hw hz hl hk k a
    intro k i a hi hl hk hw hz
    have hb : inB (i : Int) a.length = true := inB_ok (by omega) (by omega)
    simp only [wt_sl, wt_pair, wt_int, wt_bool, wt_str, wt_unit] at hw hz
    have w1 : w64 (k + 1) = k + 1 := w64s (by omega) (by omega)
    have w2 : w64 (k + 1 + 1) = k + 1 + 1 := w64s (by omega) (by omega)
    have w3 : w64 (k + 1 + 1 + 1) = k + 1 + 1 + 1 := w64s (by omega) (by omega)
    obtain ⟨k4, y4, l4, u4, w4⟩ := MH.mk (laws_markInt64S_ok a[i].2.2.2.1 (k + 1 + 1 + 1) (by omega) (by simp only [wt_sl, wt_pair, wt_int, wt_bool, wt_str, wt_unit]; omega) (by simp only [wt_sl, wt_pair, wt_int, wt_bool, wt_str, wt_unit]; omega))
    simp only [wt_sl, wt_pair, wt_int, wt_bool, wt_str, wt_unit] at u4
    obtain ⟨k5, y5, l5, u5, w5⟩ := id (laws_markEntryS_ok a[i].2.2.2.2.1 (k4) (by omega) (by simp only [wt_sl, wt_pair, wt_int, wt_bool, wt_str, wt_unit]; omega) (by simp only [wt_sl, wt_pair, wt_int, wt_bool, wt_str, wt_unit]; omega))
    simp only [wt_sl, wt_pair, wt_int, wt_bool, wt_str, wt_unit] at u5
    refine ⟨k5, (k, k + 1, k + 1 + 1, y4, y5, ()), by omega, by simp only [wt_sl, wt_pair, wt_int, wt_bool, wt_str, wt_unit]; omega, ?_⟩
    simp only [laws_markInodeS_l0.B, lt_dec hi, hb, cond_tt, toNat_cast, getD_lt _ hi, Option.bind_some, w1, w2, w3, w4, w5, w64_succ (by omega : i < 4294967296), List.set_set, List.length_set, getD_set _ _ hi, show (!((3 : Int) == 0)) = true from rfl]
  obtain ⟨k2, a2, e1, e2, e3⟩ := mark_only0 (wt tInode_) 4611686018427387904 (fun s => laws_markInodeS_l0.B s.1 s.2.1 s.2.2) (fun k a => by simp only [laws_markInodeS_l0.B, ge_dec (Nat.le_refl _), cond_ff]) hs k a hl hk (by omega) (by omega)
  refine ⟨k2, a2, e1, by simp only [wt_sl, wt_pair, wt_int, wt_bool, wt_str, wt_unit]; omega, ?_⟩
  have : laws_markInodeS_l0 (k, 0, a) = some (k2, a2) := e3
  simp only [laws_markInodeS, this, Option.bind_some]
theorem laws_markByteS_ok (a : (List Int)) (k : Int) (hk : 0 ≤ k) (hw : k + wt (.sl (.int .u8)) a ≤ 4611686018427387904) (hz : wt (.sl (.int .u8)) a ≤ 2147483648) : MK laws_markByteS (wt (.sl (.int .u8)) a) a k := by
  simp only [wt_sl, wt_pair, wt_int, wt_bool, wt_str, wt_unit] at hw hz
  have hl : a.length ≤ 2147483648 := by have := len_sum (wt (.int .u8)) (fun x => by simp only [wt_sl, wt_pair, wt_int, wt_bool, wt_str, wt_unit]; omega) a; omega
  have hs : ∀ (k : Int) (i : Nat) (a : (List Int)) (h : i < a.length), a.length ≤ 2147483648 → 0 ≤ k → k + wt (.int .u8) a[i] ≤ 4611686018427387904 → wt (.int .u8) a[i] ≤ 2147483648 → ∃ k2 x2, k ≤ k2 ∧ k2 ≤ k + wt (.int .u8) a[i] ∧ laws_markByteS_l0.B k (i : Int) a = some (.inl (k2, ((i + 1 : Nat) : Int), a.set i x2)) := by
    clear hw hz hl hk k a
    intro k i a hi hl hk hw hz
    have hb : inB (i : Int) a.length = true := inB_ok (by omega) (by omega)
    simp only [wt_sl, wt_pair, wt_int, wt_bool, wt_str, wt_unit] at hw hz
    have w1 : w64 (k + 1) = k + 1 := w64s (by omega) (by omega)
    refine ⟨k + 1, (IntKind.u8.wrap (k)), by omega, by simp only [wt_sl, wt_pair, wt_int, wt_bool, wt_str, wt_unit]; omega, ?_⟩
    simp only [laws_markByteS_l0.B, lt_dec hi, hb, cond_tt, toNat_cast, getD_lt _ hi, Option.bind_some, w1, w64_succ (by omega : i < 4294967296), List.set_set, List.length_set, getD_set _ _ hi, show (!((3 : Int) == 0)) = true from rfl]
  obtain ⟨k2, a2, e1, e2, e3⟩ := mark_only0 (wt (.int .u8)) 4611686018427387904 (fun s => laws_markByteS_l0.B s.1 s.2.1 s.2.2) (fun k a => by simp only [laws_markByteS_l0.B, ge_dec (Nat.le_refl _), cond_ff]) hs k a hl hk (by omega) (by omega)
  refine ⟨k2, a2, e1, by simp only [wt_sl, wt_pair, wt_int, wt_bool, wt_str, wt_unit]; omega, ?_⟩
  have : laws_markByteS_l0 (k, 0, a) = some (k2, a2) := e3
  simp only [laws_markByteS, this, Option.bind_some]
theorem laws_markByteSS_ok (a : (List (List Int))) (k : Int) (hk : 0 ≤ k) (hw : k + wt (.sl (.sl (.int .u8))) a ≤ 4611686018427387904) (hz : wt (.sl (.sl (.int .u8))) a ≤ 2147483648) : MK laws_markByteSS (wt (.sl (.sl (.int .u8))) a) a k := by
  simp only [wt_sl, wt_pair, wt_int, wt_bool, wt_str, wt_unit] at hw hz
  have hl : a.length ≤ 2147483648 := by have := len_sum (wt (.sl (.int .u8))) (fun x => by simp only [wt_sl, wt_pair, wt_int, wt_bool, wt_str, wt_unit]; omega) a; omega
  have hs : ∀ (k : Int) (i : Nat) (a : (List (List Int))) (h : i < a.length), a.length ≤ 2147483648 → 0 ≤ k → k + wt (.sl (.int .u8)) a[i] ≤ 4611686018427387904 → wt (.sl (.int .u8)) a[i] ≤ 2147483648 → ∃ k2 x2, k ≤ k2 ∧ k2 ≤ k + wt (.sl (.int .u8)) a[i] ∧ laws_markByteSS_l0.B k (i : Int) a = some (.inl (k2, ((i + 1 : Nat) : Int), a.set i x2)) := by
    clear hw hz hl hk k a
    intro k i a hi hl hk hw hz
    have hb : inB (i : Int) a.length = true := inB_ok (by omega) (by omega)
    simp only [wt_sl, wt_pair, wt_int, wt_bool, wt_str, wt_unit] at hw hz
    obtain ⟨k1, y1, l1, u1, w1⟩ := id (laws_markByteS_ok a[i] (k) (by omega) (by simp only [wt_sl, wt_pair, wt_int, wt_bool, wt_str, wt_unit]; omega) (by simp only [wt_sl, wt_pair, wt_int, wt_bool, wt_str, wt_unit]; omega))
    simp only [wt_sl, wt_pair, wt_int, wt_bool, wt_str, wt_unit] at u1
    refine ⟨k1, y1, by omega, by simp only [wt_sl, wt_pair, wt_int, wt_bool, wt_str, wt_unit]; omega, ?_⟩
    simp only [laws_markByteSS_l0.B, lt_dec hi, hb, cond_tt, toNat_cast, getD_lt _ hi, Option.bind_some, w1, w64_succ (by omega : i < 4294967296), List.set_set, List.length_set, getD_set _ _ hi, show (!((3 : Int) == 0)) = true from rfl]
  obtain ⟨k2, a2, e1, e2, e3⟩ := mark_only0 (wt (.sl (.int .u8))) 4611686018427387904 (fun s => laws_markByteSS_l0.B s.1 s.2.1 s.2.2) (fun k a => by simp only [laws_markByteSS_l0.B, ge_dec (Nat.le_refl _), cond_ff]) hs k a hl hk (by omega) (by omega)
  refine ⟨k2, a2, e1, by simp only [wt_sl, wt_pair, wt_int, wt_bool, wt_str, wt_unit]; omega, ?_⟩
  have : laws_markByteSS_l0 (k, 0, a) = some (k2, a2) := e3
  simp only [laws_markByteSS, this, Option.bind_some]
theorem laws_markFs_ok (x_0 : List Inode_) (x_1 : List (List Int)) (k : Int) (hk : 0 ≤ k) (hw : k + wt tFs_ (x_0, x_1, ()) ≤ 4611686018427387904) (hz : wt tFs_ (x_0, x_1, ()) ≤ 2147483648) : ∃ k2 y0 y1, k ≤ k2 ∧ k2 ≤ k + wt tFs_ (x_0, x_1, ()) ∧ laws_markFs (x_0, x_1, ()) k = some (k2, (y0, y1, ())) := by
  simp only [wt_sl, wt_pair, wt_int, wt_bool, wt_str, wt_unit] at hw hz
  obtain ⟨k0, y0, l0, u0, w0⟩ := id (laws_markInodeS_ok x_0 k (by omega) (by simp only [wt_sl, wt_pair, wt_int, wt_bool, wt_str, wt_unit]; omega) (by simp only [wt_sl, wt_pair, wt_int, wt_bool, wt_str, wt_unit]; omega))
  simp only [wt_sl, wt_pair, wt_int, wt_bool, wt_str, wt_unit] at u0
  obtain ⟨k1, y1, l1, u1, w1⟩ := id (laws_markByteSS_ok x_1 k0 (by omega) (by simp only [wt_sl, wt_pair, wt_int, wt_bool, wt_str, wt_unit]; omega) (by simp only [wt_sl, wt_pair, wt_int, wt_bool, wt_str, wt_unit]; omega))
  simp only [wt_sl, wt_pair, wt_int, wt_bool, wt_str, wt_unit] at u1
  refine ⟨k1, y0, y1, by omega, by simp only [wt_sl, wt_pair, wt_int, wt_bool, wt_str, wt_unit]; omega, ?_⟩
  simp only [laws_markFs, w0, w1, Option.bind_some, peta]
theorem laws_markPutS_ok (a : (List Put_)) (k : Int) (hk : 0 ≤ k) (hw : k + wt (.sl tPut_) a ≤ 4611686018427387904) (hz : wt (.sl tPut_) a ≤ 2147483648) : MH laws_markPutS laws_heldPutS (wt (.sl tPut_) a) a k := by
  simp only [wt_sl, wt_pair, wt_int, wt_bool, wt_str, wt_unit] at hw hz
  have hl : a.length ≤ 2147483648 := by have := len_sum (wt tPut_) (fun x => by simp only [wt_sl, wt_pair, wt_int, wt_bool, wt_str, wt_unit]; omega) a; omega
  have hs : ∀ (k : Int) (i : Nat) (a : (List Put_)) (h : i < a.length), a.length ≤ 2147483648 → 0 ≤ k → k + wt tPut_ a[i] ≤ 4611686018427387904 → wt tPut_ a[i] ≤ 2147483648 → ∃ k2 x2, k ≤ k2 ∧ k2 ≤ k + wt tPut_ a[i] ∧ laws_markPutS_l0.B k (i : Int) a = some (.inl (k2, ((i + 1 : Nat) : Int), a.set i x2)) ∧ ∀ b : (List Put_), b.length = a.length → b[i]? = some x2 → laws_heldPutS_l0.B b k (i : Int) = some (.inl (k2, ((i + 1 : Nat) : Int))) := by
    clear hw hz hl hk k a
    intro k i a hi hl hk hw hz
    have hb : inB (i : Int) a.length = true := inB_ok (by omega) (by omega)
    simp only [wt_sl, wt_pair, wt_int, wt_bool, wt_str, wt_unit] at hw hz
    have w1 : w64 (k + 1) = k + 1 := w64s (by omega) (by omega)
    obtain ⟨k2, y2, l2, u2, w2, v2⟩ := laws_markInt64S_ok a[i].2.1 (k + 1) (by omega) (by simp only [wt_sl, wt_pair, wt_int, wt_bool, wt_str, wt_unit]; omega) (by simp only [wt_sl, wt_pair, wt_int, wt_bool, wt_str, wt_unit]; omega)
    simp only [wt_sl, wt_pair, wt_int, wt_bool, wt_str, wt_unit] at u2
    refine ⟨k2, (k, y2, ()), by omega, by simp only [wt_sl, wt_pair, wt_int, wt_bool, wt_str, wt_unit]; omega, ?_, fun b hlb hx => ?_⟩
    · simp only [laws_markPutS_l0.B, lt_dec hi, hb, cond_tt, toNat_cast, getD_lt _ hi, Option.bind_some, w1, v2, w2, w64_succ (by omega : i < 4294967296), List.set_set, List.length_set, getD_set _ _ hi, show (!((3 : Int) == 0)) = true from rfl]
    · have hc : inB (i : Int) b.length = true := inB_ok (by omega) (by omega)
      have hd : decide ((i : Int) < (b.length : Int)) = true := lt_dec (by omega)
      simp only [laws_heldPutS_l0.B, hd, hc, cond_tt, cond_ff, toNat_cast, getD_of _ hx, Option.bind_some, bne_self, beq_selfS, beq_selfB, Bool.not_true, w1, v2, w2, neg_dec (by omega : 0 ≤ k2), w64_succ (by omega : i < 4294967296), List.set_set, List.length_set, getD_set _ _ hi, show (!((3 : Int) == 0)) = true from rfl]
  obtain ⟨k2, a2, e1, e2, e3, e4⟩ := mark_list0 (wt tPut_) 4611686018427387904 (fun s => laws_markPutS_l0.B s.1 s.2.1 s.2.2) (fun b s => laws_heldPutS_l0.B b s.1 s.2) (fun k a => by simp only [laws_markPutS_l0.B, ge_dec (Nat.le_refl _), cond_ff]) (fun k a => by simp only [laws_heldPutS_l0.B, ge_dec (Nat.le_refl _), cond_ff]) hs k a hl hk (by omega) (by omega)
  refine ⟨k2, a2, e1, by simp only [wt_sl, wt_pair, wt_int, wt_bool, wt_str, wt_unit]; omega, ?_, ?_⟩
  · have : laws_markPutS_l0 (k, 0, a) = some (k2, a2) := e3
    simp only [laws_markPutS, this, Option.bind_some]
  · have : laws_heldPutS_l0 a2 (k, 0) = some (.inr k2) := e4
    simp only [laws_heldPutS, this, Option.bind_some, sel]
theorem laws_markPutsResult_ok (x_0 : Int) (x_1 : List Put_) (k : Int) (hk : 0 ≤ k) (hw : k + wt tPutsResult_ (x_0, x_1, ()) ≤ 4611686018427387904) (hz : wt tPutsResult_ (x_0, x_1, ()) ≤ 2147483648) : ∃ k2 y0, k ≤ k2 ∧ k2 ≤ k + wt tPutsResult_ (x_0, x_1, ()) ∧ laws_markPutsResult (x_0, x_1, ()) k = some (k2, (x_0, y0, ())) ∧ laws_heldPutsResult (x_0, y0, ()) k = some k2 := by
  simp only [wt_sl, wt_pair, wt_int, wt_bool, wt_str, wt_unit] at hw hz
  obtain ⟨k0, y0, l0, u0, w0, v0⟩ := laws_markPutS_ok x_1 k (by omega) (by simp only [wt_sl, wt_pair, wt_int, wt_bool, wt_str, wt_unit]; omega) (by simp only [wt_sl, wt_pair, wt_int, wt_bool, wt_str, wt_unit]; omega)
  simp only [wt_sl, wt_pair, wt_int, wt_bool, wt_str, wt_unit] at u0
  refine ⟨k0, y0, by omega, by simp only [wt_sl, wt_pair, wt_int, wt_bool, wt_str, wt_unit]; omega, ?_, ?_⟩
  · simp only [laws_markPutsResult, w0, Option.bind_some, peta]
  · simp only [laws_heldPutsResult, v0, Option.bind_some, cond_ff, neg_dec (by omega : 0 ≤ k0)]
def inR (v lo hi : Int) : Bool := cond (decide (v ≥ lo)) (decide (v ≤ hi)) false
theorem inR_iff {v lo hi : Int} : inR v lo hi = true ↔ lo ≤ v ∧ v ≤ hi := by
  unfold inR; by_cases h : v ≥ lo <;> simp [h] <;> omega
theorem spec_l1In_eq (v lo hi : Int) : spec_l1In v lo hi = some (inR v lo hi) := rfl
theorem impl_within_eq (v lo hi : Int) : impl_within v lo hi = some (inR v lo hi) := rfl
theorem idx_contains {α : Type} (p : α → Bool) (l : List α) : ((some (match idxF p 0 l with | some j => .inl (j : Int) | none => .inr () : Int ⊕ Unit)).bind fun o => sel o (fun b => some b) (fun c => some (-1))).bind (fun r => some (decide (r ≥ 0))) = some (l.any p) := by
  cases h : idxF p 0 l with
  | none => rw [idxF_none.1 h]; rfl
  | some j =>
    have : l.any p = true := by
      cases ha : l.any p with
      | true => rfl
      | false => rw [idxF_none.2 ha] at h; cases h
    rw [this]
    simp [sel]
theorem sel_first (n : Int) (g : Option Int) : ((some (cond (n != 0) (.inl n) (.inr ()) : Int ⊕ Unit)).bind fun o => sel o (fun b => some b) (fun _ => g)) = cond (n != 0) (some n) g := by
  cases (n != 0) <;> rfl
theorem first_zero (n : Int) : cond (n != 0) (some n) (some 0) = some n := by
  cases h : (n != 0)
  · have : n = 0 := by simpa using h
    rw [this]; rfl
  · rfl
theorem cloneP_ok {α : Type} {xs : List α} (h : xs.length ≤ 2147483648) : cloneP xs = some xs := by
  unfold cloneP; rw [show decide (xs.length ≤ 2147483648) = true by simp; omega]; rfl
theorem dlen {n : Nat} (h : n ≤ 2147483648) : decide (n ≤ 2147483648) = true := by simp; omega
def badL (b : UInt8) : Bool := cond (decide ((b.toNat : Int) < 97)) true (decide ((b.toNat : Int) > 122))
def nameF (s : List UInt8) : Int := cond (s.any badL) 5 (cond (s == []) 5 (cond (decide ((s.length : Int) > 4)) 2 0))
theorem spec_NameFault_eq (s : List UInt8) (hl : s.length ≤ 2147483648) : spec_NameFault s = some (nameF s) := by
  have h : spec_NameFault_l0 s 0 = _ := loop_any s badL (5 : Int) (fun i hi => by
    simp only [spec_NameFault_l0.B, lt_dec hi, inB_lt hi, cond_tt, toNat_cast, getD_lt _ hi, Option.bind_some, w64_succ (by omega : i < 4294967296), badL, cond_same]) (by
    simp only [spec_NameFault_l0.B, ge_dec (Nat.le_refl _), cond_ff])
  simp only [spec_NameFault, h, Option.bind_some, nameF]
  cases s.any badL
  · simp only [cond_ff, sel_inr, some_cond]
  · rfl
theorem impl_nameFault_eq (s : List UInt8) (hl : s.length ≤ 2147483648) : impl_nameFault s = some (nameF s) := by
  have h : impl_nameFault_l0 s (s.length : Int) 0 = _ := loop_any s badL (5 : Int) (fun i hi => by
    simp only [impl_nameFault_l0.B, lt_dec hi, inB_lt hi, cond_tt, toNat_cast, getD_lt _ hi, Option.bind_some, w64_succ (by omega : i < 4294967296), badL, cond_same]) (by
    simp only [impl_nameFault_l0.B, ge_dec (Nat.le_refl _), cond_ff])
  simp only [impl_nameFault, h, Option.bind_some, nameF]
  cases s with
  | nil => rfl
  | cons b s =>
    rw [show ((b :: s : List UInt8) == []) = false from rfl]
    simp only [cond_ff]
    cases (b :: s).any badL
    · simp only [cond_ff, sel_inr, some_cond]
    · rfl
/-- a block that stands ahead as well -/
def dupF : List Int → List Int → Bool
  | _, [] => false
  | a, x :: l => a.contains x || dupF (a ++ [x]) l
theorem idx_contains' {α : Type} (p : α → Bool) (l : List α) {o : Option (Int ⊕ Unit)} (h : o = some (match idxF p 0 l with | some j => .inl (j : Int) | none => .inr ())) : (o.bind fun o => sel o (fun b => some b) (fun c => some (-1))).bind (fun r => some (decide (r ≥ 0))) = some (l.any p) := by
  rw [h]; exact idx_contains p l
theorem slices_Contains_int64_eq (l : List Int) (v : Int) (hl : l.length ≤ 2147483648) : slices_Contains_int64 l v = some (l.contains v) := by
  have h : slices_Index_int64_l0 l v (l.length : Int) 0 = _ := loop_idx l (fun x => v == x) (fun i hi => by
    simp only [slices_Index_int64_l0.B, lt_dec hi, inB_lt hi, cond_tt, toNat_cast, getD_lt _ hi, Option.bind_some, w64_succ (by omega : i < 4294967296)]) (by
    simp only [slices_Index_int64_l0.B, ge_dec (Nat.le_refl _), cond_ff]) 0 (Nat.zero_le _)
  simp only [slices_Contains_int64, slices_Index_int64]
  rw [idx_contains' _ _ h, List.any_beq, List.drop_zero]
theorem spec_l5Among_eq (l : List Int) (v : Int) (hl : l.length ≤ 2147483648) : spec_l5Among l v = some (l.contains v) := by
  have h : spec_l5Among_l0 l v 0 = _ := loop_any l (fun x => x == v) true (fun i hi => by
    simp only [spec_l5Among_l0.B, lt_dec hi, inB_lt hi, cond_tt, toNat_cast, getD_lt _ hi, Option.bind_some, w64_succ (by omega : i < 4294967296)]) (by
    simp only [spec_l5Among_l0.B, ge_dec (Nat.le_refl _), cond_ff])
  simp only [spec_l5Among, h, Option.bind_some]
  rw [← List.any_beq, show (fun x : Int => x == v) = fun x => v == x from funext fun x => Bool.beq_comm]
  cases l.any fun x => v == x <;> rfl
def forF (n : Int) : Int := w64 ((w64 ((w64 (n + 8)) - 1)).tdiv 8)
def fileF (x : Inode_) : Int := cond (!inR x.2.1 1 60) 3 (cond (!inR x.2.2.1 0 32) 3 (cond ((x.2.2.2.1.length : Int) != forF x.2.2.1) 1 (cond (x.2.2.2.1.any fun b => !inR b 0 19) 3 (cond (dupF [] x.2.2.2.1) 7 0))))
theorem spec_l4File_l2_eq (x : Inode_) (hl : x.2.2.2.1.length ≤ 2147483648) (n : Nat) (hn : n < x.2.2.2.1.length) : spec_l4File_l2 x (n : Int) 0 = some (cond ((x.2.2.2.1.take n).contains x.2.2.2.1[n]) (.inl 7) (.inr ())) := by
  have h : spec_l4File_l2 x (n : Int) 0 = _ := loop_any (x.2.2.2.1.take n) (fun y => y == x.2.2.2.1[n]) (7 : Int) (fun i hi => by
    have hi' : i < n := by simp at hi; omega
    simp only [spec_l4File_l2.B, lt_dec hi', inB_lt (by omega : i < x.2.2.2.1.length), inB_lt hn, cond_tt, toNat_cast, getD_lt _ (by omega : i < x.2.2.2.1.length), getD_lt _ hn, Option.bind_some, w64_succ (by omega : i < 4294967296), List.getElem_take]) (by
    have : (x.2.2.2.1.take n).length = n := by simp; omega
    rw [this]
    simp only [spec_l4File_l2.B, ge_dec (Nat.le_refl _), cond_ff])
  rw [h, ← List.any_beq, show (fun y : Int => y == x.2.2.2.1[n]) = fun y => x.2.2.2.1[n] == y from funext fun y => Bool.beq_comm]
theorem dup_foldE (l : List Int) : ∀ (k n : Nat), n + k = l.length → foldE (τ := Unit) (fun i y _ => cond ((l.take i).contains y) (.inr (.inl 7)) (.inl ())) (fun _ => (.inr () : Int ⊕ Unit)) n (l.drop n) () = cond (dupF (l.take n) (l.drop n)) (.inl 7) (.inr ())
  | 0, n, h => by
    have : n = l.length := by omega
    subst this
    simp [foldE, dupF]
  | k + 1, n, h => by
    have hn : n < l.length := by omega
    rw [List.drop_eq_getElem_cons hn]
    simp only [foldE, dupF]
    have e : l.take n ++ [l[n]] = l.take (n + 1) := by simp
    rw [e]
    cases (l.take n).contains l[n]
    · simp only [cond_ff, sel_inl, Bool.false_or]; exact dup_foldE l k (n + 1) (by omega)
    · rfl
theorem spec_l4File_eq (x : Inode_) (hl : x.2.2.2.1.length ≤ 2147483648) : spec_l4File x = some (fileF x) := by
  have h0 : spec_l4File_l0 x 0 = _ := loop_any x.2.2.2.1 (fun b => !inR b 0 19) (3 : Int) (fun i hi => by
    simp only [spec_l4File_l0.B, lt_dec hi, inB_lt hi, cond_tt, toNat_cast, getD_lt _ hi, spec_l1In_eq, Option.bind_some, w64_succ (by omega : i < 4294967296)]) (by
    simp only [spec_l4File_l0.B, ge_dec (Nat.le_refl _), cond_ff])
  have h1 : spec_l4File_l1 x 0 = some (cond (dupF [] x.2.2.2.1) (.inl 7) (.inr ())) := by
    have := loop_list0 (τ := Unit) x.2.2.2.1 (f := fun s => spec_l4File_l1.B x s) (fun i _ => (i : Int)) (fun i y _ => cond ((x.2.2.2.1.take i).contains y) (.inr (.inl 7)) (.inl ())) (fun _ => (.inr () : Int ⊕ Unit)) (fun i hi t => by
      simp only [spec_l4File_l1.B, lt_dec hi, cond_tt, spec_l4File_l2_eq x hl i hi, Option.bind_some, w64_succ (by omega : i < 4294967296)]
      cases (x.2.2.2.1.take i).contains x.2.2.2.1[i] <;> rfl) (fun t => by
      simp only [spec_l4File_l1.B, ge_dec (Nat.le_refl _), cond_ff]) () (s := 0) rfl
    refine Eq.trans this ?_
    congr 1
    exact dup_foldE x.2.2.2.1 x.2.2.2.1.length 0 (by omega)
  have h8 : (!((8 : Int) == 0)) = true := rfl
  simp only [spec_l4File, spec_l4Size, spec_l4For, spec_l1In_eq, Option.bind_some, h8, cond_tt, h0, h1, fileF, forF, some_cond]
  cases inR x.2.1 1 60
  · rfl
  · cases inR x.2.2.1 0 32
    · rfl
    · simp only [Bool.not_true, cond_ff]
      cases ((x.2.2.2.1.length : Int) != w64 ((w64 ((w64 (x.2.2.1 + 8)) - 1)).tdiv 8))
      · simp only [cond_ff]
        cases x.2.2.2.1.any fun b => !inR b 0 19
        · simp only [cond_ff, sel_inr]
          cases dupF [] x.2.2.2.1 <;> rfl
        · rfl
      · rfl
theorem impl_fileFault_eq (x : Inode_) (hl : x.2.2.2.1.length ≤ 2147483648) : impl_fileFault x = some (fileF x) := by
  have h0 : slices_ContainsFunc_int64_fileFault_c1 x.2.2.2.1 () = some (x.2.2.2.1.any fun b => !inR b 0 19) := by
    have h : slices_IndexFunc_int64_fileFault_c1_l0 x.2.2.2.1 () (x.2.2.2.1.length : Int) 0 = _ := loop_idx x.2.2.2.1 (fun b => !inR b 0 19) (fun i hi => by
      simp only [slices_IndexFunc_int64_fileFault_c1_l0.B, lt_dec hi, inB_lt hi, cond_tt, toNat_cast, getD_lt _ hi, impl_fileFault_c1, impl_within_eq, Option.bind_some, w64_succ (by omega : i < 4294967296)]) (by
      simp only [slices_IndexFunc_int64_fileFault_c1_l0.B, ge_dec (Nat.le_refl _), cond_ff]) 0 (Nat.zero_le _)
    simp only [slices_ContainsFunc_int64_fileFault_c1, slices_IndexFunc_int64_fileFault_c1]
    exact idx_contains' _ _ h
  have h1 : impl_fileFault_l0 x x.2.2.2.1 (x.2.2.2.1.length : Int) 0 = some (cond (dupF [] x.2.2.2.1) (.inl 7) (.inr ())) := by
    have := loop_list0 (τ := Unit) x.2.2.2.1 (f := fun s => impl_fileFault_l0.B x x.2.2.2.1 (x.2.2.2.1.length : Int) s) (fun i _ => (i : Int)) (fun i y _ => cond ((x.2.2.2.1.take i).contains y) (.inr (.inl 7)) (.inl ())) (fun _ => (.inr () : Int ⊕ Unit)) (fun i hi t => by
      have e1 : (decide ((0 : Int) ≤ (i : Int)) && decide ((i : Int) ≤ (x.2.2.2.1.length : Int))) = true := by simp; omega
      have e2 := slices_Contains_int64_eq (x.2.2.2.1.take i) x.2.2.2.1[i] (by simp; omega)
      simp only [impl_fileFault_l0.B, lt_dec hi, inB_lt hi, cond_tt, toNat_cast, getD_lt _ hi, e1, List.drop_zero, e2, Option.bind_some, w64_succ (by omega : i < 4294967296)]
      cases (x.2.2.2.1.take i).contains x.2.2.2.1[i] <;> rfl) (fun t => by
      simp only [impl_fileFault_l0.B, ge_dec (Nat.le_refl _), cond_ff]) () (s := 0) rfl
    refine Eq.trans this ?_
    congr 1
    exact dup_foldE x.2.2.2.1 x.2.2.2.1.length 0 (by omega)
  have h8 : (!((8 : Int) == 0)) = true := rfl
  simp only [impl_fileFault, impl_blocksFor, impl_size_int64, impl_within_eq, Option.bind_some, h8, cond_tt, h0, h1, fileF, forF, some_cond]
  cases inR x.2.1 1 60
  · rfl
  · cases inR x.2.2.1 0 32
    · rfl
    · simp only [Bool.not_true, cond_ff]
      cases ((x.2.2.2.1.length : Int) != w64 ((w64 ((w64 (x.2.2.1 + 8)) - 1)).tdiv 8))
      · simp only [cond_ff]
        cases x.2.2.2.1.any fun b => !inR b 0 19
        · simp only [cond_ff]
          cases dupF [] x.2.2.2.1 <;> rfl
        · rfl
      · rfl
def entF (prev : Option (List UInt8)) (e : Entry_) : Int :=
  cond (nameF e.1 != 0) (nameF e.1) (cond (!inR e.2.1 0 9) 3 (match prev with | none => 0 | some p => cond (leB p e.1) 0 1))
def entsF : Option (List UInt8) → List Entry_ → Int
  | _, [] => 0
  | p, e :: l => cond (entF p e != 0) (entF p e) (entsF (some e.1) l)
def dirF (x : Inode_) : Int := cond (decide ((x.2.2.2.2.1.length : Int) > 6)) 2 (entsF none x.2.2.2.2.1)
theorem leB_neg : ∀ (a b : List UInt8), (leB a b || a == b) = !leB b a
  | [], [] => rfl
  | [], _ :: _ => rfl
  | _ :: _, [] => by simp [leB]
  | x :: a, y :: b => by
    have ih := leB_neg a b
    simp only [leB]
    by_cases e : x = y
    · subst e
      have h : ¬ x < x := UInt8.lt_irrefl x
      simp only [h, decide_false, Bool.false_or, beq_self_eq_true, Bool.true_and]
      rw [← ih, show (x :: a == x :: b) = (a == b) by simp]
    · have e' : ¬ y = x := fun h => e h.symm
      rw [show (x == y) = false by simp [e], show (y == x) = false by simp [e'], show (x :: a == y :: b) = false by simp [e]]
      simp only [Bool.false_and, Bool.or_false]
      by_cases h1 : x < y
      · have : ¬ y < x := fun h => absurd (UInt8.lt_trans h1 h) (UInt8.lt_irrefl x)
        simp [h1, this]
      · have : y < x := by
          rw [UInt8.lt_iff_toNat_lt] at *
          have : x.toNat ≠ y.toNat := fun h => e (UInt8.toNat_inj.1 h)
          omega
        simp [h1, this]
def prevF (l : List Entry_) : Nat → Option (List UInt8)
  | 0 => none
  | j + 1 => (l[j]?).map (·.1)
theorem ents_loop (l : List Entry_) : ∀ (k n : Nat), n + k = l.length → foldE (τ := Unit) (fun i e _ => cond (entF (prevF l i) e != 0) (.inr (.inl (entF (prevF l i) e))) (.inl ())) (fun _ => (.inr () : Int ⊕ Unit)) n (l.drop n) () =
    cond (entsF (prevF l n) (l.drop n) != 0) (.inl (entsF (prevF l n) (l.drop n))) (.inr ())
  | 0, n, h => by
    have : n = l.length := by omega
    subst this
    simp [foldE, entsF]
  | k + 1, n, h => by
    have hn : n < l.length := by omega
    have hp : prevF l (n + 1) = some l[n].1 := by simp [prevF, hn]
    have ih := ents_loop l k (n + 1) (by omega)
    rw [hp] at ih
    rw [List.drop_eq_getElem_cons hn]
    simp only [foldE, entsF]
    generalize prevF l n = p
    cases hc : (entF p l[n] != 0)
    · simp only [cond_ff, sel_inl]; exact ih
    · simp only [cond_tt, sel_inr, hc]
theorem spec_l4Dir_eq (x : Inode_) (hb : Bd tInode_ x) : spec_l4Dir x = some (dirF x) := by
  simp only [spec_l4Dir, dirF]
  cases hd : decide ((x.2.2.2.2.1.length : Int) > 6) with
  | true => rfl
  | false =>
    have hl : x.2.2.2.2.1.length ≤ 6 := by simp at hd; omega
    have h : spec_l4Dir_l0 x 0 = some (cond (entsF none x.2.2.2.2.1 != 0) (.inl (entsF none x.2.2.2.2.1)) (.inr ())) := by
      have := loop_list0 (τ := Unit) x.2.2.2.2.1 (f := fun s => spec_l4Dir_l0.B x s) (fun i _ => (i : Int)) (fun i e _ => cond (entF (prevF x.2.2.2.2.1 i) e != 0) (.inr (.inl (entF (prevF x.2.2.2.2.1 i) e))) (.inl ())) (fun _ => (.inr () : Int ⊕ Unit)) (fun i hi t => by
        have hn : (x.2.2.2.2.1[i]).1.length ≤ 2147483648 := (hb.2.2.2.2.1.2 _ (List.getElem_mem hi)).1
        simp only [spec_l4Dir_l0.B, lt_dec hi, inB_lt hi, cond_tt, toNat_cast, getD_lt _ hi, spec_l1In_eq, spec_NameFault_eq _ hn, Option.bind_some, w64_succ (by omega : i < 4294967296)]
        simp only [entF]
        cases hc : (nameF (x.2.2.2.2.1[i]).1 != 0)
        · simp only [cond_ff]
          cases inR (x.2.2.2.2.1[i]).2.1 0 9
          · rfl
          · simp only [Bool.not_true, cond_ff]
            cases i with
            | zero => rfl
            | succ j =>
              have hj : j < x.2.2.2.2.1.length := by omega
              have hw : w64 (((j + 1 : Nat) : Int) - 1) = (j : Int) := by rw [w64_id (by omega) (by omega)]; omega
              rw [show decide (((j + 1 : Nat) : Int) > 0) = true by simp]
              simp only [cond_tt, hw, inB_lt hj, toNat_cast, getD_lt _ hj, prevF, List.getElem?_eq_getElem hj, Option.map_some, leB_neg]
              cases leB (x.2.2.2.2.1[j]).1 (x.2.2.2.2.1[j + 1]).1 <;> rfl
        · simp only [cond_tt, hc]; rfl) (fun t => by
        simp only [spec_l4Dir_l0.B, ge_dec (Nat.le_refl _), cond_ff]) () (s := 0) rfl
      refine Eq.trans this ?_
      congr 1
      exact ents_loop x.2.2.2.2.1 x.2.2.2.2.1.length 0 (by omega)
    rw [h, cond_ff, cond_ff, sel_first, first_zero]
theorem impl_dirFault_eq (x : Inode_) (hb : Bd tInode_ x) : impl_dirFault x = some (dirF x) := by
  simp only [impl_dirFault, dirF]
  cases hd : decide ((x.2.2.2.2.1.length : Int) > 6) with
  | true => rfl
  | false =>
    have hl : x.2.2.2.2.1.length ≤ 6 := by simp at hd; omega
    have h : impl_dirFault_l0 x x.2.2.2.2.1 (x.2.2.2.2.1.length : Int) 0 = some (cond (entsF none x.2.2.2.2.1 != 0) (.inl (entsF none x.2.2.2.2.1)) (.inr ())) := by
      have := loop_list0 (τ := Unit) x.2.2.2.2.1 (f := fun s => impl_dirFault_l0.B x x.2.2.2.2.1 (x.2.2.2.2.1.length : Int) s) (fun i _ => (i : Int)) (fun i e _ => cond (entF (prevF x.2.2.2.2.1 i) e != 0) (.inr (.inl (entF (prevF x.2.2.2.2.1 i) e))) (.inl ())) (fun _ => (.inr () : Int ⊕ Unit)) (fun i hi t => by
        have hn : (x.2.2.2.2.1[i]).1.length ≤ 2147483648 := (hb.2.2.2.2.1.2 _ (List.getElem_mem hi)).1
        simp only [impl_dirFault_l0.B, lt_dec hi, inB_lt hi, cond_tt, toNat_cast, getD_lt _ hi, impl_within_eq, impl_nameFault_eq _ hn, Option.bind_some, w64_succ (by omega : i < 4294967296)]
        simp only [entF]
        cases hc : (nameF (x.2.2.2.2.1[i]).1 != 0)
        · simp only [cond_ff]
          cases inR (x.2.2.2.2.1[i]).2.1 0 9
          · rfl
          · simp only [Bool.not_true, cond_ff]
            cases i with
            | zero => rfl
            | succ j =>
              have hj : j < x.2.2.2.2.1.length := by omega
              have hw : w64 (((j + 1 : Nat) : Int) - 1) = (j : Int) := by rw [w64_id (by omega) (by omega)]; omega
              rw [show decide (((j + 1 : Nat) : Int) > 0) = true by simp]
              simp only [cond_tt, hw, inB_lt hj, toNat_cast, getD_lt _ hj, prevF, List.getElem?_eq_getElem hj, Option.map_some]
              cases leB (x.2.2.2.2.1[j]).1 (x.2.2.2.2.1[j + 1]).1 <;> rfl
        · simp only [cond_tt, hc]; rfl) (fun t => by
        simp only [impl_dirFault_l0.B, ge_dec (Nat.le_refl _), cond_ff]) () (s := 0) rfl
      refine Eq.trans this ?_
      congr 1
      exact ents_loop x.2.2.2.2.1 x.2.2.2.2.1.length 0 (by omega)
    rw [h, cond_ff, cond_ff, sel_first, first_zero]
def inodeF (x : Inode_) : Int :=
  cond (!inR x.1 0 2) 1 (cond (cond (cond (x.1 != 1) (cond (cond (x.2.1 != 0) true (x.2.2.1 != 0)) true (decide ((x.2.2.2.1.length : Int) > 0))) false) true (cond (x.1 != 2) (decide ((x.2.2.2.2.1.length : Int) > 0)) false)) 1
    (cond (x.1 == 1) (fileF x) (cond (x.1 == 2) (dirF x) 0)))
theorem spec_l4Fault_eq (x : Inode_) (hb : Bd tInode_ x) : spec_l4Fault x = some (inodeF x) := by
  simp only [spec_l4Fault, inodeF, spec_l1In_eq, spec_l4File_eq x hb.2.2.2.1.1, spec_l4Dir_eq x hb, Option.bind_some]
  simp only [some_cond]
theorem len_pos (n : Nat) : decide ((n : Int) > 0) = !((n : Int) == 0) := by
  rw [Bool.eq_iff_iff]
  simp only [decide_eq_true_eq, Bool.not_eq_true', beq_eq_false_iff_ne, ne_eq]
  omega
theorem not_bne (a b : Int) : (a == b) = !(a != b) := (Bool.not_not _).symm
theorem impl_inodeFault_eq (x : Inode_) (hb : Bd tInode_ x) : impl_inodeFault x = some (inodeF x) := by
  simp only [impl_inodeFault, inodeF, impl_within_eq, impl_fileFault_eq x hb.2.2.2.1.1, impl_dirFault_eq x hb, Option.bind_some]
  cases inR x.1 0 2
  · rfl
  · simp only [Bool.not_true, cond_ff]
    have e1 : (cond (cond (x.2.1 == 0) (x.2.2.1 == 0) false) ((x.2.2.2.1.length : Int) == 0) false) = !(cond (cond (x.2.1 != 0) true (x.2.2.1 != 0)) true (decide ((x.2.2.2.1.length : Int) > 0))) := by
      rw [show (x.2.1 != 0) = !(x.2.1 == 0) from rfl, show (x.2.2.1 != 0) = !(x.2.2.1 == 0) from rfl, len_pos]
      cases (x.2.1 == 0) <;> cases (x.2.2.1 == 0) <;> cases ((x.2.2.2.1.length : Int) == 0) <;> rfl
    have e2 : (!((x.2.2.2.2.1.length : Int) == 0)) = decide ((x.2.2.2.2.1.length : Int) > 0) := (len_pos _).symm
    rw [e1, e2, Bool.not_not]
    cases (cond (cond (x.2.1 != 0) true (x.2.2.1 != 0)) true (decide ((x.2.2.2.1.length : Int) > 0))) <;> cases h1 : (x.1 != 1) <;> cases h2 : (x.1 != 2) <;> cases hd : decide ((x.2.2.2.2.1.length : Int) > 0) <;> simp only [cond_tt, cond_ff]
    all_goals (rw [not_bne x.1 1, not_bne x.1 2, h1, h2])
    all_goals simp only [Bool.not_true, Bool.not_false, cond_tt, cond_ff]
    all_goals first | rfl | skip
    all_goals (
      have hz : x.2.2.2.2.1 = [] := by simp at hd; exact hd
      have : dirF x = 0 := by simp [dirF, hz, entsF]
      rw [this])
def inodesF (l : List Inode_) : Int := cond (decide ((l.length : Int) > 10)) 2 (firstC inodeF l)
theorem spec_l5Fault_eq (l : List Inode_) (hb : Bd (.sl tInode_) l) : spec_l5Fault l = some (inodesF l) := by
  simp only [spec_l5Fault, inodesF]
  cases hd : decide ((l.length : Int) > 10) with
  | true => rfl
  | false =>
    have hl : l.length ≤ 10 := by simp at hd; omega
    have h : spec_l5Fault_l0 l 0 = _ := loop_first l inodeF (fun i hi => by
      simp only [spec_l5Fault_l0.B, lt_dec hi, inB_lt hi, cond_tt, toNat_cast, getD_lt _ hi, spec_l4Fault_eq _ (hb.2 _ (List.getElem_mem hi)), Option.bind_some, w64_succ (by omega : i < 4294967296)]) (by
      simp only [spec_l5Fault_l0.B, ge_dec (Nat.le_refl _), cond_ff])
    rw [h, cond_ff, cond_ff, sel_first, first_zero]
theorem impl_inodesFault_eq (l : List Inode_) (hb : Bd (.sl tInode_) l) : impl_inodesFault l = some (inodesF l) := by
  simp only [impl_inodesFault, inodesF]
  cases hd : decide ((l.length : Int) > 10) with
  | true => rfl
  | false =>
    have hl : l.length ≤ 10 := by simp at hd; omega
    have h : impl_inodesFault_l0 l (l.length : Int) 0 = _ := loop_first l inodeF (fun i hi => by
      simp only [impl_inodesFault_l0.B, lt_dec hi, inB_lt hi, cond_tt, toNat_cast, getD_lt _ hi, impl_inodeFault_eq _ (hb.2 _ (List.getElem_mem hi)), Option.bind_some, w64_succ (by omega : i < 4294967296)]) (by
      simp only [impl_inodesFault_l0.B, ge_dec (Nat.le_refl _), cond_ff])
    rw [h, cond_ff, cond_ff, sel_first, first_zero]
def allB (l : List Inode_) : List Int := l.flatMap fun x => x.2.2.2.1
theorem inodeF_file {x : Inode_} (h : inodeF x = 0) : x.2.2.2.1.length ≤ 4 ∧ (∀ b ∈ x.2.2.2.1, 0 ≤ b ∧ b ≤ 19) ∧ (x.1 ≠ 1 → x.2.2.2.1 = []) ∧ (x.1 = 1 → fileF x = 0) := by
  unfold inodeF at h
  cases h1 : inR x.1 0 2 with
  | false => rw [h1] at h; cases h
  | true =>
    rw [h1] at h
    simp only [Bool.not_true, cond_ff] at h
    by_cases e : x.1 = 1
    · rw [show (x.1 != 1) = false by simp [e]] at h
      cases h2 : cond (cond false (cond (cond (x.2.1 != 0) true (x.2.2.1 != 0)) true (decide ((x.2.2.2.1.length : Int) > 0))) false) true (cond (x.1 != 2) (decide ((x.2.2.2.2.1.length : Int) > 0)) false) with
      | true => rw [h2] at h; cases h
      | false =>
        rw [h2, show (x.1 == 1) = true by simp [e]] at h
        simp only [cond_ff, cond_tt] at h
        have hf := h
        unfold fileF at h
        cases h3 : inR x.2.1 1 60 with
        | false => rw [h3] at h; cases h
        | true =>
          rw [h3] at h
          cases h4 : inR x.2.2.1 0 32 with
          | false => rw [h4] at h; cases h
          | true =>
            rw [h4] at h
            simp only [Bool.not_true, cond_ff] at h
            cases h5 : ((x.2.2.2.1.length : Int) != forF x.2.2.1) with
            | true => rw [h5] at h; cases h
            | false =>
              rw [h5] at h
              simp only [cond_ff] at h
              cases h6 : (x.2.2.2.1.any fun b => !inR b 0 19) with
              | true => rw [h6] at h; cases h
              | false =>
                refine ⟨?_, fun b hb => ?_, fun h => absurd e h, fun _ => hf⟩
                · have hs := inR_iff.1 h4
                  have : (x.2.2.2.1.length : Int) = forF x.2.2.1 := by simpa using h5
                  unfold forF at this
                  rw [w64_id (x := x.2.2.1 + 8) (by omega) (by omega), w64_id (x := x.2.2.1 + 8 - 1) (by omega) (by omega), Int.tdiv_eq_ediv_of_nonneg (by omega), w64_id (by omega) (by omega)] at this
                  omega
                · have := List.any_eq_false.1 h6 b hb
                  exact inR_iff.1 (by simpa using this)
    · rw [show (x.1 != 1) = true by simp [e]] at h
      cases h2 : decide ((x.2.2.2.1.length : Int) > 0) with
      | true =>
        rw [h2] at h
        simp only [cond_tt, cond_same] at h
        cases h
      | false =>
        have hz : x.2.2.2.1 = [] := by simp at h2; exact h2
        exact ⟨by simp [hz], by simp [hz], fun _ => hz, fun h => absurd h e⟩
theorem firstC_zero {α : Type} {c : α → Int} : ∀ {l : List α}, firstC c l = 0 ↔ ∀ x ∈ l, c x = 0
  | [] => by simp [firstC]
  | x :: l => by
    simp only [firstC, List.mem_cons, forall_eq_or_imp]
    cases h : (c x != 0)
    · have : c x = 0 := by simpa using h
      simp only [cond_ff, this, true_and]; exact firstC_zero
    · have : c x ≠ 0 := by simpa using h
      simp only [cond_tt]; exact ⟨fun e => absurd e this, fun e => absurd e.1 this⟩
theorem inodesF_ok {l : List Inode_} (h : inodesF l = 0) : l.length ≤ 10 ∧ ∀ x ∈ l, inodeF x = 0 := by
  unfold inodesF at h
  cases h1 : decide ((l.length : Int) > 10) with
  | true => rw [h1] at h; cases h
  | false => rw [h1] at h; exact ⟨by simp at h1; omega, firstC_zero.1 h⟩
/-- what is known of inodes that are right one by one -/
structure InOk (l : List Inode_) : Prop where
  len : l.length ≤ 10
  blk : ∀ x ∈ l, x.2.2.2.1.length ≤ 4 ∧ ∀ b ∈ x.2.2.2.1, 0 ≤ b ∧ b ≤ 19
theorem InOk.of {l : List Inode_} (h : inodesF l = 0) : InOk l :=
  ⟨(inodesF_ok h).1, fun x hx => ⟨(inodeF_file ((inodesF_ok h).2 x hx)).1, (inodeF_file ((inodesF_ok h).2 x hx)).2.1⟩⟩
theorem allB_len : ∀ {l : List Inode_}, (∀ x ∈ l, x.2.2.2.1.length ≤ 4) → (allB l).length ≤ 4 * l.length
  | [], h => by simp [allB]
  | x :: l, h => by
    have h1 := h x (List.mem_cons_self ..)
    have := allB_len (l := l) fun y hy => h y (List.mem_cons_of_mem _ hy)
    simp only [allB, List.flatMap_cons, List.length_append, List.length_cons] at *
    omega
theorem InOk.all {l : List Inode_} (h : InOk l) : (allB l).length ≤ 40 ∧ ∀ b ∈ allB l, 0 ≤ b ∧ b ≤ 19 := by
  refine ⟨by have := allB_len (l := l) fun x hx => (h.blk x hx).1; have := h.len; omega, fun b hb => ?_⟩
  obtain ⟨x, hx, hb⟩ := List.mem_flatMap.1 hb
  exact (h.blk x hx).2 b hb
theorem spec_l5Count_l1_eq (l : List Inode_) (at_ : Int) (i : Nat) (hi : i < l.length) (n : Nat) (hb : l[i].2.2.2.1.length ≤ 4) (hn : n ≤ 1000) : spec_l5Count_l1 l at_ (i : Int) ((n : Int), 0) = some (((n + l[i].2.2.2.1.count at_ : Nat) : Int)) := by
  have h := loop_listI0 (τ := Nat) l[i].2.2.2.1 (f := fun s => spec_l5Count_l1.B l at_ (i : Int) s.1 s.2) (fun k m => ((m : Int), (k : Int))) (fun _ y m => .inl (m + (if y == at_ then 1 else 0))) (fun m => ((m : Nat) : Int)) (fun k m => m ≤ n + k)
    (fun k hk m hm => by
      simp only [spec_l5Count_l1.B, inB_lt hi, cond_tt, toNat_cast, getD_lt _ hi, Option.bind_some, lt_dec hk, inB_lt hk, getD_lt _ hk, w64_succ (by omega : k < 4294967296), w64_succ (by omega : m < 4294967296), sel]
      cases h : (l[i].2.2.2.1[k] == at_) <;> simp [h])
    (fun k hk m m' hm e => by cases e; split <;> omega)
    (fun m hm => by
      simp only [spec_l5Count_l1.B, inB_lt hi, cond_tt, toNat_cast, getD_lt _ hi, Option.bind_some, ge_dec (Nat.le_refl _), cond_ff]) n (by omega) (s := ((n : Int), 0)) rfl
  refine Eq.trans h ?_
  rw [foldE_fold]
  congr 2
  have : ∀ (l : List Int) (m : Nat), l.foldl (fun t y => t + (if y == at_ then 1 else 0)) m = m + l.count at_ := by
    intro l
    induction l with
    | nil => intro m; simp
    | cons y l ih => intro m; rw [List.foldl_cons, ih, List.count_cons]; omega
  exact this _ _
theorem spec_l5Count_eq (l : List Inode_) (hok : InOk l) (at_ : Int) : spec_l5Count l at_ = some ((((allB l).count at_ : Nat) : Int)) := by
  have h := loop_listI0 (τ := Nat) l (f := fun s => spec_l5Count_l0.B l at_ s.1 s.2) (fun k m => ((m : Int), (k : Int))) (fun _ x m => .inl (m + x.2.2.2.1.count at_)) (fun m => ((m : Nat) : Int)) (fun k m => m ≤ 4 * k)
    (fun k hk m hm => by
      have hl := hok.len
      simp only [spec_l5Count_l0.B, lt_dec hk, cond_tt, spec_l5Count_l1_eq l at_ k hk m (hok.blk _ (List.getElem_mem hk)).1 (by omega), Option.bind_some, w64_succ (by omega : k < 4294967296), sel])
    (fun k hk m m' hm e => by cases e; have := (hok.blk _ (List.getElem_mem hk)).1; have := List.count_le_length (a := at_) (l := l[k].2.2.2.1); omega)
    (fun m hm => by simp only [spec_l5Count_l0.B, ge_dec (Nat.le_refl _), cond_ff]) 0 (by omega) (s := (0, 0)) rfl
  have h' : spec_l5Count_l0 l at_ (0, 0) = _ := h
  simp only [spec_l5Count, h', Option.bind_some]
  rw [foldE_fold]
  have : ∀ (l : List Inode_) (m : Nat), l.foldl (fun t x => t + x.2.2.2.1.count at_) m = m + (allB l).count at_ := by
    intro l
    induction l with
    | nil => intro m; simp [allB]
    | cons y l ih => intro m; rw [List.foldl_cons, ih]; simp only [allB, List.flatMap_cons, List.count_append]; omega
  rw [this, Nat.zero_add]
def r20 : List Int := (List.range 20).map Int.ofNat
theorem r20_len : r20.length = 20 := by simp [r20]
theorem r20_get (k : Nat) (h : k < r20.length) : r20[k] = (k : Int) := by simp [r20]
theorem r20_mem (a : Int) : a ∈ r20 ↔ 0 ≤ a ∧ a ≤ 19 := by
  simp only [r20, List.mem_map, List.mem_range]
  constructor
  · rintro ⟨k, h1, rfl⟩; simp; omega
  · intro h; exact ⟨a.toNat, by omega, by simp; omega⟩
def usedF (l : List Inode_) : List Int := r20.filter fun b => (allB l).contains b
def onceF (l : List Inode_) : Bool := decide (allB l).Nodup
theorem spec_l5Used_eq (l : List Inode_) (hok : InOk l) : spec_l5Used l = some (usedF l, onceF l) := by
  have h := loop_listI0 (τ := Bool × List Int) r20 (f := fun s => spec_l5Used_l0.B l s.1 s.2.1 s.2.2) (fun k t => (t.1, ((k : Int), t.2))) (fun _ b t => .inl (t.1 && decide ((allB l).count b ≤ 1), cond ((allB l).contains b) (t.2 ++ [b]) t.2)) (fun t => t) (fun k t => t.2.length ≤ k)
    (fun k hk t ht => by
      have hk' : k < 20 := by rw [r20_len] at hk; exact hk
      rw [r20_get k hk]
      have h20 : decide ((k : Int) < 20) = true := by simp; omega
      simp only [spec_l5Used_l0.B, h20, cond_tt, spec_l5Count_eq l hok, Option.bind_some, w64_succ (by omega : k < 4294967296), sel]
      have e1 : decide ((((allB l).count (k : Int) : Nat) : Int) > 0) = (allB l).contains (k : Int) := by
        rw [Bool.eq_iff_iff]
        simp only [decide_eq_true_eq, List.contains_iff_mem, ← List.count_pos_iff]
        omega
      have e2 : cond t.1 (decide ((((allB l).count (k : Int) : Nat) : Int) ≤ 1)) false = (t.1 && decide ((allB l).count (k : Int) ≤ 1)) := by
        cases t.1
        · rfl
        · simp only [cond_tt, Bool.true_and]; rw [Bool.eq_iff_iff]; simp; omega
      rw [e1, e2, dlen (by simp; omega)]
      cases (allB l).contains (k : Int) <;> rfl)
    (fun k hk t t' ht e => by cases e; simp only; cases (allB l).contains _ <;> simp <;> omega)
    (fun t ht => by
      rw [r20_len]; rfl) (true, []) (by simp) (s := (true, 0, [])) rfl
  have h' : spec_l5Used_l0 l (true, 0, []) = _ := h
  simp only [spec_l5Used, h', Option.bind_some]
  rw [foldE_fold]
  have hf : ∀ (m : List Int) (t : Bool × List Int), m.foldl (fun t b => (t.1 && decide ((allB l).count b ≤ 1), cond ((allB l).contains b) (t.2 ++ [b]) t.2)) t = (t.1 && m.all fun b => decide ((allB l).count b ≤ 1), t.2 ++ m.filter fun b => (allB l).contains b) := by
    intro m
    induction m with
    | nil => intro t; simp
    | cons b m ih =>
      intro t
      rw [List.foldl_cons, ih, List.all_cons, List.filter_cons]
      cases (allB l).contains b <;> simp [Bool.and_assoc]
  rw [hf]
  simp only [Bool.true_and, List.nil_append]
  congr 2
  rw [Bool.eq_iff_iff]
  simp only [onceF, List.all_eq_true, decide_eq_true_eq, List.nodup_iff_count]
  constructor
  · intro h a
    by_cases ha : a ∈ allB l
    · have := hok.all.2 a ha
      exact h a ((r20_mem a).2 this)
    · rw [List.count_eq_zero.2 ha]; omega
  · intro h a _; exact h a
theorem compact_l1 (s0 : List Int) (k0 : Nat) (h0 : 0 < k0) (h1 : k0 < s0.length) (hl : s0.length ≤ 2147483648) : ∀ (m j k : Nat) (s : List Int), j + m = s0.length - k0 → 0 < j → s.length = s0.length → k < k0 + j → ∃ (k' : Nat) (s' : List Int), slices_Compact_int64_l1 k0 (s0.length - k0) ((k : Int), (j : Int), s) = some ((k' : Int), s') ∧ s'.length = s0.length ∧ k' < s0.length
  | 0, j, k, s, hj, h2, h3, h4 => by
    refine ⟨k, s, loopL_done ?_, h3, by omega⟩
    simp only [slices_Compact_int64_l1.B, show decide ((j : Int) < ((s0.length - k0 : Nat) : Int)) = false by simp; omega, cond_ff]
  | m + 1, j, k, s, hj, h2, h3, h4 => by
    have hw : w64 ((j : Int) - 1) = ((j - 1 : Nat) : Int) := by rw [w64_id (by omega) (by omega)]; omega
    have hst : ∃ k' s', slices_Compact_int64_l1.B k0 (s0.length - k0) (k : Int) (j : Int) s = some (.inl ((k' : Nat), ((j + 1 : Nat) : Int), s')) ∧ s'.length = s0.length ∧ k' < k0 + (j + 1) := by
      simp only [slices_Compact_int64_l1.B, show decide ((j : Int) < ((s0.length - k0 : Nat) : Int)) = true by simp; omega, inB_lt (by omega : j < s0.length - k0), hw, inB_lt (by omega : j - 1 < s0.length - k0), inB_lt (by omega : k < s.length), cond_tt, Option.bind_some, toNat_cast, w64_succ (by omega : j < 4294967296), w64_succ (by omega : k < 4294967296)]
      cases (s.getD (k0 + j) 0 != s.getD (k0 + (j - 1)) 0)
      · exact ⟨k, s, rfl, h3, by omega⟩
      · exact ⟨k + 1, _, rfl, by simpa using h3, by omega⟩
    obtain ⟨k1, s1, e1, e2, e3⟩ := hst
    obtain ⟨k', s', q1, q2, q3⟩ := compact_l1 s0 k0 h0 h1 hl m (j + 1) k1 s1 (by omega) (by omega) e2 (by omega)
    refine ⟨k', s', ?_, q2, q3⟩
    unfold slices_Compact_int64_l1
    rw [loopL_step (s' := ((k1 : Int), ((j + 1 : Nat) : Int), s1)) e1]
    exact q1
theorem compact_l0 (s : List Int) (hl : s.length ≤ 2147483648) : ∀ (m n : Nat), n + m = s.length → 0 < n →
    (slices_Compact_int64_l0 s (n : Int) = some (.inr ()) ∧ ∀ i, n ≤ i → (h : i < s.length) → s[i] ≠ s[i - 1]) ∨ (∃ (k : Nat) (s' : List Int), slices_Compact_int64_l0 s (n : Int) = some (.inl (0, k - 0, s')) ∧ s'.length = s.length ∧ k < s.length ∧ ∃ i, n ≤ i ∧ ∃ h : i < s.length, s[i] = s[i - 1])
  | 0, n, hn, h0 => by
    have : n = s.length := by omega
    subst this
    refine .inl ⟨loopL_done ?_, fun i h1 h2 => by omega⟩
    simp only [slices_Compact_int64_l0.B, ge_dec (Nat.le_refl _), cond_ff]
  | m + 1, n, hn, h0 => by
    have hlt : n < s.length := by omega
    have hw : w64 ((n : Int) - 1) = ((n - 1 : Nat) : Int) := by rw [w64_id (by omega) (by omega)]; omega
    by_cases he : s[n] = s[n - 1]
    · refine .inr ?_
      obtain ⟨k', s', q1, q2, q3⟩ := compact_l1 s n h0 hlt hl (s.length - n - 1) 1 n s (by omega) (by omega) rfl (by omega)
      refine ⟨k', splice s' k' (List.replicate (s'.length - k') 0), loopL_done ?_, by simp [splice]; omega, q3, n, Nat.le_refl _, hlt, he⟩
      have q1' : slices_Compact_int64_l1 n (s.length - n) ((n : Int), 1, s) = some ((k' : Int), s') := q1
      simp only [slices_Compact_int64_l0.B, lt_dec hlt, inB_lt hlt, hw, inB_lt (by omega : n - 1 < s.length), cond_tt, Option.bind_some, toNat_cast, getD_lt _ hlt, getD_lt _ (by omega : n - 1 < s.length), he, beq_self_eq_true, q1']
      rw [show (decide ((0 : Int) ≤ (n : Int)) && decide ((n : Int) ≤ (s.length : Int))) = true by simp; omega, show (decide ((0 : Int) ≤ (k' : Int)) && decide ((k' : Int) ≤ (s'.length : Int))) = true by simp; omega,
        show (decide ((0 : Int) ≤ (k' : Int)) && decide ((k' : Int) ≤ ((splice s' k' (List.replicate (s'.length - k') 0)).length : Int))) = true by simp [splice]; omega]
      rfl
    · have hst : slices_Compact_int64_l0.B s (n : Int) = some (.inl ((n + 1 : Nat) : Int)) := by
        simp only [slices_Compact_int64_l0.B, lt_dec hlt, inB_lt hlt, hw, inB_lt (by omega : n - 1 < s.length), cond_tt, Option.bind_some, toNat_cast, getD_lt _ hlt, getD_lt _ (by omega : n - 1 < s.length), w64_succ (by omega : n < 4294967296)]
        rw [show (s[n] == s[n - 1]) = false by simp [he]]
        rfl
      unfold slices_Compact_int64_l0
      rw [loopL_step (f := fun s_1 => slices_Compact_int64_l0.B s s_1) hst]
      rcases compact_l0 s hl m (n + 1) (by omega) (by omega) with ⟨q1, q2⟩ | ⟨k, s', q1, q2, q3, i, q4, q5, q6⟩
      · refine .inl ⟨q1, fun i h1 h2 => ?_⟩
        by_cases e : i = n
        · subst e; exact he
        · exact q2 i (by omega) h2
      · exact .inr ⟨k, s', q1, q2, q3, i, by omega, q5, q6⟩
theorem compact_eq (s : List Int) (hl : s.length ≤ 2147483648) (hs : s.Pairwise fun a b => a ≤ b) : ∃ r, slices_Compact_int64 s = some r ∧ ((r.length : Int) == (s.length : Int)) = decide s.Nodup := by
  simp only [slices_Compact_int64]
  by_cases h2 : s.length < 2
  · rw [show decide ((s.length : Int) < 2) = true by simp; omega]
    refine ⟨s, rfl, ?_⟩
    have : s.Nodup := by
      match s, h2 with
      | [], _ => simp
      | [x], _ => simp
    simp [this]
  · rw [show decide ((s.length : Int) < 2) = false by simp; omega]
    simp only [cond_ff]
    have hle : ∀ i j, (hij : i ≤ j) → (hj : j < s.length) → s[i] ≤ s[j] := by
      intro i j hij hj
      rcases Nat.lt_or_eq_of_le hij with h | h
      · exact List.pairwise_iff_getElem.1 hs i j _ hj h
      · subst h; exact Int.le_refl _
    rcases compact_l0 s hl (s.length - 1) 1 (by omega) (by omega) with ⟨q1, q2⟩ | ⟨k, s', q1, q2, q3, i, q4, q5, q6⟩
    · have q1' : slices_Compact_int64_l0 s 1 = some (.inr ()) := q1
      rw [q1']
      refine ⟨s, rfl, ?_⟩
      have : s.Nodup := by
        rw [List.Nodup, List.pairwise_iff_getElem]
        intro i j hi hj hij he
        have h1 := hle i (j - 1) (by omega) (by omega)
        have h2 := hle (j - 1) j (by omega) hj
        exact q2 j (by omega) hj (by omega)
      simp [this]
    · have q1' : slices_Compact_int64_l0 s 1 = some (.inl (0, k - 0, s')) := q1
      rw [q1']
      refine ⟨_, rfl, ?_⟩
      have : ¬ s.Nodup := by
        intro hn
        exact List.pairwise_iff_getElem.1 hn (i - 1) i (by omega) q5 (by omega) q6.symm
      simp only [this, decide_false]
      have hlen : ((List.drop 0 s').take (k - 0)).length = k := by simp; omega
      rw [hlen]
      simp; omega
def sortF (l : List Int) : List Int := l.mergeSort fun x y => decide (x ≤ y)
theorem sortF_sorted (l : List Int) : (sortF l).Pairwise fun a b => a ≤ b := by
  have := List.pairwise_mergeSort (le := fun x y : Int => decide (x ≤ y)) (fun a b c h1 h2 => by simp at *; omega) (fun a b => by simp; omega) l
  simpa [sortF] using this
theorem sortF_perm (l : List Int) : (sortF l).Perm l := List.mergeSort_perm _ _
theorem sortF_len (l : List Int) : (sortF l).length = l.length := (sortF_perm l).length_eq
theorem sortP_eq {l : List Int} (h : l.length ≤ 2147483648) : sortP l = some (sortF l) := by
  unfold sortP sortF; rw [dlen h]; rfl
theorem impl_usedBlocks_eq (l : List Inode_) (hok : InOk l) : impl_usedBlocks l = some (sortF (allB l), onceF l) := by
  have hall := hok.all
  have h : impl_usedBlocks_l0 l (l.length : Int) (0, []) = some (l.foldl (fun t x => t ++ x.2.2.2.1) []) :=
    loop_foldI l (f := fun s => impl_usedBlocks_l0.B l (l.length : Int) s.1 s.2) (fun t x => t ++ x.2.2.2.1) id (fun i t => t.length ≤ 4 * i) (fun i hi t ht => by
      have h4 := (hok.blk _ (List.getElem_mem hi)).1
      have hl := hok.len
      refine ⟨?_, by simp; omega⟩
      simp only [impl_usedBlocks_l0.B, lt_dec hi, inB_lt hi, cond_tt, toNat_cast, getD_lt _ hi, Option.bind_some, w64_succ (by omega : i < 4294967296)]
      rw [dlen (by simp; omega)]; rfl) (fun t ht => by
      simp only [impl_usedBlocks_l0.B, ge_dec (Nat.le_refl _), cond_ff, id]) [] (by simp)
  have h2 : ∀ (l : List Inode_) (t : List Int), l.foldl (fun t x => t ++ x.2.2.2.1) t = t ++ allB l := by
    intro l
    induction l with
    | nil => intro t; simp [allB]
    | cons x l ih => intro t; rw [List.foldl_cons, ih]; simp [allB]
  rw [h2, List.nil_append] at h
  obtain ⟨r, hr1, hr2⟩ := compact_eq (sortF (allB l)) (by rw [sortF_len]; omega) (sortF_sorted _)
  simp only [impl_usedBlocks, h, Option.bind_some, slices_Sort_int64, sortP_eq (by omega : (allB l).length ≤ 2147483648), slices_Clone_int64, cloneP_ok (by rw [sortF_len]; omega : (sortF (allB l)).length ≤ 2147483648), hr1, hr2]
  congr 2
  rw [Bool.eq_iff_iff]
  simp only [onceF, decide_eq_true_eq]
  exact (sortF_perm _).nodup_iff
theorem sort_used (l : List Inode_) (hok : InOk l) (h : onceF l = true) : sortF (allB l) = usedF l := by
  have hn : (allB l).Nodup := by simpa [onceF] using h
  refine List.Perm.eq_of_pairwise (le := fun a b => a ≤ b) (fun a b _ _ h1 h2 => by omega) (sortF_sorted _) ?_ ?_
  · refine List.Pairwise.filter _ ?_
    rw [List.pairwise_iff_getElem]
    intro i j hi hj hij
    rw [r20_get, r20_get]; omega
  · refine (sortF_perm _).trans ?_
    rw [List.perm_iff_count]
    intro a
    have hr : r20.Nodup := by
      rw [List.Nodup, List.pairwise_iff_getElem]
      intro i j hi hj hij
      rw [r20_get, r20_get]; omega
    have hu : (usedF l).Nodup := List.Pairwise.filter _ hr
    rw [hn.count, hu.count]
    congr 1
    rw [usedF, List.mem_filter, r20_mem]
    simp only [List.contains_iff_mem, eq_iff_iff]
    exact ⟨fun h => ⟨hok.all.2 a h, h⟩, fun h => h.2⟩
theorem entsF_ok : ∀ {p : Option (List UInt8)} {l : List Entry_}, entsF p l = 0 → ∀ e ∈ l, nameF e.1 = 0 ∧ 0 ≤ e.2.1 ∧ e.2.1 ≤ 9
  | p, [], h, e, he => by cases he
  | p, x :: l, h, e, he => by
    simp only [entsF] at h
    cases hc : (entF p x != 0) with
    | true =>
      rw [hc] at h
      have : entF p x ≠ 0 := by simpa using hc
      exact absurd h this
    | false =>
      rw [hc] at h
      rcases List.mem_cons.1 he with rfl | he
      · have h0 : entF p e = 0 := by simpa using hc
        unfold entF at h0
        cases h1 : (nameF e.1 != 0) with
        | true => rw [h1] at h0; exact absurd h0 (by simpa using h1)
        | false =>
          rw [h1] at h0
          cases h2 : inR e.2.1 0 9 with
          | false => rw [h2] at h0; cases h0
          | true => exact ⟨by simpa using h1, inR_iff.1 h2⟩
      · exact entsF_ok h e he
theorem inodeF_dir {x : Inode_} (h : inodeF x = 0) : (0 ≤ x.1 ∧ x.1 ≤ 2) ∧ x.2.2.2.2.1.length ≤ 6 ∧ (x.1 ≠ 2 → x.2.2.2.2.1 = []) ∧ (x.1 = 2 → dirF x = 0) ∧ (x.1 ≠ 1 → x.2.1 = 0 ∧ x.2.2.1 = 0) ∧ ∀ e ∈ x.2.2.2.2.1, nameF e.1 = 0 ∧ 0 ≤ e.2.1 ∧ e.2.1 ≤ 9 := by
  unfold inodeF at h
  cases h1 : inR x.1 0 2 with
  | false => rw [h1] at h; cases h
  | true =>
    rw [h1] at h
    simp only [Bool.not_true, cond_ff] at h
    have hk := inR_iff.1 h1
    have hz : x.1 ≠ 1 → x.2.1 = 0 ∧ x.2.2.1 = 0 := by
      intro e
      rw [show (x.1 != 1) = true by simp [e]] at h
      cases h2 : (x.2.1 != 0) with
      | true => rw [h2] at h; cases h
      | false =>
        cases h3 : (x.2.2.1 != 0) with
        | true => rw [h2, h3] at h; cases h
        | false => exact ⟨by simpa using h2, by simpa using h3⟩
    cases h2 : cond (cond (x.1 != 1) (cond (cond (x.2.1 != 0) true (x.2.2.1 != 0)) true (decide ((x.2.2.2.1.length : Int) > 0))) false) true (cond (x.1 != 2) (decide ((x.2.2.2.2.1.length : Int) > 0)) false) with
    | true => rw [h2] at h; cases h
    | false =>
      rw [h2] at h
      by_cases e : x.1 = 2
      · rw [show (x.1 == 1) = false by simp [e], show (x.1 == 2) = true by simp [e]] at h
        simp only [cond_ff, cond_tt] at h
        have hd := h
        unfold dirF at h
        cases h3 : decide ((x.2.2.2.2.1.length : Int) > 6) with
        | true => rw [h3] at h; cases h
        | false =>
          rw [h3] at h
          exact ⟨hk, by simp at h3; omega, fun hh => absurd e hh, fun _ => hd, hz, entsF_ok h⟩
      · rw [show (x.1 != 2) = true by simp [e]] at h2
        have : x.2.2.2.2.1 = [] := by
          cases h3 : decide ((x.2.2.2.2.1.length : Int) > 0) with
          | true =>
            rw [h3] at h2
            exfalso
            revert h2
            generalize cond (x.1 != 1) (cond (cond (x.2.1 != 0) true (x.2.2.1 != 0)) true (decide ((x.2.2.2.1.length : Int) > 0))) false = b
            cases b <;> intro h2 <;> cases h2
          | false => simp at h3; exact h3
        exact ⟨hk, by simp [this], fun _ => this, fun hh => absurd hh e, hz, by simp [this]⟩
def entBad (l : List Inode_) (e : Entry_) : Bool := cond (decide (e.2.1 ≥ (l.length : Int))) true ((l.getD e.2.1.toNat zInode_).1 == 0)
def rootF (f : Fs_) : Int := cond (inodesF f.1 != 0) (inodesF f.1) (cond (cond (cond ((f.1.length : Int) == 0) true ((f.1.getD 0 zInode_).1 != 2)) true ((f.2.1.length : Int) != 20)) 1 0)
def treeF (f : Fs_) : Int := cond (rootF f != 0) (rootF f)
  (cond (f.2.1.any fun b => decide ((b.length : Int) > 8)) 2 (cond (!onceF f.1) 7 (cond (f.1.any fun x => x.2.2.2.2.1.any (entBad f.1)) 4 0)))
/-- the inodes' entries -/
structure EntOk (l : List Inode_) : Prop where
  ent : ∀ x ∈ l, x.2.2.2.2.1.length ≤ 6 ∧ ∀ e ∈ x.2.2.2.2.1, 0 ≤ e.2.1 ∧ e.2.1 ≤ 9
theorem EntOk.of {l : List Inode_} (h : inodesF l = 0) : EntOk l :=
  ⟨fun x hx => ⟨(inodeF_dir ((inodesF_ok h).2 x hx)).2.1, fun e he => ((inodeF_dir ((inodesF_ok h).2 x hx)).2.2.2.2.2 e he).2⟩⟩
theorem spec_l6Entries_l2_eq (f : Fs_) (hok : InOk f.1) (hen : EntOk f.1) (n : Nat) (hn : n < f.1.length) : spec_l6Entries_l2 f (n : Int) 0 = some (cond (f.1[n].2.2.2.2.1.any (entBad f.1)) (.inl 4) (.inr ())) :=
  loop_any f.1[n].2.2.2.2.1 (f := fun s => spec_l6Entries_l2.B f (n : Int) s) (entBad f.1) (4 : Int) (fun i hi => by
    have hx := hen.ent _ (List.getElem_mem hn)
    have he := hx.2 _ (List.getElem_mem hi)
    simp only [spec_l6Entries_l2.B, inB_lt hn, cond_tt, toNat_cast, getD_lt _ hn, Option.bind_some, lt_dec hi, inB_lt hi, getD_lt _ hi, w64_succ (by omega : i < 4294967296), entBad]
    by_cases hh : (f.1[n].2.2.2.2.1[i]).2.1 ≥ (f.1.length : Int)
    · rw [show decide ((f.1[n].2.2.2.2.1[i]).2.1 ≥ (f.1.length : Int)) = true by simp [hh]]; rfl
    · rw [show decide ((f.1[n].2.2.2.2.1[i]).2.1 ≥ (f.1.length : Int)) = false by simp; omega, show inB (f.1[n].2.2.2.2.1[i]).2.1 f.1.length = true from inB_ok he.1 (by omega)]
      rfl) (by
    simp only [spec_l6Entries_l2.B, inB_lt hn, cond_tt, toNat_cast, getD_lt _ hn, Option.bind_some, ge_dec (Nat.le_refl _), cond_ff])
theorem spec_l6Entries_eq (f : Fs_) (hb : Bd tFs_ f) : spec_l6Entries f = some (treeF f) := by
  simp only [spec_l6Entries, treeF, rootF, spec_l5Fault_eq f.1 hb.1, Option.bind_some]
  cases hi : (inodesF f.1 != 0) with
  | true => simp only [cond_tt, hi]
  | false =>
    have h0 : inodesF f.1 = 0 := by simpa using hi
    have hok := InOk.of h0
    have hen := EntOk.of h0
    simp only [cond_ff]
    have e1 : cond (!((f.1.length : Int) == 0)) (inB 0 f.1.length) true = true := by
      cases hl : ((f.1.length : Int) == 0) with
      | true => rfl
      | false => exact inB_lt (i := 0) (by have : (f.1.length : Int) ≠ 0 := by simpa using hl
                                           omega)
    rw [e1]
    simp only [cond_tt, show (0 : Int).toNat = 0 from rfl]
    cases hr : cond (cond ((f.1.length : Int) == 0) true ((f.1.getD 0 zInode_).1 != 2)) true ((f.2.1.length : Int) != 20) with
    | true => rfl
    | false =>
      have hd : f.2.1.length = 20 := by
        cases h20 : ((f.2.1.length : Int) != 20) with
        | false => have : (f.2.1.length : Int) = 20 := by simpa using h20
                   omega
        | true => rw [h20] at hr; cases hh : (cond ((f.1.length : Int) == 0) true ((f.1.getD 0 zInode_).1 != 2)) <;> rw [hh] at hr <;> cases hr
      have h1 : spec_l6Entries_l0 f 0 = _ := loop_any f.2.1 (fun b => decide ((b.length : Int) > 8)) (2 : Int) (fun i hi => by
        simp only [spec_l6Entries_l0.B, lt_dec hi, inB_lt hi, cond_tt, toNat_cast, getD_lt _ hi, Option.bind_some, w64_succ (by omega : i < 4294967296)]) (by
        simp only [spec_l6Entries_l0.B, ge_dec (Nat.le_refl _), cond_ff])
      have h2 : spec_l6Entries_l1 f 0 = _ := loop_any f.1 (fun x => x.2.2.2.2.1.any (entBad f.1)) (4 : Int) (fun i hi => by
        have hl := hok.len
        simp only [spec_l6Entries_l1.B, lt_dec hi, cond_tt, spec_l6Entries_l2_eq f hok hen i hi, Option.bind_some, w64_succ (by omega : i < 4294967296)]
        cases (f.1[i].2.2.2.2.1.any (entBad f.1)) <;> rfl) (by
        simp only [spec_l6Entries_l1.B, ge_dec (Nat.le_refl _), cond_ff])
      simp only [cond_ff, h1, h2, Option.bind_some, spec_l5Used_eq f.1 hok]
      cases f.2.1.any fun b => decide ((b.length : Int) > 8)
      · simp only [cond_ff, sel_inr]
        cases onceF f.1
        · rfl
        · simp only [Bool.not_true, cond_ff]
          cases f.1.any fun x => x.2.2.2.2.1.any (entBad f.1) <;> rfl
      · rfl
theorem impl_rootFault_eq (f : Fs_) (hb : Bd tFs_ f) : impl_rootFault f = some (rootF f) := by
  simp only [impl_rootFault, rootF, impl_inodesFault_eq f.1 hb.1, Option.bind_some]
  cases hi : (inodesF f.1 != 0) with
  | true => simp only [cond_tt]
  | false =>
    simp only [cond_ff]
    have e1 : cond (!((f.1.length : Int) == 0)) (inB 0 f.1.length) true = true := by
      cases hl : ((f.1.length : Int) == 0) with
      | true => rfl
      | false => exact inB_lt (i := 0) (by have : (f.1.length : Int) ≠ 0 := by simpa using hl
                                           omega)
    rw [e1]
    simp only [cond_tt, show (0 : Int).toNat = 0 from rfl, some_cond]
theorem rootF_ok {f : Fs_} (h : rootF f = 0) : inodesF f.1 = 0 ∧ 0 < f.1.length ∧ (f.1.getD 0 zInode_).1 = 2 ∧ f.2.1.length = 20 := by
  unfold rootF at h
  cases hi : (inodesF f.1 != 0) with
  | true => rw [hi] at h; exact absurd h (by simpa using hi)
  | false =>
    rw [hi] at h
    refine ⟨by simpa using hi, ?_⟩
    cases h1 : ((f.1.length : Int) == 0) with
    | true => rw [h1] at h; cases h
    | false =>
      rw [h1] at h
      cases h2 : ((f.1.getD 0 zInode_).1 != 2) with
      | true => rw [h2] at h; cases h
      | false =>
        rw [h2] at h
        cases h3 : ((f.2.1.length : Int) != 20) with
        | true => rw [h3] at h; cases h
        | false =>
          have a1 : (f.1.length : Int) ≠ 0 := by simpa using h1
          have a3 : (f.2.1.length : Int) = 20 := by simpa using h3
          exact ⟨by omega, by simpa using h2, by omega⟩
theorem impl_treeFault_l1_eq (f : Fs_) (hok : InOk f.1) (hen : EntOk f.1) (v2 v3 : Int) (x : Inode_) (hx : x ∈ f.1) : impl_treeFault_l1 f f.1 v2 v3 x.2.2.2.2.1 (x.2.2.2.2.1.length : Int) 0 = some (cond (x.2.2.2.2.1.any (entBad f.1)) (.inl 4) (.inr ())) :=
  loop_any x.2.2.2.2.1 (f := fun s => impl_treeFault_l1.B f f.1 v2 v3 x.2.2.2.2.1 (x.2.2.2.2.1.length : Int) s) (entBad f.1) (4 : Int) (fun i hi => by
    have hx := hen.ent _ hx
    have he := hx.2 _ (List.getElem_mem hi)
    simp only [impl_treeFault_l1.B, impl_size_Inode, cond_tt, toNat_cast, Option.bind_some, lt_dec hi, inB_lt hi, getD_lt _ hi, w64_succ (by omega : i < 4294967296), entBad]
    by_cases hh : (x.2.2.2.2.1[i]).2.1 ≥ (f.1.length : Int)
    · rw [show decide ((x.2.2.2.2.1[i]).2.1 ≥ (f.1.length : Int)) = true by simp [hh]]; rfl
    · rw [show decide ((x.2.2.2.2.1[i]).2.1 ≥ (f.1.length : Int)) = false by simp; omega, show inB (x.2.2.2.2.1[i]).2.1 f.1.length = true from inB_ok he.1 (by omega)]
      rfl) (by
    simp only [impl_treeFault_l1.B, ge_dec (Nat.le_refl _), cond_ff])
theorem impl_treeFault_eq (f : Fs_) (hb : Bd tFs_ f) : impl_treeFault f = some (treeF f) := by
  simp only [impl_treeFault, treeF, impl_rootFault_eq f hb, Option.bind_some]
  cases hi : (rootF f != 0) with
  | true => simp only [cond_tt]
  | false =>
    have h0 : rootF f = 0 := by simpa using hi
    obtain ⟨g1, g2, g3, g4⟩ := rootF_ok h0
    have hok := InOk.of g1
    have hen := EntOk.of g1
    have h1 : slices_ContainsFunc_Sbyte_treeFault_c1 f.2.1 () = some (f.2.1.any fun b => decide ((b.length : Int) > 8)) := by
      have h : slices_IndexFunc_Sbyte_treeFault_c1_l0 f.2.1 () (f.2.1.length : Int) 0 = _ := loop_idx f.2.1 (fun b => decide ((b.length : Int) > 8)) (fun i hi => by
        simp only [slices_IndexFunc_Sbyte_treeFault_c1_l0.B, lt_dec hi, inB_lt hi, cond_tt, toNat_cast, getD_lt _ hi, impl_treeFault_c1, Option.bind_some, w64_succ (by omega : i < 4294967296)]) (by
        simp only [slices_IndexFunc_Sbyte_treeFault_c1_l0.B, ge_dec (Nat.le_refl _), cond_ff]) 0 (Nat.zero_le _)
      simp only [slices_ContainsFunc_Sbyte_treeFault_c1, slices_IndexFunc_Sbyte_treeFault_c1]
      rw [idx_contains' _ _ h, List.drop_zero]
    have h2 : impl_treeFault_l0 f f.1 (f.1.length : Int) 0 = _ := loop_any f.1 (fun x => x.2.2.2.2.1.any (entBad f.1)) (4 : Int) (fun i hi => by
      have hl := hok.len
      simp only [impl_treeFault_l0.B, lt_dec hi, inB_lt hi, cond_tt, toNat_cast, getD_lt _ hi, Option.bind_some, impl_treeFault_l1_eq f hok hen _ _ _ (List.getElem_mem hi), w64_succ (by omega : i < 4294967296)]
      cases (f.1[i].2.2.2.2.1.any (entBad f.1)) <;> rfl) (by
      simp only [impl_treeFault_l0.B, ge_dec (Nat.le_refl _), cond_ff])
    simp only [cond_ff, h1, h2, Option.bind_some, impl_usedBlocks_eq f.1 hok]
    cases f.2.1.any fun b => decide ((b.length : Int) > 8)
    · simp only [cond_ff]
      cases onceF f.1
      · rfl
      · simp only [Bool.not_true, cond_ff]
        cases f.1.any fun x => x.2.2.2.2.1.any (entBad f.1) <;> rfl
    · rfl
/-- what a tree that is right so far has -/
structure TreeOk (f : Fs_) : Prop where
  inod : inodesF f.1 = 0
  pos : 0 < f.1.length
  root : (f.1.getD 0 zInode_).1 = 2
  dat : f.2.1.length = 20
  dl : ∀ b ∈ f.2.1, b.length ≤ 8
  once : onceF f.1 = true
  ent : ∀ x ∈ f.1, ∀ e ∈ x.2.2.2.2.1, 0 ≤ e.2.1 ∧ e.2.1 < (f.1.length : Int) ∧ (f.1.getD e.2.1.toNat zInode_).1 ≠ 0
theorem TreeOk.of {f : Fs_} (h : treeF f = 0) : TreeOk f := by
  unfold treeF at h
  cases hi : (rootF f != 0) with
  | true => rw [hi] at h; exact absurd h (by simpa using hi)
  | false =>
    rw [hi] at h
    obtain ⟨g1, g2, g3, g4⟩ := rootF_ok (by simpa using hi : rootF f = 0)
    cases h1 : (f.2.1.any fun b => decide ((b.length : Int) > 8)) with
    | true => rw [h1] at h; cases h
    | false =>
      rw [h1] at h
      cases h2 : onceF f.1 with
      | false => rw [h2] at h; cases h
      | true =>
        rw [h2] at h
        cases h3 : (f.1.any fun x => x.2.2.2.2.1.any (entBad f.1)) with
        | true => rw [h3] at h; cases h
        | false =>
          refine ⟨g1, g2, g3, g4, fun b hb => ?_, h2, fun x hx e he => ?_⟩
          · have := List.any_eq_false.1 h1 b hb
            simp at this; omega
          · have hh := List.any_eq_false.1 h3 x hx
            have hh2 : (x.2.2.2.2.1.any (entBad f.1)) = false := by simpa using hh
            have hb := List.any_eq_false.1 hh2 e he
            have hb2 : entBad f.1 e = false := by simpa using hb
            have h0 := ((EntOk.of g1).ent x hx).2 e he
            unfold entBad at hb2
            cases h4 : decide (e.2.1 ≥ (f.1.length : Int)) with
            | true => rw [h4] at hb2; cases hb2
            | false =>
              rw [h4] at hb2
              exact ⟨h0.1, by simp at h4; omega, by simpa using hb2⟩
abbrev entsOf (l : List Inode_) (a : Nat) : List Entry_ := (l.getD a zInode_).2.2.2.2.1
inductive Reach (l : List Inode_) (s : Nat) : Nat → Prop
  | refl : Reach l s s
  | step {a b : Nat} : Reach l s a → (∃ e ∈ entsOf l a, e.2.1 = (b : Int)) → Reach l s b
/-- each entry leads to a place that there is -/
def EntIn (l : List Inode_) : Prop := ∀ x ∈ l, x.2.2.2.2.1.length ≤ 6 ∧ ∀ e ∈ x.2.2.2.2.1, 0 ≤ e.2.1 ∧ e.2.1 < (l.length : Int)
theorem TreeOk.entIn {f : Fs_} (h : TreeOk f) : EntIn f.1 := fun x hx => ⟨((EntOk.of h.inod).ent x hx).1, fun e he => ⟨(h.ent x hx e he).1, (h.ent x hx e he).2.1⟩⟩
theorem entsOf_mem {l : List Inode_} (h : EntIn l) {a : Nat} {e : Entry_} (he : e ∈ entsOf l a) : 0 ≤ e.2.1 ∧ e.2.1 < (l.length : Int) := by
  unfold entsOf at he
  by_cases ha : a < l.length
  · rw [getD_lt _ ha] at he; exact (h _ (List.getElem_mem ha)).2 e he
  · rw [List.getD_eq_getElem?_getD, List.getElem?_eq_none (by omega)] at he; cases he
theorem Reach.lt {l : List Inode_} (h : EntIn l) {s a : Nat} (hs : s < l.length) (hr : Reach l s a) : a < l.length := by
  induction hr with
  | refl => exact hs
  | step _ he _ => obtain ⟨e, he, h2⟩ := he; have := entsOf_mem h he; omega
abbrev on (b : List Bool) (i : Nat) : Prop := b.getD i false = true
theorem on_set {b : List Bool} {i j : Nat} : on (b.set i true) j ↔ on b j ∨ (i = j ∧ i < b.length) := by
  unfold on
  rw [List.getD_eq_getElem?_getD, List.getD_eq_getElem?_getD, List.getElem?_set]
  by_cases e : i = j
  · subst e
    by_cases h : i < b.length
    · simp [h]
    · simp [h]
  · simp [e]
theorem on_lt {b : List Bool} {i : Nat} (h : on b i) : i < b.length := by
  unfold on at h
  by_cases hh : i < b.length
  · exact hh
  · rw [List.getD_eq_getElem?_getD, List.getElem?_eq_none (by omega)] at h; cases h
theorem set_on {b : List Bool} {i : Nat} (h : on b i) : b.set i true = b := by
  have hl := on_lt h
  unfold on at h
  rw [getD_lt _ hl] at h
  conv => lhs; rw [← h]
  exact List.set_getElem_self hl
def markE (b : List Bool) (es : List Entry_) : List Bool := es.foldl (fun b e => b.set e.2.1.toNat true) b
theorem markE_len : ∀ (es : List Entry_) (b : List Bool), (markE b es).length = b.length
  | [], b => rfl
  | e :: es, b => by simp only [markE, List.foldl_cons]; exact (markE_len es _).trans (by simp)
theorem markE_on : ∀ (es : List Entry_) (b : List Bool) (j : Nat), on (markE b es) j ↔ on b j ∨ (j < b.length ∧ ∃ e ∈ es, e.2.1.toNat = j)
  | [], b, j => by simp [markE]
  | e :: es, b, j => by
    have ih := markE_on es (b.set e.2.1.toNat true) j
    have : on (markE b (e :: es)) j ↔ on (markE (b.set e.2.1.toNat true) es) j := Iff.rfl
    rw [this, ih, on_set, List.length_set]
    constructor
    · rintro ((h | ⟨h1, h2⟩) | ⟨h1, e', h2, h3⟩)
      · exact .inl h
      · exact .inr ⟨by omega, e, List.mem_cons_self .., h1⟩
      · exact .inr ⟨h1, e', List.mem_cons_of_mem _ h2, h3⟩
    · rintro (h | ⟨h1, e', h2, h3⟩)
      · exact .inl (.inl h)
      · rcases List.mem_cons.1 h2 with rfl | h2
        · exact .inl (.inr ⟨h3, by omega⟩)
        · exact .inr ⟨h1, e', h2, h3⟩
theorem markE_same : ∀ (es : List Entry_) (b : List Bool), (∀ e ∈ es, on b e.2.1.toNat) → markE b es = b
  | [], b, h => rfl
  | e :: es, b, h => by
    simp only [markE, List.foldl_cons]
    rw [set_on (h e (List.mem_cons_self ..))]
    exact markE_same es b fun x hx => h x (List.mem_cons_of_mem _ hx)
def roundN (l : List Inode_) : List Nat → List Bool → List Bool
  | [], b => b
  | i :: is, b => roundN l is (cond (b.getD i false) (markE b (entsOf l i)) b)
def ClosedB (l : List Inode_) (b : List Bool) : Prop := ∀ i, on b i → ∀ e ∈ entsOf l i, on b e.2.1.toNat
def SoundB (l : List Inode_) (s : Nat) (b : List Bool) : Prop := ∀ j, on b j → Reach l s j
theorem roundN_len (l : List Inode_) : ∀ (is : List Nat) (b : List Bool), (roundN l is b).length = b.length
  | [], b => rfl
  | i :: is, b => by simp only [roundN]; rw [roundN_len l is]; cases b.getD i false <;> simp [markE_len]
theorem roundN_mono (l : List Inode_) : ∀ (is : List Nat) (b : List Bool) (j : Nat), on b j → on (roundN l is b) j
  | [], b, j, h => h
  | i :: is, b, j, h => by
    refine roundN_mono l is _ j ?_
    cases b.getD i false
    · exact h
    · exact (markE_on _ _ _).2 (.inl h)
theorem roundN_sound {l : List Inode_} (hl : EntIn l) {s : Nat} : ∀ (is : List Nat) (b : List Bool), SoundB l s b → SoundB l s (roundN l is b)
  | [], b, h => h
  | i :: is, b, h => by
    refine roundN_sound hl is _ ?_
    cases hi : b.getD i false
    · exact h
    · intro j hj
      rcases (markE_on _ _ _).1 hj with hj | ⟨_, e, he, h2⟩
      · exact h j hj
      · have := entsOf_mem hl he
        exact .step (h i hi) ⟨e, he, by omega⟩
theorem roundN_next {l : List Inode_} : ∀ (is : List Nat) (b : List Bool) (i : Nat), i ∈ is → on b i → ∀ e ∈ entsOf l i, e.2.1.toNat < b.length → on (roundN l is b) e.2.1.toNat
  | k :: is, b, i, hi, hb, e, he, hlt => by
    rcases List.mem_cons.1 hi with rfl | hi
    · refine roundN_mono l is _ _ ?_
      rw [hb]
      exact (markE_on _ _ _).2 (.inr ⟨hlt, e, he, rfl⟩)
    · refine roundN_next is _ i hi ?_ e he ?_
      · cases b.getD k false
        · exact hb
        · exact (markE_on _ _ _).2 (.inl hb)
      · cases b.getD k false
        · exact hlt
        · simpa [markE_len] using hlt
theorem roundN_closed {l : List Inode_} : ∀ (is : List Nat) (b : List Bool), ClosedB l b → roundN l is b = b
  | [], b, h => rfl
  | i :: is, b, h => by
    simp only [roundN]
    cases hi : b.getD i false
    · exact roundN_closed is b h
    · simp only [cond_tt]
      rw [markE_same _ _ (h i hi)]; exact roundN_closed is b h
theorem cnt_le : ∀ (b c : List Bool), b.length = c.length → (∀ j, on b j → on c j) → b.count true ≤ c.count true
  | [], [], _, _ => Nat.le_refl _
  | x :: b, y :: c, hl, h => by
    have ih := cnt_le b c (by simpa using hl) fun j hj => h (j + 1) hj
    have h0 := h 0
    simp only [List.count_cons]
    cases x <;> cases y <;> simp [on] at h0 ⊢ <;> omega
theorem cnt_lt : ∀ (b c : List Bool), b.length = c.length → (∀ j, on b j → on c j) → (∃ j, on c j ∧ ¬ on b j) → b.count true < c.count true
  | [], [], _, _, ⟨j, h, _⟩ => by have := on_lt h; simp at this
  | x :: b, y :: c, hl, h, ⟨j, h1, h2⟩ => by
    have h0 := h 0
    simp only [List.count_cons]
    cases j with
    | zero =>
      have ih := cnt_le b c (by simpa using hl) fun j hj => h (j + 1) hj
      cases x <;> cases y <;> simp [on] at h1 h2 h0 ⊢ <;> omega
    | succ j =>
      have ih := cnt_lt b c (by simpa using hl) (fun j hj => h (j + 1) hj) ⟨j, h1, h2⟩
      cases x <;> cases y <;> simp [on] at h0 ⊢ <;> omega
def roundsN (l : List Inode_) : Nat → List Bool → List Bool
  | 0, b => b
  | n + 1, b => roundsN l n (roundN l (List.range l.length) b)
theorem rounds_closed {l : List Inode_} (hl : EntIn l) : ∀ (n : Nat) (b : List Bool), b.length = l.length → l.length ≤ n + b.count true → ClosedB l (roundsN l n b) ∧ (roundsN l n b).length = l.length ∧ (∀ j, on b j → on (roundsN l n b) j) ∧ ∀ s, SoundB l s b → SoundB l s (roundsN l n b)
  | 0, b, hb, hn => by
    refine ⟨fun i hi e he => ?_, hb, fun _ h => h, fun _ h => h⟩
    have hall : b.count true = b.length := by have := List.count_le_length (a := true) (l := b); omega
    have hlt := (entsOf_mem hl he)
    have : b.getD e.2.1.toNat false = b[e.2.1.toNat]'(by omega) := getD_lt _ _
    show b.getD e.2.1.toNat false = true
    rw [this]
    exact (List.count_eq_length.1 hall _ (List.getElem_mem _)).symm
  | n + 1, b, hb, hn => by
    simp only [roundsN]
    have hlen := roundN_len l (List.range l.length) b
    by_cases hc : ClosedB l b
    · rw [roundN_closed _ _ hc]
      have : ∀ n, roundsN l n b = b := by
        intro n
        induction n with
        | zero => rfl
        | succ n ih => simp only [roundsN]; rw [roundN_closed _ _ hc]; exact ih
      rw [this]
      exact ⟨hc, hb, fun _ h => h, fun _ h => h⟩
    · obtain ⟨i, h1, e, h2, h3⟩ : ∃ i, on b i ∧ ∃ e ∈ entsOf l i, ¬ on b e.2.1.toNat := by
        unfold ClosedB at hc
        simp only [Classical.not_forall] at hc
        obtain ⟨i, h1, e, h2, h3⟩ := hc
        exact ⟨i, h1, e, h2, h3⟩
      have hlt := entsOf_mem hl h2
      have hi := on_lt h1
      have hs := cnt_lt b _ hlen.symm (roundN_mono l _ b) ⟨_, roundN_next (List.range l.length) b i (List.mem_range.2 (by omega)) h1 e h2 (by omega), h3⟩
      obtain ⟨q1, q2, q3, q4⟩ := rounds_closed hl n _ (by omega) (by omega : l.length ≤ n + (roundN l (List.range l.length) b).count true)
      exact ⟨q1, q2, fun j hj => q3 j (roundN_mono l _ b j hj), fun s hs => q4 s (roundN_sound hl _ _ hs)⟩
open Classical in
noncomputable def reachF (l : List Inode_) (s : Nat) : List Int := ((List.range l.length).filter fun i => decide (Reach l s i)).map Int.ofNat
theorem reachF_mem {l : List Inode_} (hl : EntIn l) {s : Nat} (hs : s < l.length) {a : Nat} : (a : Int) ∈ reachF l s ↔ Reach l s a := by
  unfold reachF
  simp only [List.mem_map, List.mem_filter, List.mem_range, decide_eq_true_eq]
  constructor
  · rintro ⟨i, ⟨_, h⟩, e⟩
    have : i = a := Int.ofNat.inj e
    subst this; exact h
  · intro h; exact ⟨a, ⟨h.lt hl hs, h⟩, rfl⟩
theorem reachF_bnd {l : List Inode_} {s : Nat} {v : Int} (h : v ∈ reachF l s) : 0 ≤ v ∧ v < (l.length : Int) := by
  unfold reachF at h
  simp only [List.mem_map, List.mem_filter, List.mem_range] at h
  obtain ⟨i, ⟨h1, _⟩, rfl⟩ := h
  simp; omega
theorem reachF_len (l : List Inode_) (s : Nat) : (reachF l s).length ≤ l.length := by
  unfold reachF
  rw [List.length_map]
  exact Nat.le_trans (List.length_filter_le _ _) (by simp)
open Classical in
theorem reach_list {l : List Inode_} {s : Nat} {b : List Bool} (hb : b.length = l.length) (hc : ClosedB l b) (hs : SoundB l s b) (h0 : on b s) : ((List.range b.length).filter fun i => b.getD i false).map Int.ofNat = reachF l s := by
  unfold reachF
  rw [hb]
  congr 1
  refine List.filter_congr fun i hi => ?_
  clear hi
  rw [Bool.eq_iff_iff, decide_eq_true_eq]
  constructor
  · exact hs i
  · intro h
    induction h with
    | refl => exact h0
    | step _ he ih => obtain ⟨e, he, h2⟩ := he; have := hc _ ih e he; rw [h2] at this; exact this
/-- the places that are on -/
theorem onList (b : List Bool) {f : Int × List Int → Option ((Int × List Int) ⊕ List Int)} (hl : b.length ≤ 1000)
    (hs : ∀ (i : Nat) (h : i < b.length) (t : List Int), t.length ≤ i → f ((i : Int), t) = cond b[i] (some (.inl (((i + 1 : Nat) : Int), t ++ [(i : Int)]))) (some (.inl (((i + 1 : Nat) : Int), t)))) (he : ∀ t, f ((b.length : Int), t) = some (.inr t)) :
    loopL f (0, []) = some (((List.range b.length).filter fun i => b.getD i false).map Int.ofNat) := by
  have h := loop_listI0 (τ := List Int) b (f := f) (fun i t => ((i : Int), t)) (fun i x t => .inl (cond x (t ++ [(i : Int)]) t)) id (fun i t => t.length ≤ i)
    (fun i hi t ht => by rw [hs i hi t ht]; cases b[i] <;> rfl) (fun i hi t t' ht e => by cases e; cases b[i] <;> simp <;> omega) (fun t ht => he t) [] (by simp) (s := (0, [])) rfl
  rw [h]
  congr 1
  clear h hs he hl
  have : ∀ (m : List Bool) (n : Nat) (t : List Int), foldE (fun i x t => .inl (cond x (t ++ [(i : Int)]) t)) id n m t = t ++ ((List.range' n m.length).filter fun i => m.getD (i - n) false).map Int.ofNat := by
    intro m
    induction m with
    | nil => intro n t; simp [foldE]
    | cons x m ih =>
      intro n t
      simp only [foldE, sel_inl]
      rw [ih, List.length_cons, List.range'_succ, List.filter_cons]
      have e : (List.range' (n + 1) m.length).filter (fun i => (x :: m).getD (i - n) false) = (List.range' (n + 1) m.length).filter (fun i => m.getD (i - (n + 1)) false) := by
        refine List.filter_congr fun i hi => ?_
        have := (List.mem_range'_1.1 hi).1
        rw [show i - n = (i - (n + 1)) + 1 by omega]; rfl
      rw [e]
      cases x <;> simp
  rw [this b 0 [], List.nil_append, List.range_eq_range']
  rfl
theorem spec_l6Reach_l2_eq (f : Fs_) (hl : EntIn f.1) (hn : f.1.length ≤ 10) (rd : Int) (i : Nat) (hi : i < f.1.length) (b : List Bool) (hb : b.length = f.1.length) : spec_l6Reach_l2 f rd (i : Int) (0, b) = some (cond (b.getD i false) (markE b (entsOf f.1 i)) b) := by
  have hx := hl _ (List.getElem_mem hi)
  have he : entsOf f.1 i = f.1[i].2.2.2.2.1 := by unfold entsOf; rw [getD_lt _ hi]
  cases h0 : b.getD i false with
  | false =>
    refine loopL_done ?_
    simp only [spec_l6Reach_l2.B, inB_lt (by omega : i < b.length), cond_tt, toNat_cast, h0, cond_ff, Option.bind_some]
  | true =>
    rw [he]
    have h := loop_foldI f.1[i].2.2.2.2.1 (f := fun s => spec_l6Reach_l2.B f rd (i : Int) s.1 s.2) (fun (b : List Bool) e => b.set e.2.1.toNat true) id (fun k c => c.length = f.1.length ∧ on c i) (fun k hk c hc => by
      have hek := hx.2 _ (List.getElem_mem hk)
      refine ⟨?_, by simpa using hc.1, on_set.2 (.inl hc.2)⟩
      have h1 : c.getD i false = true := hc.2
      simp only [spec_l6Reach_l2.B, inB_lt (by omega : i < c.length), cond_tt, toNat_cast, h1, inB_lt hi, getD_lt _ hi, lt_dec hk, Option.bind_some, inB_lt hk, getD_lt _ hk, w64_succ (by omega : k < 4294967296)]
      rw [show inB (f.1[i].2.2.2.2.1[k]).2.1 c.length = true from inB_ok hek.1 (by omega)]; rfl) (fun c hc => by
      have h1 : c.getD i false = true := hc.2
      simp only [spec_l6Reach_l2.B, inB_lt (by omega : i < c.length), cond_tt, toNat_cast, h1, inB_lt hi, getD_lt _ hi, ge_dec (Nat.le_refl _), Option.bind_some, cond_ff, id]) b ⟨hb, h0⟩
    exact h
theorem spec_l6Reach_l1_eq (f : Fs_) (hl : EntIn f.1) (hn : f.1.length ≤ 10) (rd : Int) (b : List Bool) (hb : b.length = f.1.length) : spec_l6Reach_l1 f rd (0, b) = some (roundN f.1 (List.range f.1.length) b) := by
  have h := loop_listI0 (τ := List Bool) f.1 (f := fun s => spec_l6Reach_l1.B f rd s.1 s.2) (fun i b => ((i : Int), b)) (fun i x b => .inl (cond (b.getD i false) (markE b (entsOf f.1 i)) b)) id (fun i b => b.length = f.1.length)
    (fun i hi c hc => by
      simp only [spec_l6Reach_l1.B, lt_dec hi, cond_tt, spec_l6Reach_l2_eq f hl hn rd i hi c hc, Option.bind_some, w64_succ (by omega : i < 4294967296), sel]) (fun i hi c c' hc e => by cases e; cases c.getD i false <;> simp [markE_len, hc]) (fun c hc => by
      simp only [spec_l6Reach_l1.B, ge_dec (Nat.le_refl _), cond_ff, id]) b hb (s := (0, b)) rfl
  refine Eq.trans h ?_
  congr 1
  have : ∀ (m : List Inode_) (n : Nat) (b : List Bool), foldE (fun i (x : Inode_) b => .inl (cond (b.getD i false) (markE b (entsOf f.1 i)) b)) id n m b = roundN f.1 (List.range' n m.length) b := by
    intro m
    induction m with
    | nil => intro n b; rfl
    | cons x m ih => intro n b; simp only [foldE, sel_inl, List.length_cons, List.range'_succ, roundN]; exact ih _ _
  rw [this, List.range_eq_range']
theorem spec_l6Reach_eq (f : Fs_) (hl : EntIn f.1) (hn : f.1.length ≤ 10) (h0 : 0 < f.1.length) : spec_l6Reach f = some (reachF f.1 0) := by
  have hz : (List.replicate f.1.length false).length = f.1.length := by simp
  let b0 := (List.replicate f.1.length false).set 0 true
  have hb0 : b0.length = f.1.length := by simp [b0]
  have hon : on b0 0 := on_set.2 (.inr ⟨rfl, by omega⟩)
  have hcnt : 1 ≤ b0.count true := by
    have : true ∈ b0 := by
      have h1 : b0[0]'(by omega) = true := by rw [← getD_lt false (by omega : 0 < b0.length)]; exact hon
      rw [← h1]; exact List.getElem_mem _
    exact List.count_pos_iff.2 this
  have hsnd : SoundB f.1 0 b0 := by
    intro j hj
    rcases on_set.1 hj with h | ⟨rfl, _⟩
    · unfold on at h; rw [List.getD_eq_getElem?_getD, List.getElem?_replicate] at h; split at h <;> simp at h
    · exact .refl
  obtain ⟨q1, q2, q3, q4⟩ := rounds_closed hl f.1.length b0 hb0 (by omega)
  have h1 : spec_l6Reach_l0 f (0, b0) = some (roundsN f.1 f.1.length b0) := by
    have h := loop_listI0 (τ := List Bool) f.1 (f := fun s => spec_l6Reach_l0.B f s.1 s.2) (fun i b => ((i : Int), b)) (fun i x b => .inl (roundN f.1 (List.range f.1.length) b)) id (fun i b => b.length = f.1.length)
      (fun i hi c hc => by
        simp only [spec_l6Reach_l0.B, lt_dec hi, cond_tt, spec_l6Reach_l1_eq f hl hn i c hc, Option.bind_some, w64_succ (by omega : i < 4294967296), sel]) (fun i hi c c' hc e => by cases e; rw [roundN_len, hc]) (fun c hc => by
        simp only [spec_l6Reach_l0.B, ge_dec (Nat.le_refl _), cond_ff, id]) b0 hb0 (s := (0, b0)) rfl
    refine Eq.trans h ?_
    congr 1
    have : ∀ (m : List Inode_) (n : Nat) (b : List Bool), foldE (fun i (x : Inode_) b => .inl (roundN f.1 (List.range f.1.length) b)) id n m b = roundsN f.1 m.length b := by
      intro m
      induction m with
      | nil => intro n b; rfl
      | cons x m ih => intro n b; simp only [foldE, sel_inl, List.length_cons, roundsN]; exact ih _ _
    exact this _ _ _
  have h3 : spec_l6Reach_l3 (roundsN f.1 f.1.length b0) (0, []) = some (reachF f.1 0) := by
    have h := onList (roundsN f.1 f.1.length b0) (f := fun s => spec_l6Reach_l3.B (roundsN f.1 f.1.length b0) s.1 s.2) (by omega) (fun i hi t ht => by
      simp only [spec_l6Reach_l3.B, lt_dec hi, inB_lt hi, cond_tt, toNat_cast, getD_lt _ hi, w64_succ (by omega : i < 4294967296)]
      rw [dlen (by simp; omega)]; rfl) (fun t => by
      simp only [spec_l6Reach_l3.B, ge_dec (Nat.le_refl _), cond_ff])
    refine Eq.trans h ?_
    rw [reach_list q2 q1 (q4 0 hsnd) (q3 0 hon)]
  simp only [spec_l6Reach]
  rw [show (decide ((0 : Int) ≤ (f.1.length : Int)) && (decide ((f.1.length : Int) ≤ (f.1.length : Int)) && decide ((f.1.length : Int) ≤ 2147483648))) = true by simp; omega]
  rw [show ((f.1.length : Int)).toNat = f.1.length from toNat_cast _, hz, show inB 0 f.1.length = true from inB_lt (i := 0) h0]
  simp only [cond_tt, Option.bind_some, show (0 : Int).toNat = 0 from rfl]
  rw [show (List.replicate f.1.length false).set 0 true = b0 from rfl, h1]
  simp only [Option.bind_some, h3]
theorem cnt_set : ∀ (b : List Bool) (i : Nat), i < b.length → b.getD i false = false → (b.set i true).count false + 1 = b.count false
  | x :: b, 0, h, hf => by
    have : x = false := by simpa using hf
    subst this; simp
  | x :: b, i + 1, h, hf => by
    have ih := cnt_set b i (by simpa using h) (by simpa using hf)
    simp only [List.set_cons_succ, List.count_cons]
    omega
theorem impl_reachOf_l1_eq (l : List Inode_) (es : List Entry_) (v2 : Int) (hv : v2 = (es.length : Int)) (seen : List Bool) (op : List Int) (h6 : es.length ≤ 6) (ho : op.length ≤ 1000) : impl_reachOf_l1 l es v2 seen (0, op) = some (op ++ es.map fun e => e.2.1) := by
  subst hv
  exact loop_mapI es (f := fun s => impl_reachOf_l1.B l es (es.length : Int) seen s.1 s.2) (fun e => e.2.1) id op.length (fun i hi t ht => by
    simp only [impl_reachOf_l1.B, lt_dec hi, inB_lt hi, cond_tt, toNat_cast, getD_lt _ hi, w64_succ (by omega : i < 4294967296)]
    rw [dlen (by simp; omega)]; rfl) (fun t ht => by
    simp only [impl_reachOf_l1.B, ge_dec (Nat.le_refl _), cond_ff, id]) op rfl
theorem getLast_split {op : List Int} (h : 0 < op.length) : op.take (op.length - 1) ++ [op.getD (op.length - 1) 0] = op := by
  have h1 : op.length - 1 < op.length := by omega
  rw [getD_lt _ h1]
  have := List.take_append_drop (op.length - 1) op
  rw [List.drop_eq_getElem_cons h1, show op.length - 1 + 1 = op.length by omega, List.drop_length] at this
  exact this
theorem impl_reachOf_l0_eq {l : List Inode_} (hl : EntIn l) (hn : l.length ≤ 10) (s : Nat) (hs : s < l.length) : ∀ (m : Nat) (seen : List Bool) (op : List Int), 7 * seen.count false + op.length ≤ m → m ≤ 100 → seen.length = l.length → SoundB l s seen →
    (∀ v ∈ op, ∃ a : Nat, v = (a : Int) ∧ Reach l s a) → (∀ i, on seen i → ∀ e ∈ entsOf l i, on seen e.2.1.toNat ∨ e.2.1 ∈ op) →
    ∃ b, impl_reachOf_l0 l (seen, op) = some b ∧ b.length = l.length ∧ ClosedB l b ∧ SoundB l s b ∧ (∀ j, on seen j → on b j) ∧ ∀ v ∈ op, on b v.toNat
  | m, seen, op, hm, hm2, h1, h2, h3, h4 => by
    by_cases ho : op.length = 0
    · have : op = [] := List.length_eq_zero_iff.1 ho
      subst this
      refine ⟨seen, loopL_done ?_, h1, fun i hi e he => ?_, h2, fun _ h => h, fun v hv => by cases hv⟩
      · simp only [impl_reachOf_l0.B]; rfl
      · rcases h4 i hi e he with h | h
        · exact h
        · cases h
    · have hpos : 0 < op.length := by omega
      have hw : w64 ((op.length : Int) - 1) = ((op.length - 1 : Nat) : Int) := by rw [w64_id (by omega) (by omega)]; omega
      have hsp := getLast_split hpos
      generalize hv : op.getD (op.length - 1) 0 = v at hsp
      generalize hq : op.take (op.length - 1) = q at hsp
      have hql : q.length = op.length - 1 := by rw [← hq]; simp
      obtain ⟨a, rfl, ha⟩ := h3 v (by rw [← hsp]; simp)
      have hal := ha.lt hl hs
      have hB : impl_reachOf_l0.B l seen op = cond (seen.getD a false) (some (.inl (seen, q))) (some (.inl (seen.set a true, q ++ (entsOf l a).map fun e => e.2.1))) := by
        have e6 : (entsOf l a).length ≤ 6 := by unfold entsOf; rw [getD_lt _ hal]; exact (hl _ (List.getElem_mem hal)).1
        simp only [impl_reachOf_l0.B, show decide ((op.length : Int) > 0) = true by simp; omega, cond_tt, hw, inB_lt (by omega : op.length - 1 < op.length), toNat_cast, hv, Option.bind_some]
        rw [show (decide ((0 : Int) ≤ ((op.length - 1 : Nat) : Int)) && decide (((op.length - 1 : Nat) : Int) ≤ (op.length : Int))) = true by rw [Bool.and_eq_true, decide_eq_true_eq, decide_eq_true_eq]; omega, List.drop_zero, Nat.sub_zero, hq]
        simp only [cond_tt, inB_lt (by omega : a < seen.length), inB_lt hal, impl_reachOf_l1_eq l (entsOf l a) _ rfl _ q e6 (by omega), Option.bind_some]
      cases hsn : seen.getD a false with
      | true =>
        rw [hsn] at hB
        obtain ⟨b, q1, q2, q3, q4, q5, q6⟩ := impl_reachOf_l0_eq hl hn s hs (m - 1) seen q (by omega) (by omega) h1 h2 (fun v hv => h3 v (by rw [← hsp]; simp [hv])) (fun i hi e he => by
          rcases h4 i hi e he with h | h
          · exact .inl h
          · rw [← hsp] at h
            rcases List.mem_append.1 h with h | h
            · exact .inr h
            · have : e.2.1 = (a : Int) := by simpa using h
              rw [this]; exact .inl hsn)
        refine ⟨b, ?_, q2, q3, q4, q5, fun v hv => ?_⟩
        · unfold impl_reachOf_l0
          rw [loopL_step (f := fun s => impl_reachOf_l0.B l s.1 s.2) (s := (seen, op)) (s' := (seen, q)) hB]; exact q1
        · rw [← hsp] at hv
          rcases List.mem_append.1 hv with h | h
          · exact q6 v h
          · have : v = (a : Int) := by simpa using h
            rw [this]; exact q5 a hsn
      | false =>
        rw [hsn] at hB
        have e6 : (entsOf l a).length ≤ 6 := by unfold entsOf; rw [getD_lt _ hal]; exact (hl _ (List.getElem_mem hal)).1
        have hc := cnt_set seen a (by omega) hsn
        have hon : on (seen.set a true) a := on_set.2 (.inr ⟨rfl, by omega⟩)
        obtain ⟨b, q1, q2, q3, q4, q5, q6⟩ := impl_reachOf_l0_eq hl hn s hs (m - 1) (seen.set a true) (q ++ (entsOf l a).map fun e => e.2.1) (by simp; omega) (by omega) (by simpa using h1) (fun j hj => by
            rcases on_set.1 hj with h | ⟨rfl, _⟩
            · exact h2 j h
            · exact ha) (fun v hv => by
            rcases List.mem_append.1 hv with h | h
            · exact h3 v (by rw [← hsp]; simp [h])
            · obtain ⟨e, he, rfl⟩ := List.mem_map.1 h
              have := entsOf_mem hl he
              exact ⟨e.2.1.toNat, by omega, .step ha ⟨e, he, by omega⟩⟩) (fun i hi e he => by
            rcases on_set.1 hi with h | ⟨rfl, _⟩
            · rcases h4 i h e he with h | h
              · exact .inl (on_set.2 (.inl h))
              · rw [← hsp] at h
                rcases List.mem_append.1 h with h | h
                · exact .inr (List.mem_append_left _ h)
                · have : e.2.1 = (a : Int) := by simpa using h
                  rw [this]; exact .inl hon
            · exact .inr (List.mem_append_right _ (List.mem_map.2 ⟨e, he, rfl⟩)))
        refine ⟨b, ?_, q2, q3, q4, fun j hj => q5 j (on_set.2 (.inl hj)), fun v hv => ?_⟩
        · unfold impl_reachOf_l0
          rw [loopL_step (f := fun s => impl_reachOf_l0.B l s.1 s.2) (s := (seen, op)) (s' := (seen.set a true, q ++ (entsOf l a).map fun e => e.2.1)) hB]; exact q1
        · rw [← hsp] at hv
          rcases List.mem_append.1 hv with h | h
          · exact q6 v (List.mem_append_left _ h)
          · have : v = (a : Int) := by simpa using h
            rw [this]; exact q5 a hon
termination_by m => m
decreasing_by all_goals omega
theorem impl_reachOf_eq {l : List Inode_} (hl : EntIn l) (hn : l.length ≤ 10) (s : Nat) (hs : s < l.length) : impl_reachOf l (s : Int) = some (reachF l s) := by
  obtain ⟨b, q1, q2, q3, q4, _, q6⟩ := impl_reachOf_l0_eq hl hn s hs 71 (List.replicate l.length false) [(s : Int)] (by simp; omega) (by omega) (by simp) (fun j hj => by
      unfold on at hj; rw [List.getD_eq_getElem?_getD, List.getElem?_replicate] at hj; split at hj <;> simp at hj) (fun v hv => ⟨s, by simpa using hv, .refl⟩) (fun j hj => by
      unfold on at hj; rw [List.getD_eq_getElem?_getD, List.getElem?_replicate] at hj; split at hj <;> simp at hj)
  have h2 : impl_reachOf_l2 (b.length : Int) b (0, []) = some (reachF l s) := by
    have h := onList b (f := fun s => impl_reachOf_l2.B (b.length : Int) b s.1 s.2) (by omega) (fun i hi t ht => by
      simp only [impl_reachOf_l2.B, lt_dec hi, inB_lt hi, cond_tt, toNat_cast, getD_lt _ hi, w64_succ (by omega : i < 4294967296)]
      rw [dlen (by simp; omega)]; rfl) (fun t => by
      simp only [impl_reachOf_l2.B, ge_dec (Nat.le_refl _), cond_ff])
    refine Eq.trans h ?_
    rw [reach_list q2 q3 q4 (q6 _ (List.mem_cons_self ..))]
  simp only [impl_reachOf]
  rw [show (decide ((0 : Int) ≤ (l.length : Int)) && (decide ((l.length : Int) ≤ (l.length : Int)) && decide ((l.length : Int) ≤ 2147483648))) = true by simp; omega, show ((l.length : Int)).toNat = l.length from toNat_cast _]
  simp only [cond_tt, q1, Option.bind_some, h2]
def allE (l : List Inode_) : List Int := l.flatMap fun x => x.2.2.2.2.1.map fun e => e.2.1
def linksF (l : List Inode_) (a : Int) : Int := (((allE l).count a : Nat) : Int)
theorem cnt_fold (a : Int) : ∀ (l : List Entry_) (m : Nat), l.foldl (fun t e => t + (if e.2.1 == a then 1 else 0)) m = m + (l.map fun e => e.2.1).count a
  | [], m => by simp
  | y :: l, m => by rw [List.foldl_cons, cnt_fold a l, List.map_cons, List.count_cons]; omega
theorem spec_l5Links_eq (l : List Inode_) (hl : ∀ x ∈ l, x.2.2.2.2.1.length ≤ 6) (hn : l.length ≤ 10) (a : Int) : spec_l5Links l a = some (linksF l a) := by
  have h1 : ∀ (i : Nat) (hi : i < l.length) (n : Nat), n ≤ 1000 → spec_l5Links_l1 l a (i : Int) ((n : Int), 0) = some (((n + (l[i].2.2.2.2.1.map fun e => e.2.1).count a : Nat) : Int)) := by
    intro i hi n hn
    have h6 := hl _ (List.getElem_mem hi)
    have h := loop_listI0 (τ := Nat) l[i].2.2.2.2.1 (f := fun s => spec_l5Links_l1.B l a (i : Int) s.1 s.2) (fun k m => ((m : Int), (k : Int))) (fun _ e m => .inl (m + (if e.2.1 == a then 1 else 0))) (fun m => ((m : Nat) : Int)) (fun k m => m ≤ n + k)
      (fun k hk m hm => by
        simp only [spec_l5Links_l1.B, inB_lt hi, cond_tt, toNat_cast, getD_lt _ hi, Option.bind_some, lt_dec hk, inB_lt hk, getD_lt _ hk, w64_succ (by omega : k < 4294967296), w64_succ (by omega : m < 4294967296), sel]
        cases h : ((l[i].2.2.2.2.1[k]).2.1 == a) <;> simp [h])
      (fun k hk m m' hm e => by cases e; split <;> omega)
      (fun m hm => by
        simp only [spec_l5Links_l1.B, inB_lt hi, cond_tt, toNat_cast, getD_lt _ hi, Option.bind_some, ge_dec (Nat.le_refl _), cond_ff]) n (by omega) (s := ((n : Int), 0)) rfl
    refine Eq.trans h ?_
    rw [foldE_fold, cnt_fold]
  have h := loop_listI0 (τ := Nat) l (f := fun s => spec_l5Links_l0.B l a s.1 s.2) (fun k m => ((m : Int), (k : Int))) (fun _ x m => .inl (m + (x.2.2.2.2.1.map fun e => e.2.1).count a)) (fun m => ((m : Nat) : Int)) (fun k m => m ≤ 6 * k)
    (fun k hk m hm => by
      simp only [spec_l5Links_l0.B, lt_dec hk, cond_tt, h1 k hk m (by omega), Option.bind_some, w64_succ (by omega : k < 4294967296), sel])
    (fun k hk m m' hm e => by cases e; have := hl _ (List.getElem_mem hk); have := List.count_le_length (a := a) (l := l[k].2.2.2.2.1.map fun e => e.2.1); simp at this; omega)
    (fun m hm => by simp only [spec_l5Links_l0.B, ge_dec (Nat.le_refl _), cond_ff]) 0 (by omega) (s := (0, 0)) rfl
  have h' : spec_l5Links_l0 l a (0, 0) = _ := h
  simp only [spec_l5Links, h', Option.bind_some]
  rw [foldE_fold]
  have : ∀ (l : List Inode_) (m : Nat), l.foldl (fun t x => t + (x.2.2.2.2.1.map fun e => e.2.1).count a) m = m + (allE l).count a := by
    intro l
    induction l with
    | nil => intro m; simp [allE]
    | cons y l ih => intro m; rw [List.foldl_cons, ih]; simp only [allE, List.flatMap_cons, List.count_append]; omega
  rw [this, Nat.zero_add]; rfl
theorem impl_linksOf_eq (l : List Inode_) (hl : ∀ x ∈ l, x.2.2.2.2.1.length ≤ 6) (hn : l.length ≤ 10) (a : Int) : impl_linksOf l a = some (linksF l a) := by
  have h1 : ∀ (v v2 : Int) (x : Inode_) (h6 : x.2.2.2.2.1.length ≤ 6) (n : Nat), n ≤ 1000 → impl_linksOf_l1 a l v v2 x.2.2.2.2.1 (x.2.2.2.2.1.length : Int) ((n : Int), 0) = some (((n + (x.2.2.2.2.1.map fun e => e.2.1).count a : Nat) : Int)) := by
    intro v v2 x h6 n hn
    have h := loop_listI0 (τ := Nat) x.2.2.2.2.1 (f := fun s => impl_linksOf_l1.B a l v v2 x.2.2.2.2.1 (x.2.2.2.2.1.length : Int) s.1 s.2) (fun k m => ((m : Int), (k : Int))) (fun _ e m => .inl (m + (if e.2.1 == a then 1 else 0))) (fun m => ((m : Nat) : Int)) (fun k m => m ≤ n + k)
      (fun k hk m hm => by
        simp only [impl_linksOf_l1.B, cond_tt, toNat_cast, Option.bind_some, lt_dec hk, inB_lt hk, getD_lt _ hk, w64_succ (by omega : k < 4294967296), w64_succ (by omega : m < 4294967296), sel]
        cases h : ((x.2.2.2.2.1[k]).2.1 == a) <;> simp [h])
      (fun k hk m m' hm e => by cases e; split <;> omega)
      (fun m hm => by
        simp only [impl_linksOf_l1.B, ge_dec (Nat.le_refl _), cond_ff]) n (by omega) (s := ((n : Int), 0)) rfl
    refine Eq.trans h ?_
    rw [foldE_fold, cnt_fold]
  have h := loop_listI0 (τ := Nat) l (f := fun s => impl_linksOf_l0.B a l (l.length : Int) s.1 s.2) (fun k m => ((m : Int), (k : Int))) (fun _ x m => .inl (m + (x.2.2.2.2.1.map fun e => e.2.1).count a)) (fun m => ((m : Nat) : Int)) (fun k m => m ≤ 6 * k)
    (fun k hk m hm => by
      simp only [impl_linksOf_l0.B, lt_dec hk, inB_lt hk, cond_tt, toNat_cast, getD_lt _ hk, h1 _ _ _ (hl _ (List.getElem_mem hk)) m (by omega), Option.bind_some, w64_succ (by omega : k < 4294967296), sel])
    (fun k hk m m' hm e => by cases e; have := hl _ (List.getElem_mem hk); have := List.count_le_length (a := a) (l := l[k].2.2.2.2.1.map fun e => e.2.1); simp at this; omega)
    (fun m hm => by simp only [impl_linksOf_l0.B, ge_dec (Nat.le_refl _), cond_ff]) 0 (by omega) (s := (0, 0)) rfl
  have h' : impl_linksOf_l0 a l (l.length : Int) (0, 0) = _ := h
  simp only [impl_linksOf, h', Option.bind_some]
  rw [foldE_fold]
  have : ∀ (l : List Inode_) (m : Nat), l.foldl (fun t x => t + (x.2.2.2.2.1.map fun e => e.2.1).count a) m = m + (allE l).count a := by
    intro l
    induction l with
    | nil => intro m; simp [allE]
    | cons y l ih => intro m; rw [List.foldl_cons, ih]; simp only [allE, List.flatMap_cons, List.count_append]; omega
  rw [this, Nat.zero_add]; rfl
/-- what is wrong of the links of one -/
noncomputable def linkBad (l : List Inode_) (i : Nat) (x : Inode_) : Bool :=
  cond (x.1 == 0) false (cond (x.1 == 1) (cond (linksF l i != x.2.1) true (!(reachF l 0).contains (i : Int))) (cond ((i : Int) == 0) (cond (linksF l i != 0) true (!(reachF l 0).contains (i : Int))) (cond (linksF l i != 1) true (!(reachF l 0).contains (i : Int)))))
noncomputable def linksBad (l : List Inode_) : Bool := (List.range l.length).any fun i => linkBad l i (l.getD i zInode_)
theorem loop_anyI {α ρ : Type} (l : List α) (d : α) {f : Int → Option (Int ⊕ (ρ ⊕ Unit))} (p : Nat → α → Bool) (r : ρ)
    (hs : ∀ (i : Nat) (h : i < l.length), f (i : Int) = cond (p i l[i]) (some (.inr (.inl r))) (some (.inl ((i + 1 : Nat) : Int)))) (he : f (l.length : Int) = some (.inr (.inr ()))) :
    loopL f 0 = some (cond ((List.range l.length).any fun i => p i (l.getD i d)) (.inl r) (.inr ())) := by
  refine loop_any (List.range l.length) (fun i => p i (l.getD i d)) r (fun i hi => ?_) (by rw [List.length_range]; exact he)
  have hi' : i < l.length := by simpa using hi
  rw [hs i hi', List.getElem_range, getD_lt _ hi']
theorem spec_l6Links_eq (f : Fs_) (h : TreeOk f) : spec_l6Links f = some (!linksBad f.1) := by
  have hn := (InOk.of h.inod).len
  have h6 : ∀ x ∈ f.1, x.2.2.2.2.1.length ≤ 6 := fun x hx => ((EntOk.of h.inod).ent x hx).1
  have hrl := reachF_len f.1 0
  have hl : spec_l6Links_l0 f (reachF f.1 0) 0 = _ := loop_anyI f.1 zInode_ (linkBad f.1) false (fun i hi => by
    simp only [spec_l6Links_l0.B, lt_dec hi, inB_lt hi, cond_tt, toNat_cast, getD_lt _ hi, spec_l5Links_eq f.1 h6 hn, spec_l5Among_eq _ _ (by omega : (reachF f.1 0).length ≤ 2147483648), Option.bind_some, w64_succ (by omega : i < 4294967296), linkBad]
    cases (f.1[i].1 == 0)
    · simp only [cond_ff]
      cases (f.1[i].1 == 1)
      · simp only [cond_ff]
        cases ((i : Int) == 0)
        · simp only [cond_ff]
          cases (linksF f.1 (i : Int) != 1)
          · simp only [cond_ff]
          · rfl
        · simp only [cond_tt]
          cases (linksF f.1 (i : Int) != 0)
          · simp only [cond_ff]
          · rfl
      · simp only [cond_tt]
        cases (linksF f.1 (i : Int) != f.1[i].2.1)
        · simp only [cond_ff]
        · rfl
    · rfl) (by simp only [spec_l6Links_l0.B, ge_dec (Nat.le_refl _), cond_ff])
  simp only [spec_l6Links, spec_l6Reach_eq f h.entIn hn h.pos, Option.bind_some, hl, linksBad]
  cases (List.range f.1.length).any fun i => linkBad f.1 i (f.1.getD i zInode_) <;> rfl
theorem impl_linksFault_eq (f : Fs_) (h : TreeOk f) : impl_linksFault f = some (cond (linksBad f.1) 1 0) := by
  have hn := (InOk.of h.inod).len
  have h6 : ∀ x ∈ f.1, x.2.2.2.2.1.length ≤ 6 := fun x hx => ((EntOk.of h.inod).ent x hx).1
  have hrl := reachF_len f.1 0
  have hl : impl_linksFault_l0 f f.1 (f.1.length : Int) (reachF f.1 0) 0 = _ := loop_anyI f.1 zInode_ (linkBad f.1) (1 : Int) (fun i hi => by
    have hk := (inodeF_dir ((inodesF_ok h.inod).2 _ (List.getElem_mem hi))).1
    simp only [impl_linksFault_l0.B, lt_dec hi, inB_lt hi, cond_tt, toNat_cast, getD_lt _ hi, impl_linksOf_eq f.1 h6 hn, slices_Contains_int64_eq _ _ (by omega : (reachF f.1 0).length ≤ 2147483648), Option.bind_some, w64_succ (by omega : i < 4294967296), linkBad]
    generalize hx : f.1[i] = x at hk
    by_cases e0 : x.1 = 0
    · rw [show (x.1 == 0) = true by simp [e0], show (x.1 == 1) = false by simp [e0], show (x.1 == 2) = false by simp [e0], show (x.1 != 0) = false by simp [e0]]; rfl
    · by_cases e1 : x.1 = 1
      · rw [show (x.1 == 0) = false by simp [e0], show (x.1 == 1) = true by simp [e1], show (x.1 == 2) = false by simp [e1], show (x.1 != 0) = true by simp [e0], show (x.2.1 != linksF f.1 (i : Int)) = (linksF f.1 (i : Int) != x.2.1) by rw [bne, bne, Bool.beq_comm]]
        simp only [cond_tt, cond_ff]
        cases (linksF f.1 (i : Int) != x.2.1) <;> rfl
      · have e2 : x.1 = 2 := by omega
        rw [show (x.1 == 0) = false by simp [e0], show (x.1 == 1) = false by simp [e1], show (x.1 == 2) = true by simp [e2], show (x.1 != 0) = true by simp [e0]]
        simp only [cond_tt, cond_ff]
        cases i with
        | zero =>
          rw [show (((0 : Nat) : Int) == 0) = true from rfl, show decide (((0 : Nat) : Int) > 0) = false from rfl]
          simp only [cond_tt, cond_ff]
          cases (linksF f.1 ((0 : Nat) : Int) != 0) <;> rfl
        | succ j =>
          rw [show (((j + 1 : Nat) : Int) == 0) = false by simp; omega, show decide (((j + 1 : Nat) : Int) > 0) = true by simp]
          simp only [cond_tt, cond_ff]
          cases (linksF f.1 ((j + 1 : Nat) : Int) != 1) <;> rfl) (by simp only [impl_linksFault_l0.B, ge_dec (Nat.le_refl _), cond_ff])
  have hr : impl_reachOf f.1 0 = some (reachF f.1 0) := impl_reachOf_eq h.entIn hn 0 h.pos
  simp only [impl_linksFault, hr, Option.bind_some, hl, linksBad]
  cases (List.range f.1.length).any fun i => linkBad f.1 i (f.1.getD i zInode_) <;> rfl
def minF (a b : Int) : Int := cond (decide (a < b)) a b
theorem spec_l1Min_eq (a b : Int) : spec_l1Min a b = some (minF a b) := by simp only [spec_l1Min, minF, some_cond]
theorem min_swap (a b : Int) : cond (decide (a < b)) a b = minF b a := by
  unfold minF
  by_cases h1 : a < b
  · rw [show decide (a < b) = true by simp [h1], show decide (b < a) = false by simp; omega]; rfl
  · by_cases h2 : b < a
    · rw [show decide (a < b) = false by simp; omega, show decide (b < a) = true by simp [h2]]; rfl
    · have : a = b := by omega
      subst this; simp
def wantE (x : Inode_) : Nat → List Int → List Int → List Int
  | _, [], w => w
  | k, b :: bs, w => wantE x (k + 1) bs (w.set b.toNat (minF 8 (w64 (x.2.2.1 - w64 ((k : Int) * 8)))))
def wantL : List Inode_ → List Int → List Int
  | [], w => w
  | x :: l, w => wantL l (wantE x 0 x.2.2.2.1 w)
def wantF (l : List Inode_) : List Int := wantL l (List.replicate 20 0)
theorem wantE_len (x : Inode_) : ∀ (bs : List Int) (k : Nat) (w : List Int), (wantE x k bs w).length = w.length
  | [], k, w => rfl
  | b :: bs, k, w => by simp only [wantE]; rw [wantE_len x bs]; simp
theorem wantL_len : ∀ (l : List Inode_) (w : List Int), (wantL l w).length = w.length
  | [], w => rfl
  | x :: l, w => by simp only [wantL]; rw [wantL_len l, wantE_len]
theorem wantF_len (l : List Inode_) : (wantF l).length = 20 := by unfold wantF; rw [wantL_len]; simp
theorem wantE_fold (x : Inode_) : ∀ (bs : List Int) (k : Nat) (w : List Int), foldE (fun k b w => .inl (w.set b.toNat (minF 8 (w64 (x.2.2.1 - w64 ((k : Int) * 8)))))) id k bs w = wantE x k bs w
  | [], k, w => rfl
  | b :: bs, k, w => by simp only [foldE, sel_inl, wantE]; exact wantE_fold x bs _ _
theorem wantL_fold : ∀ (l : List Inode_) (k : Nat) (w : List Int), foldE (fun _ x w => .inl (wantE x 0 x.2.2.2.1 w)) id k l w = wantL l w
  | [], k, w => rfl
  | x :: l, k, w => by simp only [foldE, sel_inl, wantL]; exact wantL_fold l _ _
theorem spec_l6Sizes_l1_eq (f : Fs_) (i : Int) (x : Inode_) (h4 : x.2.2.2.1.length ≤ 4) (hb : ∀ b ∈ x.2.2.2.1, 0 ≤ b ∧ b ≤ 19) (w : List Int) (hw : w.length = 20) : spec_l6Sizes_l1 f i x (0, w) = some (wantE x 0 x.2.2.2.1 w) := by
  have h := loop_listI0 (τ := List Int) x.2.2.2.1 (f := fun s => spec_l6Sizes_l1.B f i x s.1 s.2) (fun k w => ((k : Int), w)) (fun k b w => .inl (w.set b.toNat (minF 8 (w64 (x.2.2.1 - w64 ((k : Int) * 8)))))) id (fun k w => w.length = 20)
    (fun k hk w hw => by
      have h2 := hb _ (List.getElem_mem hk)
      simp only [spec_l6Sizes_l1.B, lt_dec hk, inB_lt hk, cond_tt, toNat_cast, getD_lt _ hk, spec_l1Min_eq, Option.bind_some, w64_succ (by omega : k < 4294967296), sel]
      rw [show inB (x.2.2.2.1[k]) w.length = true from inB_ok h2.1 (by omega)]; rfl) (fun k hk w w' hw e => by cases e; simpa using hw) (fun w hw => by
      simp only [spec_l6Sizes_l1.B, ge_dec (Nat.le_refl _), cond_ff, id]) w hw (s := (0, w)) rfl
  rw [wantE_fold] at h; exact h
theorem impl_longs_l1_eq (l : List Inode_) (v v2 : Int) (v3 : List Int) (x : Inode_) (h4 : x.2.2.2.1.length ≤ 4) (hb : ∀ b ∈ x.2.2.2.1, 0 ≤ b ∧ b ≤ 19) (w : List Int) (hw : w.length = 20) : impl_longs_l1 l v v2 x.2.2.2.1 (x.2.2.2.1.length : Int) v3 x (0, w) = some (wantE x 0 x.2.2.2.1 w) := by
  have h := loop_listI0 (τ := List Int) x.2.2.2.1 (f := fun s => impl_longs_l1.B l v v2 x.2.2.2.1 (x.2.2.2.1.length : Int) v3 x s.1 s.2) (fun k w => ((k : Int), w)) (fun k b w => .inl (w.set b.toNat (minF 8 (w64 (x.2.2.1 - w64 ((k : Int) * 8)))))) id (fun k w => w.length = 20)
    (fun k hk w hw => by
      have h2 := hb _ (List.getElem_mem hk)
      simp only [impl_longs_l1.B, lt_dec hk, inB_lt hk, cond_tt, toNat_cast, getD_lt _ hk, min_swap, Option.bind_some, w64_succ (by omega : k < 4294967296), sel]
      rw [show inB (x.2.2.2.1[k]) 20 = true from inB_ok h2.1 (by omega)]; rfl) (fun k hk w w' hw e => by cases e; simpa using hw) (fun w hw => by
      simp only [impl_longs_l1.B, ge_dec (Nat.le_refl _), cond_ff, id]) w hw (s := (0, w)) rfl
  rw [wantE_fold] at h; exact h
theorem impl_longs_eq (l : List Inode_) (hok : InOk l) : impl_longs l = some (wantF l) := by
  have hl := hok.len
  have h := loop_listI0 (τ := List Int) l (f := fun s => impl_longs_l0.B l (l.length : Int) (List.replicate 20 0) s.1 s.2) (fun k w => ((k : Int), w)) (fun _ x w => .inl (wantE x 0 x.2.2.2.1 w)) id (fun k w => w.length = 20)
    (fun k hk w hw => by
      have h2 := hok.blk _ (List.getElem_mem hk)
      simp only [impl_longs_l0.B, lt_dec hk, inB_lt hk, cond_tt, toNat_cast, getD_lt _ hk, Option.bind_some, impl_longs_l1_eq l _ _ _ _ h2.1 h2.2 w hw, w64_succ (by omega : k < 4294967296), sel]) (fun k hk w w' hw e => by cases e; rw [wantE_len]; exact hw) (fun w hw => by
      simp only [impl_longs_l0.B, ge_dec (Nat.le_refl _), cond_ff, id]) (List.replicate 20 0) (by simp) (s := (0, List.replicate 20 0)) rfl
  rw [wantL_fold] at h
  have h' : impl_longs_l0 l (l.length : Int) (List.replicate 20 0) (0, List.replicate 20 0) = some (wantF l) := h
  simp only [impl_longs, h', Option.bind_some]
def sizesBad (f : Fs_) : Bool := (List.range 20).any fun i => ((f.2.1.getD i []).length : Int) != (wantF f.1).getD i 0
theorem spec_l6Sizes_eq (f : Fs_) (h : TreeOk f) : spec_l6Sizes f = some (!sizesBad f) := by
  have hok := InOk.of h.inod
  have hl := hok.len
  have hd := h.dat
  have h1 := loop_listI0 (τ := List Int) f.1 (f := fun s => spec_l6Sizes_l0.B f s.1 s.2) (fun k w => ((k : Int), w)) (fun _ x w => .inl (wantE x 0 x.2.2.2.1 w)) id (fun k w => w.length = 20)
    (fun k hk w hw => by
      have h2 := hok.blk _ (List.getElem_mem hk)
      simp only [spec_l6Sizes_l0.B, lt_dec hk, inB_lt hk, cond_tt, toNat_cast, getD_lt _ hk, Option.bind_some, spec_l6Sizes_l1_eq f _ _ h2.1 h2.2 w hw, w64_succ (by omega : k < 4294967296), sel]) (fun k hk w w' hw e => by cases e; rw [wantE_len]; exact hw) (fun w hw => by
      simp only [spec_l6Sizes_l0.B, ge_dec (Nat.le_refl _), cond_ff, id]) (List.replicate 20 0) (by simp) (s := (0, List.replicate 20 0)) rfl
  rw [wantL_fold] at h1
  have h1' : spec_l6Sizes_l0 f (0, List.replicate 20 0) = some (wantF f.1) := h1
  have hwl := wantF_len f.1
  have h2 : spec_l6Sizes_l2 f (wantF f.1) 0 = _ := loop_anyI f.2.1 [] (fun i b => (b.length : Int) != (wantF f.1).getD i 0) false (fun i hi => by
    simp only [spec_l6Sizes_l2.B, lt_dec hi, inB_lt hi, inB_lt (by omega : i < (wantF f.1).length), cond_tt, toNat_cast, getD_lt _ hi, Option.bind_some, w64_succ (by omega : i < 4294967296)]) (by
    simp only [spec_l6Sizes_l2.B, ge_dec (Nat.le_refl _), cond_ff])
  simp only [spec_l6Sizes]
  rw [show (decide ((0 : Int) ≤ (20 : Int)) && (decide ((20 : Int) ≤ (20 : Int)) && decide ((20 : Int) ≤ 2147483648))) = true from rfl, show (20 : Int).toNat = 20 from rfl]
  simp only [cond_tt, h1', Option.bind_some, h2, sizesBad, hd]
  cases (List.range 20).any fun i => ((f.2.1.getD i []).length : Int) != (wantF f.1).getD i 0 <;> rfl
theorem impl_dataFault_eq (f : Fs_) (h : TreeOk f) : impl_dataFault f = some (cond (sizesBad f) 1 0) := by
  have hok := InOk.of h.inod
  have hd := h.dat
  have h2 : impl_dataFault_l0 f (wantF f.1) 0 = _ := loop_any (List.range 20) (fun i => ((f.2.1.getD i []).length : Int) != (wantF f.1).getD i 0) (1 : Int) (fun i hi => by
    have hi' : i < 20 := by simpa using hi
    simp only [impl_dataFault_l0.B, show decide ((i : Int) < 20) = true by simp; omega, inB_lt hi', inB_lt (by omega : i < f.2.1.length), cond_tt, toNat_cast, impl_size_byte, Option.bind_some, w64_succ (by omega : i < 4294967296), List.getElem_range]) (by
    rw [List.length_range]; rfl)
  simp only [impl_dataFault, impl_longs_eq f.1 hok, Option.bind_some, h2, sizesBad]
  cases (List.range 20).any fun i => ((f.2.1.getD i []).length : Int) != (wantF f.1).getD i 0 <;> rfl
noncomputable def fsF (f : Fs_) : Int := cond (treeF f != 0) (treeF f) (cond (linksBad f.1) 1 (cond (sizesBad f) 1 0))
theorem spec_l6Fault_eq (f : Fs_) (hb : Bd tFs_ f) : spec_l6Fault f = some (fsF f) := by
  simp only [spec_l6Fault, fsF, spec_l6Entries_eq f hb, Option.bind_some]
  cases h : (treeF f != 0) with
  | true => simp only [cond_tt]
  | false =>
    have ht := TreeOk.of (by simpa using h : treeF f = 0)
    simp only [cond_ff, spec_l6Links_eq f ht, spec_l6Sizes_eq f ht, Option.bind_some, Bool.not_not, some_cond]
theorem impl_fsFault_eq (f : Fs_) (hb : Bd tFs_ f) : impl_fsFault f = some (fsF f) := by
  simp only [impl_fsFault, fsF, impl_treeFault_eq f hb, Option.bind_some]
  cases h : (treeF f != 0) with
  | true => simp only [cond_tt]
  | false =>
    have ht := TreeOk.of (by simpa using h : treeF f = 0)
    simp only [cond_ff, impl_linksFault_eq f ht, impl_dataFault_eq f ht, Option.bind_some]
    cases linksBad f.1 <;> cases sizesBad f <;> rfl
structure FsOk_ (f : Fs_) : Prop where
  tree : TreeOk f
  lnk : linksBad f.1 = false
  siz : sizesBad f = false
theorem FsOk_.of {f : Fs_} (h : fsF f = 0) : FsOk_ f := by
  unfold fsF at h
  cases h0 : (treeF f != 0) with
  | true => rw [h0] at h; exact absurd h (by simpa using h0)
  | false =>
    rw [h0] at h
    cases h1 : linksBad f.1 with
    | true => rw [h1] at h; cases h
    | false =>
      rw [h1] at h
      cases h2 : sizesBad f with
      | true => rw [h2] at h; cases h
      | false => exact ⟨TreeOk.of (by simpa using h0), h1, h2⟩
theorem usedF_len (l : List Inode_) : (usedF l).length ≤ 20 := by
  have := List.length_filter_le (fun b => (allB l).contains b) r20
  rw [r20_len] at this; exact this
theorem wt_ints (k : IntKind) : ∀ xs : List Int, (xs.map (wt (.int k))).sum = xs.length
  | [] => rfl
  | x :: xs => by rw [List.map_cons, List.sum_cons, wt_ints k xs, wt_int, List.length_cons]; omega
theorem wt_puts {l : List Put_} {n B : Nat} (hl : l.length ≤ n) (h : ∀ p ∈ l, p.2.1.length ≤ B) : wt (.sl tPut_) l ≤ n * (B + 2) + 1 := by
  rw [wt_sl]
  have := sum_leB (wt tPut_) (B + 2) (xs := l) fun p hp => by
    have := h p hp
    have e := wt_ints .i64 p.2.1
    simp only [wt_pair, wt_sl, wt_int, wt_unit]
    show 1 + ((List.map (wt (.int .i64)) p.2.1).sum + 1 + 0) ≤ _
    rw [e]; omega
  have := Nat.mul_le_mul_right (B + 2) hl
  omega
def dataPut (f : Fs_) (b : Int) : Put_ := ((27 : Int) + b, f.2.1.getD b.toNat [], ())
def dataPutsF (f : Fs_) : List Put_ := (usedF f.1).map (dataPut f)
/-- bytes are bytes -/
def ByteOk (f : Fs_) : Prop := ∀ b ∈ f.2.1, ∀ v ∈ b, 0 ≤ v ∧ v ≤ 255
theorem spec_l12Data_l1_eq (f : Fs_) (ht : TreeOk f) (hby : ByteOk f) (i : Nat) (out : List Put_) (v : List Int) (b3 : Bool) (hi : i < v.length) (hv : 0 ≤ v[i] ∧ v[i] ≤ 19) (a : Int) : spec_l12Data_l1 f (i : Int) out v b3 () (0, (a, [], ())) = some (a, f.2.1.getD v[i].toNat [], ()) := by
  have hd := ht.dat
  have hv1 : v[i].toNat < f.2.1.length := by omega
  have hm := List.getElem_mem hv1
  have hl := ht.dl _ hm
  rw [getD_lt _ hv1]
  have := loop_listI0 (τ := List Int) f.2.1[v[i].toNat] (f := fun s => spec_l12Data_l1.B f (i : Int) out v b3 () s.1 s.2) (fun k t => ((k : Int), (a, t, ()))) (fun _ x t => .inl (t ++ [x])) (fun t => ((a, t, ()) : Put_)) (fun k t => t.length ≤ k) (fun k hk t ht => by
    have hx := hby _ hm _ (List.getElem_mem hk)
    simp only [spec_l12Data_l1.B, inB_lt hi, cond_tt, toNat_cast, getD_lt _ hi, show inB v[i] f.2.1.length = true from inB_ok hv.1 (by omega), getD_lt _ hv1, Option.bind_some, lt_dec hk, inB_lt hk, getD_lt _ hk, w64_id (x := f.2.1[v[i].toNat][k]) (by omega) (by omega), w64_succ (by omega : k < 4294967296), sel]
    rw [dlen (by simp; omega)]; rfl) (fun k hk t t' h e => by cases e; simp; omega) (fun t h => by
    simp only [spec_l12Data_l1.B, inB_lt hi, cond_tt, toNat_cast, getD_lt _ hi, show inB v[i] f.2.1.length = true from inB_ok hv.1 (by omega), getD_lt _ hv1, Option.bind_some, ge_dec (Nat.le_refl _), cond_ff]) [] (by simp) (s := (0, (a, [], ()))) rfl
  refine Eq.trans this ?_
  have e := foldE_map (fun x : Int => x) (fun t => ((a, t, ()) : Put_)) f.2.1[v[i].toNat] 0 []
  rw [e]; simp
theorem usedF_bnd {l : List Inode_} {b : Int} (h : b ∈ usedF l) : 0 ≤ b ∧ b ≤ 19 := (r20_mem b).1 (List.mem_filter.1 h).1
theorem spec_l12Data_eq (f : Fs_) (ht : TreeOk f) (hby : ByteOk f) : spec_l12Data f = some (dataPutsF f) := by
  have hok := InOk.of ht.inod
  have hu := usedF_len f.1
  have h0 : spec_l12Data_l0 f (usedF f.1) (onceF f.1) () (0, []) = some ([] ++ (usedF f.1).map (dataPut f)) := loop_mapI (usedF f.1) (f := fun s => spec_l12Data_l0.B f (usedF f.1) (onceF f.1) () s.1 s.2) (dataPut f) id 0 (fun i hi t ht2 => by
    have hb := usedF_bnd (List.getElem_mem hi)
    simp only [spec_l12Data_l0.B, lt_dec hi, inB_lt hi, cond_tt, toNat_cast, getD_lt _ hi, w64_id (x := 27 + (usedF f.1)[i]) (by omega) (by omega), spec_l12Data_l1_eq f ht hby i _ _ _ hi hb, Option.bind_some, w64_succ (by omega : i < 4294967296)]
    rw [dlen (by simp; omega)]; rfl) (fun t ht => by
    simp only [spec_l12Data_l0.B, ge_dec (Nat.le_refl _), cond_ff, id]) [] rfl
  simp only [spec_l12Data, spec_l5Used_eq f.1 hok, Option.bind_some, h0, List.nil_append, dataPutsF]
theorem impl_dataPuts_l1_eq (f : Fs_) (v v2 : Int) (list : List Put_) (v3 : List Int) (v4 : Bool) (b : List Int) (hl : b.length ≤ 8) (hby : ∀ x ∈ b, 0 ≤ x ∧ x ≤ 255) (a : Int) : impl_Fs_dataPuts_l1 f v v2 b (b.length : Int) list v3 v4 () (0, (a, [], ())) = some (a, b, ()) := by
  have := loop_listI0 (τ := List Int) b (f := fun s => impl_Fs_dataPuts_l1.B f v v2 b (b.length : Int) list v3 v4 () s.1 s.2) (fun k t => ((k : Int), (a, t, ()))) (fun _ x t => .inl (t ++ [x])) (fun t => ((a, t, ()) : Put_)) (fun k t => t.length ≤ k) (fun k hk t ht => by
    have hx := hby _ (List.getElem_mem hk)
    simp only [impl_Fs_dataPuts_l1.B, lt_dec hk, inB_lt hk, cond_tt, toNat_cast, getD_lt _ hk, w64_id (x := b[k]) (by omega) (by omega), w64_succ (by omega : k < 4294967296), sel]
    rw [dlen (by simp; omega)]; rfl) (fun k hk t t' h e => by cases e; simp; omega) (fun t h => by
    simp only [impl_Fs_dataPuts_l1.B, ge_dec (Nat.le_refl _), cond_ff]) [] (by simp) (s := (0, (a, [], ()))) rfl
  refine Eq.trans this ?_
  have e := foldE_map (fun x : Int => x) (fun t => ((a, t, ()) : Put_)) b 0 []
  rw [e]; simp
theorem impl_dataPuts_eq (f : Fs_) (ht : TreeOk f) (hby : ByteOk f) : impl_Fs_dataPuts f = some (dataPutsF f) := by
  have hok := InOk.of ht.inod
  have hu := usedF_len f.1
  have hd := ht.dat
  have h0 : impl_Fs_dataPuts_l0 f ((usedF f.1).length : Int) (usedF f.1) (onceF f.1) () (0, []) = some ([] ++ (usedF f.1).map (dataPut f)) := loop_mapI (usedF f.1) (f := fun s => impl_Fs_dataPuts_l0.B f ((usedF f.1).length : Int) (usedF f.1) (onceF f.1) () s.1 s.2) (dataPut f) id 0 (fun i hi t ht2 => by
    have hb := usedF_bnd (List.getElem_mem hi)
    have hlt : (usedF f.1)[i].toNat < f.2.1.length := by omega
    have hm := List.getElem_mem hlt
    simp only [impl_Fs_dataPuts_l0.B, lt_dec hi, inB_lt hi, cond_tt, toNat_cast, getD_lt _ hi, show inB (usedF f.1)[i] f.2.1.length = true from inB_ok hb.1 (by omega), getD_lt _ hlt, w64_id (x := 27 + (usedF f.1)[i]) (by omega) (by omega), impl_dataPuts_l1_eq f _ _ _ _ _ _ (ht.dl _ hm) (hby _ hm), Option.bind_some, w64_succ (by omega : i < 4294967296), dataPut]
    rw [dlen (by simp; omega)]; rfl) (fun t ht => by
    simp only [impl_Fs_dataPuts_l0.B, ge_dec (Nat.le_refl _), cond_ff, id]) [] rfl
  simp only [impl_Fs_dataPuts, impl_usedBlocks_eq f.1 hok, sort_used f.1 hok ht.once, Option.bind_some, h0, List.nil_append, dataPutsF]
theorem Fit_bytes {f : Fs_} (h : Fit tFs_ f) : ByteOk f := by
  intro b hb v hv
  have h1 : Fit (.sl (.sl (.int .u8))) f.2.1 := h.2.1
  have h2 := h1 b hb v hv
  exact h2
theorem DataPuts.main (f : Fs_) (hf : Fit tFs_ f) (hw : wt tFs_ f ≤ 1048576) : ∃ r, spec_DataPuts f = some r ∧ impl_DataPuts f = some r ∧ wt tPutsResult_ r ≤ 2147483648 := by
  have hb : Bd tFs_ f := Bd_of rfl (by omega)
  simp only [spec_DataPuts, impl_DataPuts, spec_l6Fault_eq f hb, impl_fsFault_eq f hb, Option.bind_some]
  cases h : (fsF f != 0) with
  | true => exact ⟨_, rfl, rfl, by simp [wt]⟩
  | false =>
    have ht := (FsOk_.of (by simpa using h : fsF f = 0)).tree
    simp only [cond_ff, spec_l12Data_eq f ht (Fit_bytes hf), impl_dataPuts_eq f ht (Fit_bytes hf), Option.bind_some]
    refine ⟨_, rfl, rfl, ?_⟩
    have := wt_puts (n := 20) (l := dataPutsF f) (B := 8) (by simp [dataPutsF]; exact usedF_len f.1) (fun p hp => by
      obtain ⟨b, hb, rfl⟩ := List.mem_map.1 hp
      have h1 := usedF_bnd hb
      have hd := ht.dat
      simp only [dataPut]
      rw [getD_lt _ (by omega : b.toNat < f.2.1.length)]
      exact ht.dl _ (List.getElem_mem _))
    simp only [wt_pair, wt_int, wt_unit]; omega
theorem DataPuts.law (x : PT.Els (shs [tFs_])) (hf : FitAll [tFs_] x) (hw : wtAll [tFs_] x ≤ 1048576) : laws_FnExactDataPuts x.1 = some true := by
  simp only [wtAll] at hw
  have hf0 : Fit tFs_ x.1 := hf.1
  have hw0 : wt tFs_ x.1 ≤ 1048576 := by omega
  clear hw hf
  generalize x.1 = a0 at hf0 hw0 ⊢
  obtain ⟨r, hr1, hr2, hr3⟩ := DataPuts.main a0 hf0 hw0
  obtain ⟨r_0, r_1, ⟨⟩⟩ := r
  replace hr3 : wt tPutsResult_ (r_0, r_1, ()) ≤ 2147483648 := hr3
  replace hr1 : spec_DataPuts a0 = some (r_0, r_1, ()) := hr1
  replace hr2 : impl_DataPuts a0 = some (r_0, r_1, ()) := hr2
  have er := laws_eqPutsResult_ok (r_0, r_1, ()) hr3
  obtain ⟨kr, y0, l1, l2, hm, hh⟩ := laws_markPutsResult_ok r_0 r_1 1 (by omega) (by omega) hr3
  have to0 := laws_toFs_ok a0 (by omega)
  have eq0 := laws_eqFs_ok a0 (by omega)
  obtain ⟨k0, z0_0, z0_1, l0, u0, m0⟩ := laws_markFs_ok a0.1 a0.2.1 1 (by omega) (by show _ + ((wt tFs_ a0 : Nat) : Int) ≤ _; omega) (by show wt tFs_ a0 ≤ _; omega)
  have u0 : k0 ≤ 1 + ((wt tFs_ a0 : Nat) : Int) := u0
  try simp only [peta] at m0
  have hsz : ∀ g : Option Bool, g = some true → ∀ b : Bool, cond b (some true) g = some true := fun g h b => by cases b <;> first | rfl | exact h
  simp only [laws_FnExactDataPuts]
  repeat' (first | with_reducible refine hsz _ ?_ _ | (rw [Option.bind_some]) | (obtain ⟨q, hq⟩ := laws_szFs_ok a0 _ (by omega); rw [hq, Option.bind_some]; clear hq))
  simp only [er, hm, hh, to0, eq0, m0, hr1, hr2, peta, Option.bind_some, Bool.not_true, cond_ff, cond_tt, bne_self, beq_selfB, beq_selfS, neg_dec (by omega : 0 ≤ kr), neg_dec (by omega : 0 ≤ k0)]
end Mf
