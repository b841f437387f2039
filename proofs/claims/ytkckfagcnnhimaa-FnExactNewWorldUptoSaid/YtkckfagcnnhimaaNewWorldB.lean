/- The law over plain data: laws.FnExactNewWorld answers true. -/
import Derived.Test.YtkckfagcnnhimaaNewWorldA
namespace Mf
open Go
set_option linter.unusedVariables false
set_option linter.unusedSimpArgs false
set_option maxRecDepth 100000
theorem laws_eqByteS_ok (a : (List Int)) (hw : wt (.sl (.int .u8)) a ≤ 2147483648) : laws_eqByteS a a = some true := by
  have hw2 := hw
  simp only [wt_sl, wt_pair, wt_int, wt_bool, wt_str, wt_unit] at hw2
  have hl : a.length ≤ 2147483648 := by have := len_sum (wt (.int .u8)) (fun x => by simp only [wt_sl, wt_pair, wt_int, wt_bool, wt_str, wt_unit]; omega) a; omega
  have lp : laws_eqByteS_l0 a a 0 = some (.inr ()) := by
    refine eq_list0 (n := a.length) (fun s => laws_eqByteS_l0.B a a s) (fun i hi => ?_) ?_
    · have hm := mem_sum (wt (.int .u8)) a i hi
      have hb : inB (i : Int) a.length = true := inB_ok (by omega) (by omega)
      simp only [laws_eqByteS_l0.B, lt_dec hi, hb, cond_tt, cond_ff, toNat_cast, getD_lt _ hi, Option.bind_some, Bool.not_true, bne_self, beq_selfS, beq_selfB, w64_succ (by omega : i < 4294967296)]
    · simp only [laws_eqByteS_l0.B, ge_dec (Nat.le_refl _), cond_ff]
  simp only [laws_eqByteS, bne_self, cond_ff, lp, Option.bind_some, sel]
theorem laws_eqStringS_ok (a : (List (List UInt8))) (hw : wt (.sl .str) a ≤ 2147483648) : laws_eqStringS a a = some true := by
  have hw2 := hw
  simp only [wt_sl, wt_pair, wt_int, wt_bool, wt_str, wt_unit] at hw2
  have hl : a.length ≤ 2147483648 := by have := len_sum (wt .str) (fun x => by simp only [wt_sl, wt_pair, wt_int, wt_bool, wt_str, wt_unit]; omega) a; omega
  have lp : laws_eqStringS_l0 a a 0 = some (.inr ()) := by
    refine eq_list0 (n := a.length) (fun s => laws_eqStringS_l0.B a a s) (fun i hi => ?_) ?_
    · have hm := mem_sum (wt .str) a i hi
      have hb : inB (i : Int) a.length = true := inB_ok (by omega) (by omega)
      simp only [laws_eqStringS_l0.B, lt_dec hi, hb, cond_tt, cond_ff, toNat_cast, getD_lt _ hi, Option.bind_some, Bool.not_true, bne_self, beq_selfS, beq_selfB, w64_succ (by omega : i < 4294967296)]
    · simp only [laws_eqStringS_l0.B, ge_dec (Nat.le_refl _), cond_ff]
  simp only [laws_eqStringS, bne_self, cond_ff, lp, Option.bind_some, sel]
theorem laws_eqInt64S_ok (a : (List Int)) (hw : wt (.sl (.int .i64)) a ≤ 2147483648) : laws_eqInt64S a a = some true := by
  have hw2 := hw
  simp only [wt_sl, wt_pair, wt_int, wt_bool, wt_str, wt_unit] at hw2
  have hl : a.length ≤ 2147483648 := by have := len_sum (wt (.int .i64)) (fun x => by simp only [wt_sl, wt_pair, wt_int, wt_bool, wt_str, wt_unit]; omega) a; omega
  have lp : laws_eqInt64S_l0 a a 0 = some (.inr ()) := by
    refine eq_list0 (n := a.length) (fun s => laws_eqInt64S_l0.B a a s) (fun i hi => ?_) ?_
    · have hm := mem_sum (wt (.int .i64)) a i hi
      have hb : inB (i : Int) a.length = true := inB_ok (by omega) (by omega)
      simp only [laws_eqInt64S_l0.B, lt_dec hi, hb, cond_tt, cond_ff, toNat_cast, getD_lt _ hi, Option.bind_some, Bool.not_true, bne_self, beq_selfS, beq_selfB, w64_succ (by omega : i < 4294967296)]
    · simp only [laws_eqInt64S_l0.B, ge_dec (Nat.le_refl _), cond_ff]
  simp only [laws_eqInt64S, bne_self, cond_ff, lp, Option.bind_some, sel]
theorem laws_eqEntry_ok (a : Entry_) (hw : wt tEntry_ a ≤ 2147483648) : laws_eqEntry a a = some true := by
  obtain ⟨x0, x1, ⟨⟩⟩ := a
  simp only [wt_sl, wt_pair, wt_int, wt_bool, wt_str, wt_unit] at hw
  simp only [laws_eqEntry, Option.bind_some, Bool.not_true, bne_self, beq_selfS, beq_selfB, cond_ff, cond_tt]
theorem laws_eqEntryS_ok (a : (List Entry_)) (hw : wt (.sl tEntry_) a ≤ 2147483648) : laws_eqEntryS a a = some true := by
  have hw2 := hw
  simp only [wt_sl, wt_pair, wt_int, wt_bool, wt_str, wt_unit] at hw2
  have hl : a.length ≤ 2147483648 := by have := len_sum (wt tEntry_) (fun x => by simp only [wt_sl, wt_pair, wt_int, wt_bool, wt_str, wt_unit]; omega) a; omega
  have lp : laws_eqEntryS_l0 a a 0 = some (.inr ()) := by
    refine eq_list0 (n := a.length) (fun s => laws_eqEntryS_l0.B a a s) (fun i hi => ?_) ?_
    · have hm := mem_sum (wt tEntry_) a i hi
      have hb : inB (i : Int) a.length = true := inB_ok (by omega) (by omega)
      have h0 := laws_eqEntry_ok a[i] (by omega)
      simp only [laws_eqEntryS_l0.B, lt_dec hi, hb, cond_tt, cond_ff, toNat_cast, getD_lt _ hi, h0, Option.bind_some, Bool.not_true, bne_self, beq_selfS, beq_selfB, w64_succ (by omega : i < 4294967296)]
    · simp only [laws_eqEntryS_l0.B, ge_dec (Nat.le_refl _), cond_ff]
  simp only [laws_eqEntryS, bne_self, cond_ff, lp, Option.bind_some, sel]
theorem laws_eqInode_ok (a : Inode_) (hw : wt tInode_ a ≤ 2147483648) : laws_eqInode a a = some true := by
  obtain ⟨x0, x1, x2, x3, x4, ⟨⟩⟩ := a
  simp only [wt_sl, wt_pair, wt_int, wt_bool, wt_str, wt_unit] at hw
  have h_x3_0 := laws_eqInt64S_ok x3 (by simp only [wt_sl, wt_pair, wt_int, wt_bool, wt_str, wt_unit]; omega)
  have h_x4_1 := laws_eqEntryS_ok x4 (by simp only [wt_sl, wt_pair, wt_int, wt_bool, wt_str, wt_unit]; omega)
  simp only [laws_eqInode, h_x3_0, h_x4_1, Option.bind_some, Bool.not_true, bne_self, beq_selfS, beq_selfB, cond_ff, cond_tt]
theorem laws_eqInodeS_ok (a : (List Inode_)) (hw : wt (.sl tInode_) a ≤ 2147483648) : laws_eqInodeS a a = some true := by
  have hw2 := hw
  simp only [wt_sl, wt_pair, wt_int, wt_bool, wt_str, wt_unit] at hw2
  have hl : a.length ≤ 2147483648 := by have := len_sum (wt tInode_) (fun x => by simp only [wt_sl, wt_pair, wt_int, wt_bool, wt_str, wt_unit]; omega) a; omega
  have lp : laws_eqInodeS_l0 a a 0 = some (.inr ()) := by
    refine eq_list0 (n := a.length) (fun s => laws_eqInodeS_l0.B a a s) (fun i hi => ?_) ?_
    · have hm := mem_sum (wt tInode_) a i hi
      have hb : inB (i : Int) a.length = true := inB_ok (by omega) (by omega)
      have h0 := laws_eqInode_ok a[i] (by omega)
      simp only [laws_eqInodeS_l0.B, lt_dec hi, hb, cond_tt, cond_ff, toNat_cast, getD_lt _ hi, h0, Option.bind_some, Bool.not_true, bne_self, beq_selfS, beq_selfB, w64_succ (by omega : i < 4294967296)]
    · simp only [laws_eqInodeS_l0.B, ge_dec (Nat.le_refl _), cond_ff]
  simp only [laws_eqInodeS, bne_self, cond_ff, lp, Option.bind_some, sel]
theorem laws_eqByteSS_ok (a : (List (List Int))) (hw : wt (.sl (.sl (.int .u8))) a ≤ 2147483648) : laws_eqByteSS a a = some true := by
  have hw2 := hw
  simp only [wt_sl, wt_pair, wt_int, wt_bool, wt_str, wt_unit] at hw2
  have hl : a.length ≤ 2147483648 := by have := len_sum (wt (.sl (.int .u8))) (fun x => by simp only [wt_sl, wt_pair, wt_int, wt_bool, wt_str, wt_unit]; omega) a; omega
  have lp : laws_eqByteSS_l0 a a 0 = some (.inr ()) := by
    refine eq_list0 (n := a.length) (fun s => laws_eqByteSS_l0.B a a s) (fun i hi => ?_) ?_
    · have hm := mem_sum (wt (.sl (.int .u8))) a i hi
      have hb : inB (i : Int) a.length = true := inB_ok (by omega) (by omega)
      have h0 := laws_eqByteS_ok a[i] (by omega)
      simp only [laws_eqByteSS_l0.B, lt_dec hi, hb, cond_tt, cond_ff, toNat_cast, getD_lt _ hi, h0, Option.bind_some, Bool.not_true, bne_self, beq_selfS, beq_selfB, w64_succ (by omega : i < 4294967296)]
    · simp only [laws_eqByteSS_l0.B, ge_dec (Nat.le_refl _), cond_ff]
  simp only [laws_eqByteSS, bne_self, cond_ff, lp, Option.bind_some, sel]
theorem laws_eqFs_ok (a : Fs_) (hw : wt tFs_ a ≤ 2147483648) : laws_eqFs a a = some true := by
  obtain ⟨x0, x1, ⟨⟩⟩ := a
  simp only [wt_sl, wt_pair, wt_int, wt_bool, wt_str, wt_unit] at hw
  have h_x0_0 := laws_eqInodeS_ok x0 (by simp only [wt_sl, wt_pair, wt_int, wt_bool, wt_str, wt_unit]; omega)
  have h_x1_1 := laws_eqByteSS_ok x1 (by simp only [wt_sl, wt_pair, wt_int, wt_bool, wt_str, wt_unit]; omega)
  simp only [laws_eqFs, h_x0_0, h_x1_1, Option.bind_some, Bool.not_true, bne_self, beq_selfS, beq_selfB, cond_ff, cond_tt]
theorem laws_eqCallResult_ok (a : CallResult_) (hw : wt tCallResult_ a ≤ 2147483648) : laws_eqCallResult a a = some true := by
  obtain ⟨x0, x1, x2, x3, x4, x5, ⟨⟩⟩ := a
  simp only [wt_sl, wt_pair, wt_int, wt_bool, wt_str, wt_unit] at hw
  have h_x3_0 := laws_eqByteS_ok x3 (by simp only [wt_sl, wt_pair, wt_int, wt_bool, wt_str, wt_unit]; omega)
  have h_x4_1 := laws_eqStringS_ok x4 (by simp only [wt_sl, wt_pair, wt_int, wt_bool, wt_str, wt_unit]; omega)
  have h_x5_2 := laws_eqFs_ok x5 (by simp only [wt_sl, wt_pair, wt_int, wt_bool, wt_str, wt_unit]; omega)
  simp only [laws_eqCallResult, h_x3_0, h_x4_1, h_x5_2, Option.bind_some, Bool.not_true, bne_self, beq_selfS, beq_selfB, cond_ff, cond_tt]
theorem laws_eqInt64SS_ok (a : (List (List Int))) (hw : wt (.sl (.sl (.int .i64))) a ≤ 2147483648) : laws_eqInt64SS a a = some true := by
  have hw2 := hw
  simp only [wt_sl, wt_pair, wt_int, wt_bool, wt_str, wt_unit] at hw2
  have hl : a.length ≤ 2147483648 := by have := len_sum (wt (.sl (.int .i64))) (fun x => by simp only [wt_sl, wt_pair, wt_int, wt_bool, wt_str, wt_unit]; omega) a; omega
  have lp : laws_eqInt64SS_l0 a a 0 = some (.inr ()) := by
    refine eq_list0 (n := a.length) (fun s => laws_eqInt64SS_l0.B a a s) (fun i hi => ?_) ?_
    · have hm := mem_sum (wt (.sl (.int .i64))) a i hi
      have hb : inB (i : Int) a.length = true := inB_ok (by omega) (by omega)
      have h0 := laws_eqInt64S_ok a[i] (by omega)
      simp only [laws_eqInt64SS_l0.B, lt_dec hi, hb, cond_tt, cond_ff, toNat_cast, getD_lt _ hi, h0, Option.bind_some, Bool.not_true, bne_self, beq_selfS, beq_selfB, w64_succ (by omega : i < 4294967296)]
    · simp only [laws_eqInt64SS_l0.B, ge_dec (Nat.le_refl _), cond_ff]
  simp only [laws_eqInt64SS, bne_self, cond_ff, lp, Option.bind_some, sel]
theorem laws_eqPut_ok (a : Put_) (hw : wt tPut_ a ≤ 2147483648) : laws_eqPut a a = some true := by
  obtain ⟨x0, x1, ⟨⟩⟩ := a
  simp only [wt_sl, wt_pair, wt_int, wt_bool, wt_str, wt_unit] at hw
  have h_x1_0 := laws_eqInt64S_ok x1 (by simp only [wt_sl, wt_pair, wt_int, wt_bool, wt_str, wt_unit]; omega)
  simp only [laws_eqPut, h_x1_0, Option.bind_some, Bool.not_true, bne_self, beq_selfS, beq_selfB, cond_ff, cond_tt]
theorem laws_eqPutS_ok (a : (List Put_)) (hw : wt (.sl tPut_) a ≤ 2147483648) : laws_eqPutS a a = some true := by
  have hw2 := hw
  simp only [wt_sl, wt_pair, wt_int, wt_bool, wt_str, wt_unit] at hw2
  have hl : a.length ≤ 2147483648 := by have := len_sum (wt tPut_) (fun x => by simp only [wt_sl, wt_pair, wt_int, wt_bool, wt_str, wt_unit]; omega) a; omega
  have lp : laws_eqPutS_l0 a a 0 = some (.inr ()) := by
    refine eq_list0 (n := a.length) (fun s => laws_eqPutS_l0.B a a s) (fun i hi => ?_) ?_
    · have hm := mem_sum (wt tPut_) a i hi
      have hb : inB (i : Int) a.length = true := inB_ok (by omega) (by omega)
      have h0 := laws_eqPut_ok a[i] (by omega)
      simp only [laws_eqPutS_l0.B, lt_dec hi, hb, cond_tt, cond_ff, toNat_cast, getD_lt _ hi, h0, Option.bind_some, Bool.not_true, bne_self, beq_selfS, beq_selfB, w64_succ (by omega : i < 4294967296)]
    · simp only [laws_eqPutS_l0.B, ge_dec (Nat.le_refl _), cond_ff]
  simp only [laws_eqPutS, bne_self, cond_ff, lp, Option.bind_some, sel]
theorem laws_eqDisk_ok (a : Disk_) (hw : wt tDisk_ a ≤ 2147483648) : laws_eqDisk a a = some true := by
  obtain ⟨x0, x1, ⟨⟩⟩ := a
  simp only [wt_sl, wt_pair, wt_int, wt_bool, wt_str, wt_unit] at hw
  have h_x0_0 := laws_eqInt64SS_ok x0 (by simp only [wt_sl, wt_pair, wt_int, wt_bool, wt_str, wt_unit]; omega)
  have h_x1_1 := laws_eqPutS_ok x1 (by simp only [wt_sl, wt_pair, wt_int, wt_bool, wt_str, wt_unit]; omega)
  simp only [laws_eqDisk, h_x0_0, h_x1_1, Option.bind_some, Bool.not_true, bne_self, beq_selfS, beq_selfB, cond_ff, cond_tt]
theorem laws_eqWorld_ok (a : World_) (hw : wt tWorld_ a ≤ 2147483648) : laws_eqWorld a a = some true := by
  obtain ⟨x0, x1, x2, ⟨⟩⟩ := a
  simp only [wt_sl, wt_pair, wt_int, wt_bool, wt_str, wt_unit] at hw
  have h_x0_0 := laws_eqDisk_ok x0 (by simp only [wt_sl, wt_pair, wt_int, wt_bool, wt_str, wt_unit]; omega)
  have h_x1_1 := laws_eqFs_ok x1 (by simp only [wt_sl, wt_pair, wt_int, wt_bool, wt_str, wt_unit]; omega)
  have h_x2_2 := laws_eqFs_ok x2 (by simp only [wt_sl, wt_pair, wt_int, wt_bool, wt_str, wt_unit]; omega)
  simp only [laws_eqWorld, h_x0_0, h_x1_1, h_x2_2, Option.bind_some, Bool.not_true, bne_self, beq_selfS, beq_selfB, cond_ff, cond_tt]
theorem laws_eqWorldResult_ok (a : WorldResult_) (hw : wt tWorldResult_ a ≤ 2147483648) : laws_eqWorldResult a a = some true := by
  obtain ⟨x0, x1, x2, ⟨⟩⟩ := a
  simp only [wt_sl, wt_pair, wt_int, wt_bool, wt_str, wt_unit] at hw
  have h_x1_0 := laws_eqCallResult_ok x1 (by simp only [wt_sl, wt_pair, wt_int, wt_bool, wt_str, wt_unit]; omega)
  have h_x2_1 := laws_eqWorld_ok x2 (by simp only [wt_sl, wt_pair, wt_int, wt_bool, wt_str, wt_unit]; omega)
  simp only [laws_eqWorldResult, h_x1_0, h_x2_1, Option.bind_some, Bool.not_true, bne_self, beq_selfS, beq_selfB, cond_ff, cond_tt]
theorem laws_markText_loop : ∀ (n : Nat) (k : Int) (out : List UInt8), 0 ≤ k → k < 10 ^ n → out.length + n ≤ 2147483648 → k ≤ 4611686018427387904 → ∃ s, laws_markText_l0 (k, out) = some s ∧ s.length ≤ out.length + n
  | 0, k, out, h0, h1, h2, h3 => by
    have : k = 0 := by simp at h1; omega
    subst this
    exact ⟨out, loopL_done (by simp only [laws_markText_l0.B]; rfl), by omega⟩
  | n + 1, k, out, h0, h1, h2, h3 => by
    by_cases hk : k = 0
    · subst hk; exact ⟨out, loopL_done (by simp only [laws_markText_l0.B]; rfl), by omega⟩
    · have hd : k.tdiv 10 = k / 10 := Int.tdiv_eq_ediv_of_nonneg h0
      have hq : w64 (k / 10) = k / 10 := w64_id (by omega) (by omega)
      have hp : k / 10 < 10 ^ n := by rw [Int.pow_succ] at h1; omega
      obtain ⟨s, hs, hl⟩ := laws_markText_loop n (k / 10) ((([IntKind.u8.wrap (w64 ((48 : Int) + (k.tmod 10)))]).map fun n => UInt8.ofNat n.toNat) ++ out) (by omega) hp (by simp; omega) (by omega)
      refine ⟨s, ?_, by simp at hl; omega⟩
      rw [← hs]
      refine loopL_step (s' := (k / 10, _)) ?_
      simp only [laws_markText_l0.B, show decide (k > 0) = true by simp; omega, cond_tt, show (!((10 : Int) == 0)) = true from rfl, Option.bind_some, hd, hq]
      rw [show decide ((([IntKind.u8.wrap (w64 ((48 : Int) + (k.tmod 10)))]).map fun n => UInt8.ofNat n.toNat).length + out.length ≤ 2147483648) = true by simp; omega]
      rfl
theorem laws_markText_ok (k : Int) (h : 0 ≤ k) (hk : k ≤ 4611686018427387904) : ∃ s, laws_markText k = some s := by
  obtain ⟨s, hs, hl⟩ := laws_markText_loop 19 k [] h (by omega) (by simp) hk
  simp only [laws_markText]
  cases decide (k ≤ 0)
  · simp only [cond_ff, hs, Option.bind_some]
    rw [show decide (([109] : List UInt8).length + s.length ≤ 2147483648) = true by simp at hl ⊢; omega]
    exact ⟨_, rfl⟩
  · exact ⟨_, rfl⟩
theorem laws_markByteS_ok (a : (List Int)) (k : Int) (hk : 0 ≤ k) (hw : k + wt (.sl (.int .u8)) a ≤ 4611686018427387904) (hz : wt (.sl (.int .u8)) a ≤ 2147483648) : MH laws_markByteS laws_heldByteS (wt (.sl (.int .u8)) a) a k := by
  simp only [wt_sl, wt_pair, wt_int, wt_bool, wt_str, wt_unit] at hw hz
  have hl : a.length ≤ 2147483648 := by have := len_sum (wt (.int .u8)) (fun x => by simp only [wt_sl, wt_pair, wt_int, wt_bool, wt_str, wt_unit]; omega) a; omega
  have hs : ∀ (k : Int) (i : Nat) (a : (List Int)) (h : i < a.length), a.length ≤ 2147483648 → 0 ≤ k → k + wt (.int .u8) a[i] ≤ 4611686018427387904 → wt (.int .u8) a[i] ≤ 2147483648 → ∃ k2 x2, k ≤ k2 ∧ k2 ≤ k + wt (.int .u8) a[i] ∧ laws_markByteS_l0.B k (i : Int) a = some (.inl (k2, ((i + 1 : Nat) : Int), a.set i x2)) ∧ ∀ b : (List Int), b.length = a.length → b[i]? = some x2 → laws_heldByteS_l0.B b k (i : Int) = some (.inl (k2, ((i + 1 : Nat) : Int))) := by
    clear hw hz hl hk k a
    intro k i a hi hl hk hw hz
    have hb : inB (i : Int) a.length = true := inB_ok (by omega) (by omega)
    simp only [wt_sl, wt_pair, wt_int, wt_bool, wt_str, wt_unit] at hw hz
    have w1 : w64 (k + 1) = k + 1 := w64s (by omega) (by omega)
    refine ⟨k + 1, (IntKind.u8.wrap (k)), by omega, by simp only [wt_sl, wt_pair, wt_int, wt_bool, wt_str, wt_unit]; omega, ?_, fun b hlb hx => ?_⟩
    · simp only [laws_markByteS_l0.B, lt_dec hi, hb, cond_tt, toNat_cast, getD_lt _ hi, Option.bind_some, w1, w64_succ (by omega : i < 4294967296), List.set_set, List.length_set, getD_set _ _ hi, show (!((3 : Int) == 0)) = true from rfl]
    · have hc : inB (i : Int) b.length = true := inB_ok (by omega) (by omega)
      have hd : decide ((i : Int) < (b.length : Int)) = true := lt_dec (by omega)
      simp only [laws_heldByteS_l0.B, hd, hc, cond_tt, cond_ff, toNat_cast, getD_of _ hx, Option.bind_some, bne_self, beq_selfS, beq_selfB, Bool.not_true, w1, w64_succ (by omega : i < 4294967296), List.set_set, List.length_set, getD_set _ _ hi, show (!((3 : Int) == 0)) = true from rfl]
  obtain ⟨k2, a2, e1, e2, e3, e4⟩ := mark_list0 (wt (.int .u8)) 4611686018427387904 (fun s => laws_markByteS_l0.B s.1 s.2.1 s.2.2) (fun b s => laws_heldByteS_l0.B b s.1 s.2) (fun k a => by simp only [laws_markByteS_l0.B, ge_dec (Nat.le_refl _), cond_ff]) (fun k a => by simp only [laws_heldByteS_l0.B, ge_dec (Nat.le_refl _), cond_ff]) hs k a hl hk (by omega) (by omega)
  refine ⟨k2, a2, e1, by simp only [wt_sl, wt_pair, wt_int, wt_bool, wt_str, wt_unit]; omega, ?_, ?_⟩
  · have : laws_markByteS_l0 (k, 0, a) = some (k2, a2) := e3
    simp only [laws_markByteS, this, Option.bind_some]
  · have : laws_heldByteS_l0 a2 (k, 0) = some (.inr k2) := e4
    simp only [laws_heldByteS, this, Option.bind_some, sel]
theorem laws_markStringS_ok (a : (List (List UInt8))) (k : Int) (hk : 0 ≤ k) (hw : k + wt (.sl .str) a ≤ 4611686018427387904) (hz : wt (.sl .str) a ≤ 2147483648) : MH laws_markStringS laws_heldStringS (wt (.sl .str) a) a k := by
  simp only [wt_sl, wt_pair, wt_int, wt_bool, wt_str, wt_unit] at hw hz
  have hl : a.length ≤ 2147483648 := by have := len_sum (wt .str) (fun x => by simp only [wt_sl, wt_pair, wt_int, wt_bool, wt_str, wt_unit]; omega) a; omega
  have hs : ∀ (k : Int) (i : Nat) (a : (List (List UInt8))) (h : i < a.length), a.length ≤ 2147483648 → 0 ≤ k → k + wt .str a[i] ≤ 4611686018427387904 → wt .str a[i] ≤ 2147483648 → ∃ k2 x2, k ≤ k2 ∧ k2 ≤ k + wt .str a[i] ∧ laws_markStringS_l0.B k (i : Int) a = some (.inl (k2, ((i + 1 : Nat) : Int), a.set i x2)) ∧ ∀ b : (List (List UInt8)), b.length = a.length → b[i]? = some x2 → laws_heldStringS_l0.B b k (i : Int) = some (.inl (k2, ((i + 1 : Nat) : Int))) := by
    clear hw hz hl hk k a
    intro k i a hi hl hk hw hz
    have hb : inB (i : Int) a.length = true := inB_ok (by omega) (by omega)
    simp only [wt_sl, wt_pair, wt_int, wt_bool, wt_str, wt_unit] at hw hz
    obtain ⟨s1, w1⟩ := laws_markText_ok (k) (by omega) (by omega)
    have w2 : w64 (k + 1) = k + 1 := w64s (by omega) (by omega)
    refine ⟨k + 1, s1, by omega, by simp only [wt_sl, wt_pair, wt_int, wt_bool, wt_str, wt_unit]; omega, ?_, fun b hlb hx => ?_⟩
    · simp only [laws_markStringS_l0.B, lt_dec hi, hb, cond_tt, toNat_cast, getD_lt _ hi, Option.bind_some, w1, w2, w64_succ (by omega : i < 4294967296), List.set_set, List.length_set, getD_set _ _ hi, show (!((3 : Int) == 0)) = true from rfl]
    · have hc : inB (i : Int) b.length = true := inB_ok (by omega) (by omega)
      have hd : decide ((i : Int) < (b.length : Int)) = true := lt_dec (by omega)
      simp only [laws_heldStringS_l0.B, hd, hc, cond_tt, cond_ff, toNat_cast, getD_of _ hx, Option.bind_some, bne_self, beq_selfS, beq_selfB, Bool.not_true, w1, w2, w64_succ (by omega : i < 4294967296), List.set_set, List.length_set, getD_set _ _ hi, show (!((3 : Int) == 0)) = true from rfl]
  obtain ⟨k2, a2, e1, e2, e3, e4⟩ := mark_list0 (wt .str) 4611686018427387904 (fun s => laws_markStringS_l0.B s.1 s.2.1 s.2.2) (fun b s => laws_heldStringS_l0.B b s.1 s.2) (fun k a => by simp only [laws_markStringS_l0.B, ge_dec (Nat.le_refl _), cond_ff]) (fun k a => by simp only [laws_heldStringS_l0.B, ge_dec (Nat.le_refl _), cond_ff]) hs k a hl hk (by omega) (by omega)
  refine ⟨k2, a2, e1, by simp only [wt_sl, wt_pair, wt_int, wt_bool, wt_str, wt_unit]; omega, ?_, ?_⟩
  · have : laws_markStringS_l0 (k, 0, a) = some (k2, a2) := e3
    simp only [laws_markStringS, this, Option.bind_some]
  · have : laws_heldStringS_l0 a2 (k, 0) = some (.inr k2) := e4
    simp only [laws_heldStringS, this, Option.bind_some, sel]
theorem laws_markInt64S_ok (a : (List Int)) (k : Int) (hk : 0 ≤ k) (hw : k + wt (.sl (.int .i64)) a ≤ 4611686018427387904) (hz : wt (.sl (.int .i64)) a ≤ 2147483648) : MH laws_markInt64S laws_heldInt64S (wt (.sl (.int .i64)) a) a k := by
  simp only [wt_sl, wt_pair, wt_int, wt_bool, wt_str, wt_unit] at hw hz
  have hl : a.length ≤ 2147483648 := by have := len_sum (wt (.int .i64)) (fun x => by simp only [wt_sl, wt_pair, wt_int, wt_bool, wt_str, wt_unit]; omega) a; omega
  have hs : ∀ (k : Int) (i : Nat) (a : (List Int)) (h : i < a.length), a.length ≤ 2147483648 → 0 ≤ k → k + wt (.int .i64) a[i] ≤ 4611686018427387904 → wt (.int .i64) a[i] ≤ 2147483648 → ∃ k2 x2, k ≤ k2 ∧ k2 ≤ k + wt (.int .i64) a[i] ∧ laws_markInt64S_l0.B k (i : Int) a = some (.inl (k2, ((i + 1 : Nat) : Int), a.set i x2)) ∧ ∀ b : (List Int), b.length = a.length → b[i]? = some x2 → laws_heldInt64S_l0.B b k (i : Int) = some (.inl (k2, ((i + 1 : Nat) : Int))) := by
    clear hw hz hl hk k a
    intro k i a hi hl hk hw hz
    have hb : inB (i : Int) a.length = true := inB_ok (by omega) (by omega)
    simp only [wt_sl, wt_pair, wt_int, wt_bool, wt_str, wt_unit] at hw hz
    have w1 : w64 (k + 1) = k + 1 := w64s (by omega) (by omega)
    refine ⟨k + 1, k, by omega, by simp only [wt_sl, wt_pair, wt_int, wt_bool, wt_str, wt_unit]; omega, ?_, fun b hlb hx => ?_⟩
    · simp only [laws_markInt64S_l0.B, lt_dec hi, hb, cond_tt, toNat_cast, getD_lt _ hi, Option.bind_some, w1, w64_succ (by omega : i < 4294967296), List.set_set, List.length_set, getD_set _ _ hi, show (!((3 : Int) == 0)) = true from rfl]
    · have hc : inB (i : Int) b.length = true := inB_ok (by omega) (by omega)
      have hd : decide ((i : Int) < (b.length : Int)) = true := lt_dec (by omega)
      simp only [laws_heldInt64S_l0.B, hd, hc, cond_tt, cond_ff, toNat_cast, getD_of _ hx, Option.bind_some, bne_self, beq_selfS, beq_selfB, Bool.not_true, w1, w64_succ (by omega : i < 4294967296), List.set_set, List.length_set, getD_set _ _ hi, show (!((3 : Int) == 0)) = true from rfl]
  obtain ⟨k2, a2, e1, e2, e3, e4⟩ := mark_list0 (wt (.int .i64)) 4611686018427387904 (fun s => laws_markInt64S_l0.B s.1 s.2.1 s.2.2) (fun b s => laws_heldInt64S_l0.B b s.1 s.2) (fun k a => by simp only [laws_markInt64S_l0.B, ge_dec (Nat.le_refl _), cond_ff]) (fun k a => by simp only [laws_heldInt64S_l0.B, ge_dec (Nat.le_refl _), cond_ff]) hs k a hl hk (by omega) (by omega)
  refine ⟨k2, a2, e1, by simp only [wt_sl, wt_pair, wt_int, wt_bool, wt_str, wt_unit]; omega, ?_, ?_⟩
  · have : laws_markInt64S_l0 (k, 0, a) = some (k2, a2) := e3
    simp only [laws_markInt64S, this, Option.bind_some]
  · have : laws_heldInt64S_l0 a2 (k, 0) = some (.inr k2) := e4
    simp only [laws_heldInt64S, this, Option.bind_some, sel]
theorem laws_markEntryS_ok (a : (List Entry_)) (k : Int) (hk : 0 ≤ k) (hw : k + wt (.sl tEntry_) a ≤ 4611686018427387904) (hz : wt (.sl tEntry_) a ≤ 2147483648) : MH laws_markEntryS laws_heldEntryS (wt (.sl tEntry_) a) a k := by
  simp only [wt_sl, wt_pair, wt_int, wt_bool, wt_str, wt_unit] at hw hz
  have hl : a.length ≤ 2147483648 := by have := len_sum (wt tEntry_) (fun x => by simp only [wt_sl, wt_pair, wt_int, wt_bool, wt_str, wt_unit]; omega) a; omega
  have hs : ∀ (k : Int) (i : Nat) (a : (List Entry_)) (h : i < a.length), a.length ≤ 2147483648 → 0 ≤ k → k + wt tEntry_ a[i] ≤ 4611686018427387904 → wt tEntry_ a[i] ≤ 2147483648 → ∃ k2 x2, k ≤ k2 ∧ k2 ≤ k + wt tEntry_ a[i] ∧ laws_markEntryS_l0.B k (i : Int) a = some (.inl (k2, ((i + 1 : Nat) : Int), a.set i x2)) ∧ ∀ b : (List Entry_), b.length = a.length → b[i]? = some x2 → laws_heldEntryS_l0.B b k (i : Int) = some (.inl (k2, ((i + 1 : Nat) : Int))) := by
    clear hw hz hl hk k a
    intro k i a hi hl hk hw hz
    have hb : inB (i : Int) a.length = true := inB_ok (by omega) (by omega)
    simp only [wt_sl, wt_pair, wt_int, wt_bool, wt_str, wt_unit] at hw hz
    obtain ⟨s1, w1⟩ := laws_markText_ok (k) (by omega) (by omega)
    have w2 : w64 (k + 1) = k + 1 := w64s (by omega) (by omega)
    have w3 : w64 (k + 1 + 1) = k + 1 + 1 := w64s (by omega) (by omega)
    refine ⟨k + 1 + 1, (s1, k + 1, ()), by omega, by simp only [wt_sl, wt_pair, wt_int, wt_bool, wt_str, wt_unit]; omega, ?_, fun b hlb hx => ?_⟩
    · simp only [laws_markEntryS_l0.B, lt_dec hi, hb, cond_tt, toNat_cast, getD_lt _ hi, Option.bind_some, w1, w2, w3, w64_succ (by omega : i < 4294967296), List.set_set, List.length_set, getD_set _ _ hi, show (!((3 : Int) == 0)) = true from rfl]
    · have hc : inB (i : Int) b.length = true := inB_ok (by omega) (by omega)
      have hd : decide ((i : Int) < (b.length : Int)) = true := lt_dec (by omega)
      simp only [laws_heldEntryS_l0.B, hd, hc, cond_tt, cond_ff, toNat_cast, getD_of _ hx, Option.bind_some, bne_self, beq_selfS, beq_selfB, Bool.not_true, w1, w2, w3, w64_succ (by omega : i < 4294967296), List.set_set, List.length_set, getD_set _ _ hi, show (!((3 : Int) == 0)) = true from rfl]
  obtain ⟨k2, a2, e1, e2, e3, e4⟩ := mark_list0 (wt tEntry_) 4611686018427387904 (fun s => laws_markEntryS_l0.B s.1 s.2.1 s.2.2) (fun b s => laws_heldEntryS_l0.B b s.1 s.2) (fun k a => by simp only [laws_markEntryS_l0.B, ge_dec (Nat.le_refl _), cond_ff]) (fun k a => by simp only [laws_heldEntryS_l0.B, ge_dec (Nat.le_refl _), cond_ff]) hs k a hl hk (by omega) (by omega)
  refine ⟨k2, a2, e1, by simp only [wt_sl, wt_pair, wt_int, wt_bool, wt_str, wt_unit]; omega, ?_, ?_⟩
  · have : laws_markEntryS_l0 (k, 0, a) = some (k2, a2) := e3
    simp only [laws_markEntryS, this, Option.bind_some]
  · have : laws_heldEntryS_l0 a2 (k, 0) = some (.inr k2) := e4
    simp only [laws_heldEntryS, this, Option.bind_some, sel]
theorem laws_markInodeS_ok (a : (List Inode_)) (k : Int) (hk : 0 ≤ k) (hw : k + wt (.sl tInode_) a ≤ 4611686018427387904) (hz : wt (.sl tInode_) a ≤ 2147483648) : MH laws_markInodeS laws_heldInodeS (wt (.sl tInode_) a) a k := by
  simp only [wt_sl, wt_pair, wt_int, wt_bool, wt_str, wt_unit] at hw hz
  have hl : a.length ≤ 2147483648 := by have := len_sum (wt tInode_) (fun x => by simp only [wt_sl, wt_pair, wt_int, wt_bool, wt_str, wt_unit]; omega) a; omega
  have hs : ∀ (k : Int) (i : Nat) (a : (List Inode_)) (h : i < a.length), a.length ≤ 2147483648 → 0 ≤ k → k + wt tInode_ a[i] ≤ 4611686018427387904 → wt tInode_ a[i] ≤ 2147483648 → ∃ k2 x2, k ≤ k2 ∧ k2 ≤ k + wt tInode_ a[i] ∧ laws_markInodeS_l0.B k (i : Int) a = some (.inl (k2, ((i + 1 : Nat) : Int), a.set i x2)) ∧ ∀ b : (List Inode_), b.length = a.length → b[i]? = some x2 → laws_heldInodeS_l0.B b k (i : Int) = some (.inl (k2, ((i + 1 : Nat) : Int))) := by
    clear hw hz hl hk k a
    intro k i a hi hl hk hw hz
    have hb : inB (i : Int) a.length = true := inB_ok (by omega) (by omega)
    simp only [wt_sl, wt_pair, wt_int, wt_bool, wt_str, wt_unit] at hw hz
    have w1 : w64 (k + 1) = k + 1 := w64s (by omega) (by omega)
    have w2 : w64 (k + 1 + 1) = k + 1 + 1 := w64s (by omega) (by omega)
    have w3 : w64 (k + 1 + 1 + 1) = k + 1 + 1 + 1 := w64s (by omega) (by omega)
    obtain ⟨k4, y4, l4, u4, w4, v4⟩ := laws_markInt64S_ok a[i].2.2.2.1 (k + 1 + 1 + 1) (by omega) (by simp only [wt_sl, wt_pair, wt_int, wt_bool, wt_str, wt_unit]; omega) (by simp only [wt_sl, wt_pair, wt_int, wt_bool, wt_str, wt_unit]; omega)
    simp only [wt_sl, wt_pair, wt_int, wt_bool, wt_str, wt_unit] at u4
    obtain ⟨k5, y5, l5, u5, w5, v5⟩ := laws_markEntryS_ok a[i].2.2.2.2.1 (k4) (by omega) (by simp only [wt_sl, wt_pair, wt_int, wt_bool, wt_str, wt_unit]; omega) (by simp only [wt_sl, wt_pair, wt_int, wt_bool, wt_str, wt_unit]; omega)
    simp only [wt_sl, wt_pair, wt_int, wt_bool, wt_str, wt_unit] at u5
    refine ⟨k5, (k, k + 1, k + 1 + 1, y4, y5, ()), by omega, by simp only [wt_sl, wt_pair, wt_int, wt_bool, wt_str, wt_unit]; omega, ?_, fun b hlb hx => ?_⟩
    · simp only [laws_markInodeS_l0.B, lt_dec hi, hb, cond_tt, toNat_cast, getD_lt _ hi, Option.bind_some, w1, w2, w3, v4, w4, v5, w5, w64_succ (by omega : i < 4294967296), List.set_set, List.length_set, getD_set _ _ hi, show (!((3 : Int) == 0)) = true from rfl]
    · have hc : inB (i : Int) b.length = true := inB_ok (by omega) (by omega)
      have hd : decide ((i : Int) < (b.length : Int)) = true := lt_dec (by omega)
      simp only [laws_heldInodeS_l0.B, hd, hc, cond_tt, cond_ff, toNat_cast, getD_of _ hx, Option.bind_some, bne_self, beq_selfS, beq_selfB, Bool.not_true, w1, w2, w3, v4, w4, v5, w5, neg_dec (by omega : 0 ≤ k4), neg_dec (by omega : 0 ≤ k5), w64_succ (by omega : i < 4294967296), List.set_set, List.length_set, getD_set _ _ hi, show (!((3 : Int) == 0)) = true from rfl]
  obtain ⟨k2, a2, e1, e2, e3, e4⟩ := mark_list0 (wt tInode_) 4611686018427387904 (fun s => laws_markInodeS_l0.B s.1 s.2.1 s.2.2) (fun b s => laws_heldInodeS_l0.B b s.1 s.2) (fun k a => by simp only [laws_markInodeS_l0.B, ge_dec (Nat.le_refl _), cond_ff]) (fun k a => by simp only [laws_heldInodeS_l0.B, ge_dec (Nat.le_refl _), cond_ff]) hs k a hl hk (by omega) (by omega)
  refine ⟨k2, a2, e1, by simp only [wt_sl, wt_pair, wt_int, wt_bool, wt_str, wt_unit]; omega, ?_, ?_⟩
  · have : laws_markInodeS_l0 (k, 0, a) = some (k2, a2) := e3
    simp only [laws_markInodeS, this, Option.bind_some]
  · have : laws_heldInodeS_l0 a2 (k, 0) = some (.inr k2) := e4
    simp only [laws_heldInodeS, this, Option.bind_some, sel]
theorem laws_markByteSS_ok (a : (List (List Int))) (k : Int) (hk : 0 ≤ k) (hw : k + wt (.sl (.sl (.int .u8))) a ≤ 4611686018427387904) (hz : wt (.sl (.sl (.int .u8))) a ≤ 2147483648) : MH laws_markByteSS laws_heldByteSS (wt (.sl (.sl (.int .u8))) a) a k := by
  simp only [wt_sl, wt_pair, wt_int, wt_bool, wt_str, wt_unit] at hw hz
  have hl : a.length ≤ 2147483648 := by have := len_sum (wt (.sl (.int .u8))) (fun x => by simp only [wt_sl, wt_pair, wt_int, wt_bool, wt_str, wt_unit]; omega) a; omega
  have hs : ∀ (k : Int) (i : Nat) (a : (List (List Int))) (h : i < a.length), a.length ≤ 2147483648 → 0 ≤ k → k + wt (.sl (.int .u8)) a[i] ≤ 4611686018427387904 → wt (.sl (.int .u8)) a[i] ≤ 2147483648 → ∃ k2 x2, k ≤ k2 ∧ k2 ≤ k + wt (.sl (.int .u8)) a[i] ∧ laws_markByteSS_l0.B k (i : Int) a = some (.inl (k2, ((i + 1 : Nat) : Int), a.set i x2)) ∧ ∀ b : (List (List Int)), b.length = a.length → b[i]? = some x2 → laws_heldByteSS_l0.B b k (i : Int) = some (.inl (k2, ((i + 1 : Nat) : Int))) := by
    clear hw hz hl hk k a
    intro k i a hi hl hk hw hz
    have hb : inB (i : Int) a.length = true := inB_ok (by omega) (by omega)
    simp only [wt_sl, wt_pair, wt_int, wt_bool, wt_str, wt_unit] at hw hz
    obtain ⟨k1, y1, l1, u1, w1, v1⟩ := laws_markByteS_ok a[i] (k) (by omega) (by simp only [wt_sl, wt_pair, wt_int, wt_bool, wt_str, wt_unit]; omega) (by simp only [wt_sl, wt_pair, wt_int, wt_bool, wt_str, wt_unit]; omega)
    simp only [wt_sl, wt_pair, wt_int, wt_bool, wt_str, wt_unit] at u1
    refine ⟨k1, y1, by omega, by simp only [wt_sl, wt_pair, wt_int, wt_bool, wt_str, wt_unit]; omega, ?_, fun b hlb hx => ?_⟩
    · simp only [laws_markByteSS_l0.B, lt_dec hi, hb, cond_tt, toNat_cast, getD_lt _ hi, Option.bind_some, v1, w1, w64_succ (by omega : i < 4294967296), List.set_set, List.length_set, getD_set _ _ hi, show (!((3 : Int) == 0)) = true from rfl]
    · have hc : inB (i : Int) b.length = true := inB_ok (by omega) (by omega)
      have hd : decide ((i : Int) < (b.length : Int)) = true := lt_dec (by omega)
      simp only [laws_heldByteSS_l0.B, hd, hc, cond_tt, cond_ff, toNat_cast, getD_of _ hx, Option.bind_some, bne_self, beq_selfS, beq_selfB, Bool.not_true, v1, w1, neg_dec (by omega : 0 ≤ k1), w64_succ (by omega : i < 4294967296), List.set_set, List.length_set, getD_set _ _ hi, show (!((3 : Int) == 0)) = true from rfl]
  obtain ⟨k2, a2, e1, e2, e3, e4⟩ := mark_list0 (wt (.sl (.int .u8))) 4611686018427387904 (fun s => laws_markByteSS_l0.B s.1 s.2.1 s.2.2) (fun b s => laws_heldByteSS_l0.B b s.1 s.2) (fun k a => by simp only [laws_markByteSS_l0.B, ge_dec (Nat.le_refl _), cond_ff]) (fun k a => by simp only [laws_heldByteSS_l0.B, ge_dec (Nat.le_refl _), cond_ff]) hs k a hl hk (by omega) (by omega)
  refine ⟨k2, a2, e1, by simp only [wt_sl, wt_pair, wt_int, wt_bool, wt_str, wt_unit]; omega, ?_, ?_⟩
  · have : laws_markByteSS_l0 (k, 0, a) = some (k2, a2) := e3
    simp only [laws_markByteSS, this, Option.bind_some]
  · have : laws_heldByteSS_l0 a2 (k, 0) = some (.inr k2) := e4
    simp only [laws_heldByteSS, this, Option.bind_some, sel]
theorem laws_markFs_ok (x_0 : List Inode_) (x_1 : List (List Int)) (k : Int) (hk : 0 ≤ k) (hw : k + wt tFs_ (x_0, x_1, ()) ≤ 4611686018427387904) (hz : wt tFs_ (x_0, x_1, ()) ≤ 2147483648) : ∃ k2 y0 y1, k ≤ k2 ∧ k2 ≤ k + wt tFs_ (x_0, x_1, ()) ∧ laws_markFs (x_0, x_1, ()) k = some (k2, (y0, y1, ())) ∧ laws_heldFs (y0, y1, ()) k = some k2 := by
  simp only [wt_sl, wt_pair, wt_int, wt_bool, wt_str, wt_unit] at hw hz
  obtain ⟨k0, y0, l0, u0, w0, v0⟩ := laws_markInodeS_ok x_0 k (by omega) (by simp only [wt_sl, wt_pair, wt_int, wt_bool, wt_str, wt_unit]; omega) (by simp only [wt_sl, wt_pair, wt_int, wt_bool, wt_str, wt_unit]; omega)
  simp only [wt_sl, wt_pair, wt_int, wt_bool, wt_str, wt_unit] at u0
  obtain ⟨k1, y1, l1, u1, w1, v1⟩ := laws_markByteSS_ok x_1 k0 (by omega) (by simp only [wt_sl, wt_pair, wt_int, wt_bool, wt_str, wt_unit]; omega) (by simp only [wt_sl, wt_pair, wt_int, wt_bool, wt_str, wt_unit]; omega)
  simp only [wt_sl, wt_pair, wt_int, wt_bool, wt_str, wt_unit] at u1
  refine ⟨k1, y0, y1, by omega, by simp only [wt_sl, wt_pair, wt_int, wt_bool, wt_str, wt_unit]; omega, ?_, ?_⟩
  · simp only [laws_markFs, w0, w1, Option.bind_some, peta]
  · simp only [laws_heldFs, v0, v1, Option.bind_some, cond_ff, neg_dec (by omega : 0 ≤ k0), neg_dec (by omega : 0 ≤ k1)]
theorem laws_markCallResult_ok (x_0 : Int) (x_1 : Int) (x_2 : Int) (x_3 : List Int) (x_4 : List (List UInt8)) (x_5_0 : List Inode_) (x_5_1 : List (List Int)) (k : Int) (hk : 0 ≤ k) (hw : k + wt tCallResult_ (x_0, x_1, x_2, x_3, x_4, (x_5_0, x_5_1, ()), ()) ≤ 4611686018427387904) (hz : wt tCallResult_ (x_0, x_1, x_2, x_3, x_4, (x_5_0, x_5_1, ()), ()) ≤ 2147483648) : ∃ k2 y0 y1 y2 y3, k ≤ k2 ∧ k2 ≤ k + wt tCallResult_ (x_0, x_1, x_2, x_3, x_4, (x_5_0, x_5_1, ()), ()) ∧ laws_markCallResult (x_0, x_1, x_2, x_3, x_4, (x_5_0, x_5_1, ()), ()) k = some (k2, (x_0, x_1, x_2, y0, y1, (y2, y3, ()), ())) ∧ laws_heldCallResult (x_0, x_1, x_2, y0, y1, (y2, y3, ()), ()) k = some k2 := by
  simp only [wt_sl, wt_pair, wt_int, wt_bool, wt_str, wt_unit] at hw hz
  obtain ⟨k0, y0, l0, u0, w0, v0⟩ := laws_markByteS_ok x_3 k (by omega) (by simp only [wt_sl, wt_pair, wt_int, wt_bool, wt_str, wt_unit]; omega) (by simp only [wt_sl, wt_pair, wt_int, wt_bool, wt_str, wt_unit]; omega)
  simp only [wt_sl, wt_pair, wt_int, wt_bool, wt_str, wt_unit] at u0
  obtain ⟨k1, y1, l1, u1, w1, v1⟩ := laws_markStringS_ok x_4 k0 (by omega) (by simp only [wt_sl, wt_pair, wt_int, wt_bool, wt_str, wt_unit]; omega) (by simp only [wt_sl, wt_pair, wt_int, wt_bool, wt_str, wt_unit]; omega)
  simp only [wt_sl, wt_pair, wt_int, wt_bool, wt_str, wt_unit] at u1
  obtain ⟨k2, y2, l2, u2, w2, v2⟩ := laws_markInodeS_ok x_5_0 k1 (by omega) (by simp only [wt_sl, wt_pair, wt_int, wt_bool, wt_str, wt_unit]; omega) (by simp only [wt_sl, wt_pair, wt_int, wt_bool, wt_str, wt_unit]; omega)
  simp only [wt_sl, wt_pair, wt_int, wt_bool, wt_str, wt_unit] at u2
  obtain ⟨k3, y3, l3, u3, w3, v3⟩ := laws_markByteSS_ok x_5_1 k2 (by omega) (by simp only [wt_sl, wt_pair, wt_int, wt_bool, wt_str, wt_unit]; omega) (by simp only [wt_sl, wt_pair, wt_int, wt_bool, wt_str, wt_unit]; omega)
  simp only [wt_sl, wt_pair, wt_int, wt_bool, wt_str, wt_unit] at u3
  refine ⟨k3, y0, y1, y2, y3, by omega, by simp only [wt_sl, wt_pair, wt_int, wt_bool, wt_str, wt_unit]; omega, ?_, ?_⟩
  · simp only [laws_markCallResult, laws_markFs, w0, w1, w2, w3, Option.bind_some, peta]
  · simp only [laws_heldCallResult, laws_heldFs, v0, v1, v2, v3, Option.bind_some, cond_ff, neg_dec (by omega : 0 ≤ k0), neg_dec (by omega : 0 ≤ k1), neg_dec (by omega : 0 ≤ k2), neg_dec (by omega : 0 ≤ k3)]
theorem laws_markInt64SS_ok (a : (List (List Int))) (k : Int) (hk : 0 ≤ k) (hw : k + wt (.sl (.sl (.int .i64))) a ≤ 4611686018427387904) (hz : wt (.sl (.sl (.int .i64))) a ≤ 2147483648) : MH laws_markInt64SS laws_heldInt64SS (wt (.sl (.sl (.int .i64))) a) a k := by
  simp only [wt_sl, wt_pair, wt_int, wt_bool, wt_str, wt_unit] at hw hz
  have hl : a.length ≤ 2147483648 := by have := len_sum (wt (.sl (.int .i64))) (fun x => by simp only [wt_sl, wt_pair, wt_int, wt_bool, wt_str, wt_unit]; omega) a; omega
  have hs : ∀ (k : Int) (i : Nat) (a : (List (List Int))) (h : i < a.length), a.length ≤ 2147483648 → 0 ≤ k → k + wt (.sl (.int .i64)) a[i] ≤ 4611686018427387904 → wt (.sl (.int .i64)) a[i] ≤ 2147483648 → ∃ k2 x2, k ≤ k2 ∧ k2 ≤ k + wt (.sl (.int .i64)) a[i] ∧ laws_markInt64SS_l0.B k (i : Int) a = some (.inl (k2, ((i + 1 : Nat) : Int), a.set i x2)) ∧ ∀ b : (List (List Int)), b.length = a.length → b[i]? = some x2 → laws_heldInt64SS_l0.B b k (i : Int) = some (.inl (k2, ((i + 1 : Nat) : Int))) := by
    clear hw hz hl hk k a
    intro k i a hi hl hk hw hz
    have hb : inB (i : Int) a.length = true := inB_ok (by omega) (by omega)
    simp only [wt_sl, wt_pair, wt_int, wt_bool, wt_str, wt_unit] at hw hz
    obtain ⟨k1, y1, l1, u1, w1, v1⟩ := laws_markInt64S_ok a[i] (k) (by omega) (by simp only [wt_sl, wt_pair, wt_int, wt_bool, wt_str, wt_unit]; omega) (by simp only [wt_sl, wt_pair, wt_int, wt_bool, wt_str, wt_unit]; omega)
    simp only [wt_sl, wt_pair, wt_int, wt_bool, wt_str, wt_unit] at u1
    refine ⟨k1, y1, by omega, by simp only [wt_sl, wt_pair, wt_int, wt_bool, wt_str, wt_unit]; omega, ?_, fun b hlb hx => ?_⟩
    · simp only [laws_markInt64SS_l0.B, lt_dec hi, hb, cond_tt, toNat_cast, getD_lt _ hi, Option.bind_some, v1, w1, w64_succ (by omega : i < 4294967296), List.set_set, List.length_set, getD_set _ _ hi, show (!((3 : Int) == 0)) = true from rfl]
    · have hc : inB (i : Int) b.length = true := inB_ok (by omega) (by omega)
      have hd : decide ((i : Int) < (b.length : Int)) = true := lt_dec (by omega)
      simp only [laws_heldInt64SS_l0.B, hd, hc, cond_tt, cond_ff, toNat_cast, getD_of _ hx, Option.bind_some, bne_self, beq_selfS, beq_selfB, Bool.not_true, v1, w1, neg_dec (by omega : 0 ≤ k1), w64_succ (by omega : i < 4294967296), List.set_set, List.length_set, getD_set _ _ hi, show (!((3 : Int) == 0)) = true from rfl]
  obtain ⟨k2, a2, e1, e2, e3, e4⟩ := mark_list0 (wt (.sl (.int .i64))) 4611686018427387904 (fun s => laws_markInt64SS_l0.B s.1 s.2.1 s.2.2) (fun b s => laws_heldInt64SS_l0.B b s.1 s.2) (fun k a => by simp only [laws_markInt64SS_l0.B, ge_dec (Nat.le_refl _), cond_ff]) (fun k a => by simp only [laws_heldInt64SS_l0.B, ge_dec (Nat.le_refl _), cond_ff]) hs k a hl hk (by omega) (by omega)
  refine ⟨k2, a2, e1, by simp only [wt_sl, wt_pair, wt_int, wt_bool, wt_str, wt_unit]; omega, ?_, ?_⟩
  · have : laws_markInt64SS_l0 (k, 0, a) = some (k2, a2) := e3
    simp only [laws_markInt64SS, this, Option.bind_some]
  · have : laws_heldInt64SS_l0 a2 (k, 0) = some (.inr k2) := e4
    simp only [laws_heldInt64SS, this, Option.bind_some, sel]
theorem laws_markPutS_ok (a : (List Put_)) (k : Int) (hk : 0 ≤ k) (hw : k + wt (.sl tPut_) a ≤ 4611686018427387904) (hz : wt (.sl tPut_) a ≤ 2147483648) : MH laws_markPutS laws_heldPutS (wt (.sl tPut_) a) a k := by
  simp only [wt_sl, wt_pair, wt_int, wt_bool, wt_str, wt_unit] at hw hz
  have hl : a.length ≤ 2147483648 := by have := len_sum (wt tPut_) (fun x => by simp only [wt_sl, wt_pair, wt_int, wt_bool, wt_str, wt_unit]; omega) a; omega
  have hs : ∀ (k : Int) (i : Nat) (a : (List Put_)) (h : i < a.length), a.length ≤ 2147483648 → 0 ≤ k → k + wt tPut_ a[i] ≤ 4611686018427387904 → wt tPut_ a[i] ≤ 2147483648 → ∃ k2 x2, k ≤ k2 ∧ k2 ≤ k + wt tPut_ a[i] ∧ laws_markPutS_l0.B k (i : Int) a = some (.inl (k2, ((i + 1 : Nat) : Int), a.set i x2)) ∧ ∀ b : (List Put_), b.length = a.length → b[i]? = some x2 → laws_heldPutS_l0.B b k (i : Int) = some (.inl (k2, ((i + 1 : Nat) : Int))) := by
    clear hw hz hl hk k a
    intro k i a hi hl hk hw hz
    have hb : inB (i : Int) a.length = true := inB_ok (by omega) (by omega)
    simp only [wt_sl, wt_pair, wt_int, wt_bool, wt_str, wt_unit] at hw hz
    have w1 : w64 (k + 1) = k + 1 := w64s (by omega) (by omega)
    obtain ⟨k2, y2, l2, u2, w2, v2⟩ := laws_markInt64S_ok a[i].2.1 (k + 1) (by omega) (by simp only [wt_sl, wt_pair, wt_int, wt_bool, wt_str, wt_unit]; omega) (by simp only [wt_sl, wt_pair, wt_int, wt_bool, wt_str, wt_unit]; omega)
    simp only [wt_sl, wt_pair, wt_int, wt_bool, wt_str, wt_unit] at u2
    refine ⟨k2, (k, y2, ()), by omega, by simp only [wt_sl, wt_pair, wt_int, wt_bool, wt_str, wt_unit]; omega, ?_, fun b hlb hx => ?_⟩
    · simp only [laws_markPutS_l0.B, lt_dec hi, hb, cond_tt, toNat_cast, getD_lt _ hi, Option.bind_some, w1, v2, w2, w64_succ (by omega : i < 4294967296), List.set_set, List.length_set, getD_set _ _ hi, show (!((3 : Int) == 0)) = true from rfl]
    · have hc : inB (i : Int) b.length = true := inB_ok (by omega) (by omega)
      have hd : decide ((i : Int) < (b.length : Int)) = true := lt_dec (by omega)
      simp only [laws_heldPutS_l0.B, hd, hc, cond_tt, cond_ff, toNat_cast, getD_of _ hx, Option.bind_some, bne_self, beq_selfS, beq_selfB, Bool.not_true, w1, v2, w2, neg_dec (by omega : 0 ≤ k2), w64_succ (by omega : i < 4294967296), List.set_set, List.length_set, getD_set _ _ hi, show (!((3 : Int) == 0)) = true from rfl]
  obtain ⟨k2, a2, e1, e2, e3, e4⟩ := mark_list0 (wt tPut_) 4611686018427387904 (fun s => laws_markPutS_l0.B s.1 s.2.1 s.2.2) (fun b s => laws_heldPutS_l0.B b s.1 s.2) (fun k a => by simp only [laws_markPutS_l0.B, ge_dec (Nat.le_refl _), cond_ff]) (fun k a => by simp only [laws_heldPutS_l0.B, ge_dec (Nat.le_refl _), cond_ff]) hs k a hl hk (by omega) (by omega)
  refine ⟨k2, a2, e1, by simp only [wt_sl, wt_pair, wt_int, wt_bool, wt_str, wt_unit]; omega, ?_, ?_⟩
  · have : laws_markPutS_l0 (k, 0, a) = some (k2, a2) := e3
    simp only [laws_markPutS, this, Option.bind_some]
  · have : laws_heldPutS_l0 a2 (k, 0) = some (.inr k2) := e4
    simp only [laws_heldPutS, this, Option.bind_some, sel]
theorem laws_markDisk_ok (x_0 : List (List Int)) (x_1 : List Put_) (k : Int) (hk : 0 ≤ k) (hw : k + wt tDisk_ (x_0, x_1, ()) ≤ 4611686018427387904) (hz : wt tDisk_ (x_0, x_1, ()) ≤ 2147483648) : ∃ k2 y0 y1, k ≤ k2 ∧ k2 ≤ k + wt tDisk_ (x_0, x_1, ()) ∧ laws_markDisk (x_0, x_1, ()) k = some (k2, (y0, y1, ())) ∧ laws_heldDisk (y0, y1, ()) k = some k2 := by
  simp only [wt_sl, wt_pair, wt_int, wt_bool, wt_str, wt_unit] at hw hz
  obtain ⟨k0, y0, l0, u0, w0, v0⟩ := laws_markInt64SS_ok x_0 k (by omega) (by simp only [wt_sl, wt_pair, wt_int, wt_bool, wt_str, wt_unit]; omega) (by simp only [wt_sl, wt_pair, wt_int, wt_bool, wt_str, wt_unit]; omega)
  simp only [wt_sl, wt_pair, wt_int, wt_bool, wt_str, wt_unit] at u0
  obtain ⟨k1, y1, l1, u1, w1, v1⟩ := laws_markPutS_ok x_1 k0 (by omega) (by simp only [wt_sl, wt_pair, wt_int, wt_bool, wt_str, wt_unit]; omega) (by simp only [wt_sl, wt_pair, wt_int, wt_bool, wt_str, wt_unit]; omega)
  simp only [wt_sl, wt_pair, wt_int, wt_bool, wt_str, wt_unit] at u1
  refine ⟨k1, y0, y1, by omega, by simp only [wt_sl, wt_pair, wt_int, wt_bool, wt_str, wt_unit]; omega, ?_, ?_⟩
  · simp only [laws_markDisk, w0, w1, Option.bind_some, peta]
  · simp only [laws_heldDisk, v0, v1, Option.bind_some, cond_ff, neg_dec (by omega : 0 ≤ k0), neg_dec (by omega : 0 ≤ k1)]
theorem laws_markWorld_ok (x_0_0 : List (List Int)) (x_0_1 : List Put_) (x_1_0 : List Inode_) (x_1_1 : List (List Int)) (x_2_0 : List Inode_) (x_2_1 : List (List Int)) (k : Int) (hk : 0 ≤ k) (hw : k + wt tWorld_ ((x_0_0, x_0_1, ()), (x_1_0, x_1_1, ()), (x_2_0, x_2_1, ()), ()) ≤ 4611686018427387904) (hz : wt tWorld_ ((x_0_0, x_0_1, ()), (x_1_0, x_1_1, ()), (x_2_0, x_2_1, ()), ()) ≤ 2147483648) : ∃ k2 y0 y1 y2 y3 y4 y5, k ≤ k2 ∧ k2 ≤ k + wt tWorld_ ((x_0_0, x_0_1, ()), (x_1_0, x_1_1, ()), (x_2_0, x_2_1, ()), ()) ∧ laws_markWorld ((x_0_0, x_0_1, ()), (x_1_0, x_1_1, ()), (x_2_0, x_2_1, ()), ()) k = some (k2, ((y0, y1, ()), (y2, y3, ()), (y4, y5, ()), ())) ∧ laws_heldWorld ((y0, y1, ()), (y2, y3, ()), (y4, y5, ()), ()) k = some k2 := by
  simp only [wt_sl, wt_pair, wt_int, wt_bool, wt_str, wt_unit] at hw hz
  obtain ⟨k0, y0, l0, u0, w0, v0⟩ := laws_markInt64SS_ok x_0_0 k (by omega) (by simp only [wt_sl, wt_pair, wt_int, wt_bool, wt_str, wt_unit]; omega) (by simp only [wt_sl, wt_pair, wt_int, wt_bool, wt_str, wt_unit]; omega)
  simp only [wt_sl, wt_pair, wt_int, wt_bool, wt_str, wt_unit] at u0
  obtain ⟨k1, y1, l1, u1, w1, v1⟩ := laws_markPutS_ok x_0_1 k0 (by omega) (by simp only [wt_sl, wt_pair, wt_int, wt_bool, wt_str, wt_unit]; omega) (by simp only [wt_sl, wt_pair, wt_int, wt_bool, wt_str, wt_unit]; omega)
  simp only [wt_sl, wt_pair, wt_int, wt_bool, wt_str, wt_unit] at u1
  obtain ⟨k2, y2, l2, u2, w2, v2⟩ := laws_markInodeS_ok x_1_0 k1 (by omega) (by simp only [wt_sl, wt_pair, wt_int, wt_bool, wt_str, wt_unit]; omega) (by simp only [wt_sl, wt_pair, wt_int, wt_bool, wt_str, wt_unit]; omega)
  simp only [wt_sl, wt_pair, wt_int, wt_bool, wt_str, wt_unit] at u2
  obtain ⟨k3, y3, l3, u3, w3, v3⟩ := laws_markByteSS_ok x_1_1 k2 (by omega) (by simp only [wt_sl, wt_pair, wt_int, wt_bool, wt_str, wt_unit]; omega) (by simp only [wt_sl, wt_pair, wt_int, wt_bool, wt_str, wt_unit]; omega)
  simp only [wt_sl, wt_pair, wt_int, wt_bool, wt_str, wt_unit] at u3
  obtain ⟨k4, y4, l4, u4, w4, v4⟩ := laws_markInodeS_ok x_2_0 k3 (by omega) (by simp only [wt_sl, wt_pair, wt_int, wt_bool, wt_str, wt_unit]; omega) (by simp only [wt_sl, wt_pair, wt_int, wt_bool, wt_str, wt_unit]; omega)
  simp only [wt_sl, wt_pair, wt_int, wt_bool, wt_str, wt_unit] at u4
  obtain ⟨k5, y5, l5, u5, w5, v5⟩ := laws_markByteSS_ok x_2_1 k4 (by omega) (by simp only [wt_sl, wt_pair, wt_int, wt_bool, wt_str, wt_unit]; omega) (by simp only [wt_sl, wt_pair, wt_int, wt_bool, wt_str, wt_unit]; omega)
  simp only [wt_sl, wt_pair, wt_int, wt_bool, wt_str, wt_unit] at u5
  refine ⟨k5, y0, y1, y2, y3, y4, y5, by omega, by simp only [wt_sl, wt_pair, wt_int, wt_bool, wt_str, wt_unit]; omega, ?_, ?_⟩
  · simp only [laws_markWorld, laws_markDisk, laws_markFs, w0, w1, w2, w3, w4, w5, Option.bind_some, peta]
  · simp only [laws_heldWorld, laws_heldDisk, laws_heldFs, v0, v1, v2, v3, v4, v5, Option.bind_some, cond_ff, neg_dec (by omega : 0 ≤ k0), neg_dec (by omega : 0 ≤ k1), neg_dec (by omega : 0 ≤ k2), neg_dec (by omega : 0 ≤ k3), neg_dec (by omega : 0 ≤ k4), neg_dec (by omega : 0 ≤ k5)]
theorem laws_markWorldResult_ok (x_0 : Int) (x_1_0 : Int) (x_1_1 : Int) (x_1_2 : Int) (x_1_3 : List Int) (x_1_4 : List (List UInt8)) (x_1_5_0 : List Inode_) (x_1_5_1 : List (List Int)) (x_2_0_0 : List (List Int)) (x_2_0_1 : List Put_) (x_2_1_0 : List Inode_) (x_2_1_1 : List (List Int)) (x_2_2_0 : List Inode_) (x_2_2_1 : List (List Int)) (k : Int) (hk : 0 ≤ k) (hw : k + wt tWorldResult_ (x_0, (x_1_0, x_1_1, x_1_2, x_1_3, x_1_4, (x_1_5_0, x_1_5_1, ()), ()), ((x_2_0_0, x_2_0_1, ()), (x_2_1_0, x_2_1_1, ()), (x_2_2_0, x_2_2_1, ()), ()), ()) ≤ 4611686018427387904) (hz : wt tWorldResult_ (x_0, (x_1_0, x_1_1, x_1_2, x_1_3, x_1_4, (x_1_5_0, x_1_5_1, ()), ()), ((x_2_0_0, x_2_0_1, ()), (x_2_1_0, x_2_1_1, ()), (x_2_2_0, x_2_2_1, ()), ()), ()) ≤ 2147483648) : ∃ k2 y0 y1 y2 y3 y4 y5 y6 y7 y8 y9, k ≤ k2 ∧ k2 ≤ k + wt tWorldResult_ (x_0, (x_1_0, x_1_1, x_1_2, x_1_3, x_1_4, (x_1_5_0, x_1_5_1, ()), ()), ((x_2_0_0, x_2_0_1, ()), (x_2_1_0, x_2_1_1, ()), (x_2_2_0, x_2_2_1, ()), ()), ()) ∧ laws_markWorldResult (x_0, (x_1_0, x_1_1, x_1_2, x_1_3, x_1_4, (x_1_5_0, x_1_5_1, ()), ()), ((x_2_0_0, x_2_0_1, ()), (x_2_1_0, x_2_1_1, ()), (x_2_2_0, x_2_2_1, ()), ()), ()) k = some (k2, (x_0, (x_1_0, x_1_1, x_1_2, y0, y1, (y2, y3, ()), ()), ((y4, y5, ()), (y6, y7, ()), (y8, y9, ()), ()), ())) ∧ laws_heldWorldResult (x_0, (x_1_0, x_1_1, x_1_2, y0, y1, (y2, y3, ()), ()), ((y4, y5, ()), (y6, y7, ()), (y8, y9, ()), ()), ()) k = some k2 := by
  simp only [wt_sl, wt_pair, wt_int, wt_bool, wt_str, wt_unit] at hw hz
  obtain ⟨k0, y0, l0, u0, w0, v0⟩ := laws_markByteS_ok x_1_3 k (by omega) (by simp only [wt_sl, wt_pair, wt_int, wt_bool, wt_str, wt_unit]; omega) (by simp only [wt_sl, wt_pair, wt_int, wt_bool, wt_str, wt_unit]; omega)
  simp only [wt_sl, wt_pair, wt_int, wt_bool, wt_str, wt_unit] at u0
  obtain ⟨k1, y1, l1, u1, w1, v1⟩ := laws_markStringS_ok x_1_4 k0 (by omega) (by simp only [wt_sl, wt_pair, wt_int, wt_bool, wt_str, wt_unit]; omega) (by simp only [wt_sl, wt_pair, wt_int, wt_bool, wt_str, wt_unit]; omega)
  simp only [wt_sl, wt_pair, wt_int, wt_bool, wt_str, wt_unit] at u1
  obtain ⟨k2, y2, l2, u2, w2, v2⟩ := laws_markInodeS_ok x_1_5_0 k1 (by omega) (by simp only [wt_sl, wt_pair, wt_int, wt_bool, wt_str, wt_unit]; omega) (by simp only [wt_sl, wt_pair, wt_int, wt_bool, wt_str, wt_unit]; omega)
  simp only [wt_sl, wt_pair, wt_int, wt_bool, wt_str, wt_unit] at u2
  obtain ⟨k3, y3, l3, u3, w3, v3⟩ := laws_markByteSS_ok x_1_5_1 k2 (by omega) (by simp only [wt_sl, wt_pair, wt_int, wt_bool, wt_str, wt_unit]; omega) (by simp only [wt_sl, wt_pair, wt_int, wt_bool, wt_str, wt_unit]; omega)
  simp only [wt_sl, wt_pair, wt_int, wt_bool, wt_str, wt_unit] at u3
  obtain ⟨k4, y4, l4, u4, w4, v4⟩ := laws_markInt64SS_ok x_2_0_0 k3 (by omega) (by simp only [wt_sl, wt_pair, wt_int, wt_bool, wt_str, wt_unit]; omega) (by simp only [wt_sl, wt_pair, wt_int, wt_bool, wt_str, wt_unit]; omega)
  simp only [wt_sl, wt_pair, wt_int, wt_bool, wt_str, wt_unit] at u4
  obtain ⟨k5, y5, l5, u5, w5, v5⟩ := laws_markPutS_ok x_2_0_1 k4 (by omega) (by simp only [wt_sl, wt_pair, wt_int, wt_bool, wt_str, wt_unit]; omega) (by simp only [wt_sl, wt_pair, wt_int, wt_bool, wt_str, wt_unit]; omega)
  simp only [wt_sl, wt_pair, wt_int, wt_bool, wt_str, wt_unit] at u5
  obtain ⟨k6, y6, l6, u6, w6, v6⟩ := laws_markInodeS_ok x_2_1_0 k5 (by omega) (by simp only [wt_sl, wt_pair, wt_int, wt_bool, wt_str, wt_unit]; omega) (by simp only [wt_sl, wt_pair, wt_int, wt_bool, wt_str, wt_unit]; omega)
  simp only [wt_sl, wt_pair, wt_int, wt_bool, wt_str, wt_unit] at u6
  obtain ⟨k7, y7, l7, u7, w7, v7⟩ := laws_markByteSS_ok x_2_1_1 k6 (by omega) (by simp only [wt_sl, wt_pair, wt_int, wt_bool, wt_str, wt_unit]; omega) (by simp only [wt_sl, wt_pair, wt_int, wt_bool, wt_str, wt_unit]; omega)
  simp only [wt_sl, wt_pair, wt_int, wt_bool, wt_str, wt_unit] at u7
  obtain ⟨k8, y8, l8, u8, w8, v8⟩ := laws_markInodeS_ok x_2_2_0 k7 (by omega) (by simp only [wt_sl, wt_pair, wt_int, wt_bool, wt_str, wt_unit]; omega) (by simp only [wt_sl, wt_pair, wt_int, wt_bool, wt_str, wt_unit]; omega)
  simp only [wt_sl, wt_pair, wt_int, wt_bool, wt_str, wt_unit] at u8
  obtain ⟨k9, y9, l9, u9, w9, v9⟩ := laws_markByteSS_ok x_2_2_1 k8 (by omega) (by simp only [wt_sl, wt_pair, wt_int, wt_bool, wt_str, wt_unit]; omega) (by simp only [wt_sl, wt_pair, wt_int, wt_bool, wt_str, wt_unit]; omega)
  simp only [wt_sl, wt_pair, wt_int, wt_bool, wt_str, wt_unit] at u9
  refine ⟨k9, y0, y1, y2, y3, y4, y5, y6, y7, y8, y9, by omega, by simp only [wt_sl, wt_pair, wt_int, wt_bool, wt_str, wt_unit]; omega, ?_, ?_⟩
  · simp only [laws_markWorldResult, laws_markCallResult, laws_markFs, laws_markWorld, laws_markDisk, w0, w1, w2, w3, w4, w5, w6, w7, w8, w9, Option.bind_some, peta]
  · simp only [laws_heldWorldResult, laws_heldCallResult, laws_heldFs, laws_heldWorld, laws_heldDisk, v0, v1, v2, v3, v4, v5, v6, v7, v8, v9, Option.bind_some, cond_ff, neg_dec (by omega : 0 ≤ k0), neg_dec (by omega : 0 ≤ k1), neg_dec (by omega : 0 ≤ k2), neg_dec (by omega : 0 ≤ k3), neg_dec (by omega : 0 ≤ k4), neg_dec (by omega : 0 ≤ k5), neg_dec (by omega : 0 ≤ k6), neg_dec (by omega : 0 ≤ k7), neg_dec (by omega : 0 ≤ k8), neg_dec (by omega : 0 ≤ k9)]
def inR (v lo hi : Int) : Bool := cond (decide (v ≥ lo)) (decide (v ≤ hi)) false
theorem spec_l1In_eq (v lo hi : Int) : spec_l1In v lo hi = some (inR v lo hi) := rfl
theorem impl_within_eq (v lo hi : Int) : impl_within v lo hi = some (inR v lo hi) := rfl
def formatF (seq : Int) : List (List Int) := ((List.replicate 47 ([] : List Int)).set 0 [7, seq]).set 17 [2, 0, 0, 0]
theorem spec_l4Pack_empty : spec_l4Pack (2, 0, 0, [], [], ()) = some [2, 0, 0, 0] := by
  have h : spec_l4Pack_l0 (2, 0, 0, [], [], ()) (0, [2, 0, 0, 0]) = some [2, 0, 0, 0] := loopL_done (by simp [spec_l4Pack_l0.B])
  simp [spec_l4Pack, h]
theorem impl_packInode_empty : impl_packInode (2, 0, 0, [], [], ()) = some [2, 0, 0, 0] := by
  have h : impl_packInode_l0 [] 0 (0, [2, 0, 0, 0]) = some [2, 0, 0, 0] := loopL_done (by simp [impl_packInode_l0.B])
  simp [impl_packInode, impl_size_Entry, h]
theorem spec_FormatDisk_eq (seq : Int) : spec_FormatDisk seq = some (cond (!inR seq 1 60000) (3, ([], [], ()), ()) (0, (formatF seq, [], ()), ())) := by
  have h : spec_l12Format seq = some (formatF seq, [], ()) := by
    simp [spec_l12Format, spec_l1New, spec_l4Pack_empty, inB, formatF]
  simp only [spec_FormatDisk, spec_l12Seq, spec_l1In_eq, Option.bind_some, h, some_cond]
theorem impl_FormatDisk_eq (seq : Int) : impl_FormatDisk seq = some (cond (!inR seq 1 60000) (3, ([], [], ()), ()) (0, (formatF seq, [], ()), ())) := by
  simp only [impl_FormatDisk, impl_isSeq, impl_within_eq, Option.bind_some, impl_superWords, impl_packInode_empty, some_cond]
  cases inR seq 1 60000
  · rfl
  · simp [inB, formatF]
theorem cloneP_ok {α : Type} {xs : List α} (h : xs.length ≤ 2147483648) : cloneP xs = some xs := by
  unfold cloneP; rw [show decide (xs.length ≤ 2147483648) = true by simp; omega]; rfl
theorem dlen {n : Nat} (h : n ≤ 2147483648) : decide (n ≤ 2147483648) = true := by simp; omega
theorem impl_cloneData_eq (l : List (List Int)) (h : Bd (.sl (.sl (.int .u8))) l) : impl_cloneData l = some l := by
  obtain ⟨hl, hb⟩ := h
  have h : impl_cloneData_l0 l (l.length : Int) (0, []) = some ([] ++ l.map id) :=
    loop_mapI l (f := fun s => impl_cloneData_l0.B l (l.length : Int) s.1 s.2) id id 0 (fun i hi t ht => by
      have hx := (hb l[i] (List.getElem_mem hi)).1
      simp only [impl_cloneData_l0.B, lt_dec hi, inB_lt hi, cond_tt, toNat_cast, getD_lt _ hi, slices_Clone_byte, cloneP_ok hx, Option.bind_some, w64_succ (by omega : i < 4294967296), id]
      rw [dlen (by simp; omega)]; rfl) (fun t ht => by
      simp only [impl_cloneData_l0.B, ge_dec (Nat.le_refl _), cond_ff, id]) [] rfl
  simp only [impl_cloneData, h, Option.bind_some]
  simp
theorem impl_cloneFs_eq (f : Fs_) (h : Bd tFs_ f) : impl_cloneFs f = some f := by
  obtain ⟨l, d, ⟨⟩⟩ := f
  obtain ⟨⟨hl, hb⟩, hd, _⟩ := h
  replace hl : l.length ≤ 2147483648 := hl
  replace hb : ∀ x ∈ l, Bd tInode_ x := hb
  replace hd : Bd (.sl (.sl (.int .u8))) d := hd
  have h : impl_cloneFs_l0 l (l.length : Int) ([], [], ()) (0, ([], d, ())) = some (l.foldl (fun (t : Fs_) x => (t.1 ++ [x], t.2)) ([], d, ())) :=
    loop_foldI l (f := fun s => impl_cloneFs_l0.B l (l.length : Int) ([], [], ()) s.1 s.2) (fun (t : Fs_) x => (t.1 ++ [x], t.2)) id (fun i t => t.1.length = i) (fun i hi t ht => by
      have hx := hb l[i] (List.getElem_mem hi)
      obtain ⟨hx1, hx2, hx3, hx4, hx5, _⟩ := hx
      have e1 : cloneP l[i].2.2.2.1 = some l[i].2.2.2.1 := cloneP_ok hx4.1
      have e2 : cloneP l[i].2.2.2.2.1 = some l[i].2.2.2.2.1 := cloneP_ok hx5.1
      refine ⟨?_, by simp [ht]⟩
      simp only [impl_cloneFs_l0.B, lt_dec hi, inB_lt hi, cond_tt, toNat_cast, getD_lt _ hi, slices_Clone_int64, slices_Clone_Entry, e1, e2, Option.bind_some, w64_succ (by omega : i < 4294967296), peta]
      rw [dlen (by simp; omega)]; rfl) (fun t ht => by
      simp only [impl_cloneFs_l0.B, ge_dec (Nat.le_refl _), cond_ff, id]) _ rfl
  have h2 : ∀ (l : List Inode_) (t : Fs_), l.foldl (fun (t : Fs_) x => (t.1 ++ [x], t.2)) t = (t.1 ++ l, t.2) := by
    intro l
    induction l with
    | nil => intro t; simp
    | cons x l ih => intro t; simp [ih]
  simp only [impl_cloneFs, impl_cloneData_eq d hd, Option.bind_some, h, h2]
  simp
theorem NewWorld.main (seq : Int) (hf : Fit (.int .i64) seq) (hw : wt (.int .i64) seq ≤ 1048576) : ∃ r, spec_NewWorld seq = some r ∧ impl_NewWorld seq = some r ∧ wt tWorldResult_ r ≤ 2147483648 := by
  have h6 : spec_l6New = some ([(2, 0, 0, [], [], ())], List.replicate 20 ([] : List Int), ()) := by simp [spec_l6New]
  have hb : Bd tFs_ ([(2, 0, 0, [], [], ())], List.replicate 20 ([] : List Int), ()) := Bd_of rfl (by simp [wt, List.replicate])
  simp only [spec_NewWorld, impl_NewWorld, spec_FormatDisk_eq, impl_FormatDisk_eq, Option.bind_some, h6, show (20 : Int).toNat = 20 from rfl, impl_cloneFs_eq _ hb]
  cases inR seq 1 60000
  · exact ⟨_, rfl, rfl, by simp [wt]⟩
  · refine ⟨_, rfl, rfl, by simp [wt, formatF, List.replicate]⟩
theorem NewWorld.law (x : PT.Els (shs [(.int .i64)])) (hf : FitAll [(.int .i64)] x) (hw : wtAll [(.int .i64)] x ≤ 1048576) : laws_FnExactNewWorld x.1 = some true := by
  simp only [wtAll] at hw
  have hf0 : Fit (.int .i64) x.1 := hf.1
  have hw0 : wt (.int .i64) x.1 ≤ 1048576 := by omega
  clear hw hf
  generalize x.1 = a0 at hf0 hw0 ⊢
  obtain ⟨r, hr1, hr2, hr3⟩ := NewWorld.main a0 hf0 hw0
  obtain ⟨r_0, ⟨r_1_0, r_1_1, r_1_2, r_1_3, r_1_4, ⟨r_1_5_0, r_1_5_1, ⟨⟩⟩, ⟨⟩⟩, ⟨⟨r_2_0_0, r_2_0_1, ⟨⟩⟩, ⟨r_2_1_0, r_2_1_1, ⟨⟩⟩, ⟨r_2_2_0, r_2_2_1, ⟨⟩⟩, ⟨⟩⟩, ⟨⟩⟩ := r
  replace hr3 : wt tWorldResult_ (r_0, (r_1_0, r_1_1, r_1_2, r_1_3, r_1_4, (r_1_5_0, r_1_5_1, ()), ()), ((r_2_0_0, r_2_0_1, ()), (r_2_1_0, r_2_1_1, ()), (r_2_2_0, r_2_2_1, ()), ()), ()) ≤ 2147483648 := hr3
  replace hr1 : spec_NewWorld a0 = some (r_0, (r_1_0, r_1_1, r_1_2, r_1_3, r_1_4, (r_1_5_0, r_1_5_1, ()), ()), ((r_2_0_0, r_2_0_1, ()), (r_2_1_0, r_2_1_1, ()), (r_2_2_0, r_2_2_1, ()), ()), ()) := hr1
  replace hr2 : impl_NewWorld a0 = some (r_0, (r_1_0, r_1_1, r_1_2, r_1_3, r_1_4, (r_1_5_0, r_1_5_1, ()), ()), ((r_2_0_0, r_2_0_1, ()), (r_2_1_0, r_2_1_1, ()), (r_2_2_0, r_2_2_1, ()), ()), ()) := hr2
  have er := laws_eqWorldResult_ok (r_0, (r_1_0, r_1_1, r_1_2, r_1_3, r_1_4, (r_1_5_0, r_1_5_1, ()), ()), ((r_2_0_0, r_2_0_1, ()), (r_2_1_0, r_2_1_1, ()), (r_2_2_0, r_2_2_1, ()), ()), ()) hr3
  obtain ⟨kr, y0, y1, y2, y3, y4, y5, y6, y7, y8, y9, l1, l2, hm, hh⟩ := laws_markWorldResult_ok r_0 r_1_0 r_1_1 r_1_2 r_1_3 r_1_4 r_1_5_0 r_1_5_1 r_2_0_0 r_2_0_1 r_2_1_0 r_2_1_1 r_2_2_0 r_2_2_1 1 (by omega) (by omega) hr3
  have hsz : ∀ g : Option Bool, g = some true → ∀ b : Bool, cond b (some true) g = some true := fun g h b => by cases b <;> first | rfl | exact h
  simp only [laws_FnExactNewWorld]
  repeat' (first | with_reducible refine hsz _ ?_ _ | (rw [Option.bind_some]))
  simp only [er, hm, hh, hr1, hr2, peta, Option.bind_some, Bool.not_true, cond_ff, cond_tt, bne_self, beq_selfB, beq_selfS, neg_dec (by omega : 0 ≤ kr)]
end Mf
