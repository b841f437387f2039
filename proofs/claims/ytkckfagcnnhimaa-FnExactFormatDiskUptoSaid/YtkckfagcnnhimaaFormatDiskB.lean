/- The law over plain data: laws.FnExactFormatDisk answers true. -/
import Derived.Test.YtkckfagcnnhimaaFormatDiskA
namespace Mf
open Go
set_option linter.unusedVariables false
set_option linter.unusedSimpArgs false
set_option maxRecDepth 100000
theorem laws_eqInt64S_ok (a : (List Int)) (hw : wt (.sl (.int .i64)) a ≤ 2147483648) : laws_eqInt64S a a = some true := by
  have hw2 := hw
  simp only [wt_sl, wt_pair, wt_int, wt_bool, wt_str, wt_unit] at hw2
  have hl : a.length ≤ 2147483648 := by have := len_sum (wt (.int .i64)) (fun x => by simp only [wt_sl, wt_pair, wt_int, wt_bool, wt_str, wt_unit]; omega) a; omega
  have lp : laws_eqInt64S_l0 a a 0 = some (.inr ()) := by
    refine eq_list0 (n := a.length) (fun s => laws_eqInt64S_l0.B a a s) (fun i hi => ?_) ?_
    · have hm := mem_sum (wt (.int .i64)) a i hi
      have hb : inB (i : Int) a.length = true := inB_ok (by omega) (by omega)
      simp only [laws_eqInt64S_l0.B, lt_dec hi, hb, cond_tt, cond_ff, toNat_cast, getD_lt _ hi, Option.bind_some, Bool.not_true, bne_self, beq_selfS, beq_selfB, w64_succ (by omega : i < 4294967296)]
    · simp only [laws_eqInt64S_l0.B, ge_dec (Nat.le_refl _), cond_ff]
  simp only [laws_eqInt64S, bne_self, cond_ff, lp, Option.bind_some, sel]
theorem laws_eqInt64SS_ok (a : (List (List Int))) (hw : wt (.sl (.sl (.int .i64))) a ≤ 2147483648) : laws_eqInt64SS a a = some true := by
  have hw2 := hw
  simp only [wt_sl, wt_pair, wt_int, wt_bool, wt_str, wt_unit] at hw2
  have hl : a.length ≤ 2147483648 := by have := len_sum (wt (.sl (.int .i64))) (fun x => by simp only [wt_sl, wt_pair, wt_int, wt_bool, wt_str, wt_unit]; omega) a; omega
  have lp : laws_eqInt64SS_l0 a a 0 = some (.inr ()) := by
    refine eq_list0 (n := a.length) (fun s => laws_eqInt64SS_l0.B a a s) (fun i hi => ?_) ?_
    · have hm := mem_sum (wt (.sl (.int .i64))) a i hi
      have hb : inB (i : Int) a.length = true := inB_ok (by omega) (by omega)
      have h0 := laws_eqInt64S_ok a[i] (by omega)
      simp only [laws_eqInt64SS_l0.B, lt_dec hi, hb, cond_tt, cond_ff, toNat_cast, getD_lt _ hi, h0, Option.bind_some, Bool.not_true, bne_self, beq_selfS, beq_selfB, w64_succ (by omega : i < 4294967296)]
    · simp only [laws_eqInt64SS_l0.B, ge_dec (Nat.le_refl _), cond_ff]
  simp only [laws_eqInt64SS, bne_self, cond_ff, lp, Option.bind_some, sel]
theorem laws_eqPut_ok (a : Put_) (hw : wt tPut_ a ≤ 2147483648) : laws_eqPut a a = some true := by
  obtain ⟨x0, x1, ⟨⟩⟩ := a
  simp only [wt_sl, wt_pair, wt_int, wt_bool, wt_str, wt_unit] at hw
  have h_x1_0 := laws_eqInt64S_ok x1 (by simp only [wt_sl, wt_pair, wt_int, wt_bool, wt_str, wt_unit]; omega)
  simp only [laws_eqPut, h_x1_0, Option.bind_some, Bool.not_true, bne_self, beq_selfS, beq_selfB, cond_ff, cond_tt]
theorem laws_eqPutS_ok (a : (List Put_)) (hw : wt (.sl tPut_) a ≤ 2147483648) : laws_eqPutS a a = some true := by
  have hw2 := hw
  simp only [wt_sl, wt_pair, wt_int, wt_bool, wt_str, wt_unit] at hw2
  have hl : a.length ≤ 2147483648 := by have := len_sum (wt tPut_) (fun x => by simp only [wt_sl, wt_pair, wt_int, wt_bool, wt_str, wt_unit]; omega) a; omega
  have lp : laws_eqPutS_l0 a a 0 = some (.inr ()) := by
    refine eq_list0 (n := a.length) (fun s => laws_eqPutS_l0.B a a s) (fun i hi => ?_) ?_
    · have hm := mem_sum (wt tPut_) a i hi
      have hb : inB (i : Int) a.length = true := inB_ok (by omega) (by omega)
      have h0 := laws_eqPut_ok a[i] (by omega)
      simp only [laws_eqPutS_l0.B, lt_dec hi, hb, cond_tt, cond_ff, toNat_cast, getD_lt _ hi, h0, Option.bind_some, Bool.not_true, bne_self, beq_selfS, beq_selfB, w64_succ (by omega : i < 4294967296)]
    · simp only [laws_eqPutS_l0.B, ge_dec (Nat.le_refl _), cond_ff]
  simp only [laws_eqPutS, bne_self, cond_ff, lp, Option.bind_some, sel]
theorem laws_eqDisk_ok (a : Disk_) (hw : wt tDisk_ a ≤ 2147483648) : laws_eqDisk a a = some true := by
  obtain ⟨x0, x1, ⟨⟩⟩ := a
  simp only [wt_sl, wt_pair, wt_int, wt_bool, wt_str, wt_unit] at hw
  have h_x0_0 := laws_eqInt64SS_ok x0 (by simp only [wt_sl, wt_pair, wt_int, wt_bool, wt_str, wt_unit]; omega)
  have h_x1_1 := laws_eqPutS_ok x1 (by simp only [wt_sl, wt_pair, wt_int, wt_bool, wt_str, wt_unit]; omega)
  simp only [laws_eqDisk, h_x0_0, h_x1_1, Option.bind_some, Bool.not_true, bne_self, beq_selfS, beq_selfB, cond_ff, cond_tt]
theorem laws_eqDiskResult_ok (a : DiskResult_) (hw : wt tDiskResult_ a ≤ 2147483648) : laws_eqDiskResult a a = some true := by
  obtain ⟨x0, x1, ⟨⟩⟩ := a
  simp only [wt_sl, wt_pair, wt_int, wt_bool, wt_str, wt_unit] at hw
  have h_x1_0 := laws_eqDisk_ok x1 (by simp only [wt_sl, wt_pair, wt_int, wt_bool, wt_str, wt_unit]; omega)
  simp only [laws_eqDiskResult, h_x1_0, Option.bind_some, Bool.not_true, bne_self, beq_selfS, beq_selfB, cond_ff, cond_tt]
theorem laws_markInt64S_ok (a : (List Int)) (k : Int) (hk : 0 ≤ k) (hw : k + wt (.sl (.int .i64)) a ≤ 4611686018427387904) (hz : wt (.sl (.int .i64)) a ≤ 2147483648) : MH laws_markInt64S laws_heldInt64S (wt (.sl (.int .i64)) a) a k := by
  simp only [wt_sl, wt_pair, wt_int, wt_bool, wt_str, wt_unit] at hw hz
  have hl : a.length ≤ 2147483648 := by have := len_sum (wt (.int .i64)) (fun x => by simp only [wt_sl, wt_pair, wt_int, wt_bool, wt_str, wt_unit]; omega) a; omega
  have hs : ∀ (k : Int) (i : Nat) (a : (List Int)) (h : i < a.length), a.length ≤ 2147483648 → 0 ≤ k → k + wt (.int .i64) a[i] ≤ 4611686018427387904 → wt (.int .i64) a[i] ≤ 2147483648 → ∃ k2 x2, k ≤ k2 ∧ k2 ≤ k + wt (.int .i64) a[i] ∧ laws_markInt64S_l0.B k (i : Int) a = some (.inl (k2, ((i + 1 : Nat) : Int), a.set i x2)) ∧ ∀ b : (List Int), b.length = a.length → b[i]? = some x2 → laws_heldInt64S_l0.B b k (i : Int) = some (.inl (k2, ((i + 1 : Nat) : Int))) := by
    clear hw hz hl hk k a
    intro k i a hi hl hk hw hz
    have hb : inB (i : Int) a.length = true := inB_ok (by omega) (by omega)
    simp only [wt_sl, wt_pair, wt_int, wt_bool, wt_str, wt_unit] at hw hz
    have w1 : w64 (k + 1) = k + 1 := w64s (by omega) (by omega)
    refine ⟨k + 1, k, by omega, by simp only [wt_sl, wt_pair, wt_int, wt_bool, wt_str, wt_unit]; omega, ?_, fun b hlb hx => ?_⟩
    · simp only [laws_markInt64S_l0.B, lt_dec hi, hb, cond_tt, toNat_cast, getD_lt _ hi, Option.bind_some, w1, w64_succ (by omega : i < 4294967296), List.set_set, List.length_set, getD_set _ _ hi, show (!((3 : Int) == 0)) = true from rfl]
    · have hc : inB (i : Int) b.length = true := inB_ok (by omega) (by omega)
      have hd : decide ((i : Int) < (b.length : Int)) = true := lt_dec (by omega)
      simp only [laws_heldInt64S_l0.B, hd, hc, cond_tt, cond_ff, toNat_cast, getD_of _ hx, Option.bind_some, bne_self, beq_selfS, beq_selfB, Bool.not_true, w1, w64_succ (by omega : i < 4294967296), List.set_set, List.length_set, getD_set _ _ hi, show (!((3 : Int) == 0)) = true from rfl]
  obtain ⟨k2, a2, e1, e2, e3, e4⟩ := mark_list0 (wt (.int .i64)) 4611686018427387904 (fun s => laws_markInt64S_l0.B s.1 s.2.1 s.2.2) (fun b s => laws_heldInt64S_l0.B b s.1 s.2) (fun k a => by simp only [laws_markInt64S_l0.B, ge_dec (Nat.le_refl _), cond_ff]) (fun k a => by simp only [laws_heldInt64S_l0.B, ge_dec (Nat.le_refl _), cond_ff]) hs k a hl hk (by omega) (by omega)
  refine ⟨k2, a2, e1, by simp only [wt_sl, wt_pair, wt_int, wt_bool, wt_str, wt_unit]; omega, ?_, ?_⟩
  · have : laws_markInt64S_l0 (k, 0, a) = some (k2, a2) := e3
    simp only [laws_markInt64S, this, Option.bind_some]
  · have : laws_heldInt64S_l0 a2 (k, 0) = some (.inr k2) := e4
    simp only [laws_heldInt64S, this, Option.bind_some, sel]
theorem laws_markInt64SS_ok (a : (List (List Int))) (k : Int) (hk : 0 ≤ k) (hw : k + wt (.sl (.sl (.int .i64))) a ≤ 4611686018427387904) (hz : wt (.sl (.sl (.int .i64))) a ≤ 2147483648) : MH laws_markInt64SS laws_heldInt64SS (wt (.sl (.sl (.int .i64))) a) a k := by
  simp only [wt_sl, wt_pair, wt_int, wt_bool, wt_str, wt_unit] at hw hz
  have hl : a.length ≤ 2147483648 := by have := len_sum (wt (.sl (.int .i64))) (fun x => by simp only [wt_sl, wt_pair, wt_int, wt_bool, wt_str, wt_unit]; omega) a; omega
  have hs : ∀ (k : Int) (i : Nat) (a : (List (List Int))) (h : i < a.length), a.length ≤ 2147483648 → 0 ≤ k → k + wt (.sl (.int .i64)) a[i] ≤ 4611686018427387904 → wt (.sl (.int .i64)) a[i] ≤ 2147483648 → ∃ k2 x2, k ≤ k2 ∧ k2 ≤ k + wt (.sl (.int .i64)) a[i] ∧ laws_markInt64SS_l0.B k (i : Int) a = some (.inl (k2, ((i + 1 : Nat) : Int), a.set i x2)) ∧ ∀ b : (List (List Int)), b.length = a.length → b[i]? = some x2 → laws_heldInt64SS_l0.B b k (i : Int) = some (.inl (k2, ((i + 1 : Nat) : Int))) := by
    clear hw hz hl hk k a
    intro k i a hi hl hk hw hz
    have hb : inB (i : Int) a.length = true := inB_ok (by omega) (by omega)
    simp only [wt_sl, wt_pair, wt_int, wt_bool, wt_str, wt_unit] at hw hz
    obtain ⟨k1, y1, l1, u1, w1, v1⟩ := laws_markInt64S_ok a[i] (k) (by omega) (by simp only [wt_sl, wt_pair, wt_int, wt_bool, wt_str, wt_unit]; omega) (by simp only [wt_sl, wt_pair, wt_int, wt_bool, wt_str, wt_unit]; omega)
    simp only [wt_sl, wt_pair, wt_int, wt_bool, wt_str, wt_unit] at u1
    refine ⟨k1, y1, by omega, by simp only [wt_sl, wt_pair, wt_int, wt_bool, wt_str, wt_unit]; omega, ?_, fun b hlb hx => ?_⟩
    · simp only [laws_markInt64SS_l0.B, lt_dec hi, hb, cond_tt, toNat_cast, getD_lt _ hi, Option.bind_some, v1, w1, w64_succ (by omega : i < 4294967296), List.set_set, List.length_set, getD_set _ _ hi, show (!((3 : Int) == 0)) = true from rfl]
    · have hc : inB (i : Int) b.length = true := inB_ok (by omega) (by omega)
      have hd : decide ((i : Int) < (b.length : Int)) = true := lt_dec (by omega)
      simp only [laws_heldInt64SS_l0.B, hd, hc, cond_tt, cond_ff, toNat_cast, getD_of _ hx, Option.bind_some, bne_self, beq_selfS, beq_selfB, Bool.not_true, v1, w1, neg_dec (by omega : 0 ≤ k1), w64_succ (by omega : i < 4294967296), List.set_set, List.length_set, getD_set _ _ hi, show (!((3 : Int) == 0)) = true from rfl]
  obtain ⟨k2, a2, e1, e2, e3, e4⟩ := mark_list0 (wt (.sl (.int .i64))) 4611686018427387904 (fun s => laws_markInt64SS_l0.B s.1 s.2.1 s.2.2) (fun b s => laws_heldInt64SS_l0.B b s.1 s.2) (fun k a => by simp only [laws_markInt64SS_l0.B, ge_dec (Nat.le_refl _), cond_ff]) (fun k a => by simp only [laws_heldInt64SS_l0.B, ge_dec (Nat.le_refl _), cond_ff]) hs k a hl hk (by omega) (by omega)
  refine ⟨k2, a2, e1, by simp only [wt_sl, wt_pair, wt_int, wt_bool, wt_str, wt_unit]; omega, ?_, ?_⟩
  · have : laws_markInt64SS_l0 (k, 0, a) = some (k2, a2) := e3
    simp only [laws_markInt64SS, this, Option.bind_some]
  · have : laws_heldInt64SS_l0 a2 (k, 0) = some (.inr k2) := e4
    simp only [laws_heldInt64SS, this, Option.bind_some, sel]
theorem laws_markPutS_ok (a : (List Put_)) (k : Int) (hk : 0 ≤ k) (hw : k + wt (.sl tPut_) a ≤ 4611686018427387904) (hz : wt (.sl tPut_) a ≤ 2147483648) : MH laws_markPutS laws_heldPutS (wt (.sl tPut_) a) a k := by
  simp only [wt_sl, wt_pair, wt_int, wt_bool, wt_str, wt_unit] at hw hz
  have hl : a.length ≤ 2147483648 := by have := len_sum (wt tPut_) (fun x => by simp only [wt_sl, wt_pair, wt_int, wt_bool, wt_str, wt_unit]; omega) a; omega
  have hs : ∀ (k : Int) (i : Nat) (a : (List Put_)) (h : i < a.length), a.length ≤ 2147483648 → 0 ≤ k → k + wt tPut_ a[i] ≤ 4611686018427387904 → wt tPut_ a[i] ≤ 2147483648 → ∃ k2 x2, k ≤ k2 ∧ k2 ≤ k + wt tPut_ a[i] ∧ laws_markPutS_l0.B k (i : Int) a = some (.inl (k2, ((i + 1 : Nat) : Int), a.set i x2)) ∧ ∀ b : (List Put_), b.length = a.length → b[i]? = some x2 → laws_heldPutS_l0.B b k (i : Int) = some (.inl (k2, ((i + 1 : Nat) : Int))) := by
    clear hw hz hl hk k a
    intro k i a hi hl hk hw hz
    have hb : inB (i : Int) a.length = true := inB_ok (by omega) (by omega)
    simp only [wt_sl, wt_pair, wt_int, wt_bool, wt_str, wt_unit] at hw hz
    have w1 : w64 (k + 1) = k + 1 := w64s (by omega) (by omega)
    obtain ⟨k2, y2, l2, u2, w2, v2⟩ := laws_markInt64S_ok a[i].2.1 (k + 1) (by omega) (by simp only [wt_sl, wt_pair, wt_int, wt_bool, wt_str, wt_unit]; omega) (by simp only [wt_sl, wt_pair, wt_int, wt_bool, wt_str, wt_unit]; omega)
    simp only [wt_sl, wt_pair, wt_int, wt_bool, wt_str, wt_unit] at u2
    refine ⟨k2, (k, y2, ()), by omega, by simp only [wt_sl, wt_pair, wt_int, wt_bool, wt_str, wt_unit]; omega, ?_, fun b hlb hx => ?_⟩
    · simp only [laws_markPutS_l0.B, lt_dec hi, hb, cond_tt, toNat_cast, getD_lt _ hi, Option.bind_some, w1, v2, w2, w64_succ (by omega : i < 4294967296), List.set_set, List.length_set, getD_set _ _ hi, show (!((3 : Int) == 0)) = true from rfl]
    · have hc : inB (i : Int) b.length = true := inB_ok (by omega) (by omega)
      have hd : decide ((i : Int) < (b.length : Int)) = true := lt_dec (by omega)
      simp only [laws_heldPutS_l0.B, hd, hc, cond_tt, cond_ff, toNat_cast, getD_of _ hx, Option.bind_some, bne_self, beq_selfS, beq_selfB, Bool.not_true, w1, v2, w2, neg_dec (by omega : 0 ≤ k2), w64_succ (by omega : i < 4294967296), List.set_set, List.length_set, getD_set _ _ hi, show (!((3 : Int) == 0)) = true from rfl]
  obtain ⟨k2, a2, e1, e2, e3, e4⟩ := mark_list0 (wt tPut_) 4611686018427387904 (fun s => laws_markPutS_l0.B s.1 s.2.1 s.2.2) (fun b s => laws_heldPutS_l0.B b s.1 s.2) (fun k a => by simp only [laws_markPutS_l0.B, ge_dec (Nat.le_refl _), cond_ff]) (fun k a => by simp only [laws_heldPutS_l0.B, ge_dec (Nat.le_refl _), cond_ff]) hs k a hl hk (by omega) (by omega)
  refine ⟨k2, a2, e1, by simp only [wt_sl, wt_pair, wt_int, wt_bool, wt_str, wt_unit]; omega, ?_, ?_⟩
  · have : laws_markPutS_l0 (k, 0, a) = some (k2, a2) := e3
    simp only [laws_markPutS, this, Option.bind_some]
  · have : laws_heldPutS_l0 a2 (k, 0) = some (.inr k2) := e4
    simp only [laws_heldPutS, this, Option.bind_some, sel]
theorem laws_markDisk_ok (x_0 : List (List Int)) (x_1 : List Put_) (k : Int) (hk : 0 ≤ k) (hw : k + wt tDisk_ (x_0, x_1, ()) ≤ 4611686018427387904) (hz : wt tDisk_ (x_0, x_1, ()) ≤ 2147483648) : ∃ k2 y0 y1, k ≤ k2 ∧ k2 ≤ k + wt tDisk_ (x_0, x_1, ()) ∧ laws_markDisk (x_0, x_1, ()) k = some (k2, (y0, y1, ())) ∧ laws_heldDisk (y0, y1, ()) k = some k2 := by
  simp only [wt_sl, wt_pair, wt_int, wt_bool, wt_str, wt_unit] at hw hz
  obtain ⟨k0, y0, l0, u0, w0, v0⟩ := laws_markInt64SS_ok x_0 k (by omega) (by simp only [wt_sl, wt_pair, wt_int, wt_bool, wt_str, wt_unit]; omega) (by simp only [wt_sl, wt_pair, wt_int, wt_bool, wt_str, wt_unit]; omega)
  simp only [wt_sl, wt_pair, wt_int, wt_bool, wt_str, wt_unit] at u0
  obtain ⟨k1, y1, l1, u1, w1, v1⟩ := laws_markPutS_ok x_1 k0 (by omega) (by simp only [wt_sl, wt_pair, wt_int, wt_bool, wt_str, wt_unit]; omega) (by simp only [wt_sl, wt_pair, wt_int, wt_bool, wt_str, wt_unit]; omega)
  simp only [wt_sl, wt_pair, wt_int, wt_bool, wt_str, wt_unit] at u1
  refine ⟨k1, y0, y1, by omega, by simp only [wt_sl, wt_pair, wt_int, wt_bool, wt_str, wt_unit]; omega, ?_, ?_⟩
  · simp only [laws_markDisk, w0, w1, Option.bind_some, peta]
  · simp only [laws_heldDisk, v0, v1, Option.bind_some, cond_ff, neg_dec (by omega : 0 ≤ k0), neg_dec (by omega : 0 ≤ k1)]
theorem laws_markDiskResult_ok (x_0 : Int) (x_1_0 : List (List Int)) (x_1_1 : List Put_) (k : Int) (hk : 0 ≤ k) (hw : k + wt tDiskResult_ (x_0, (x_1_0, x_1_1, ()), ()) ≤ 4611686018427387904) (hz : wt tDiskResult_ (x_0, (x_1_0, x_1_1, ()), ()) ≤ 2147483648) : ∃ k2 y0 y1, k ≤ k2 ∧ k2 ≤ k + wt tDiskResult_ (x_0, (x_1_0, x_1_1, ()), ()) ∧ laws_markDiskResult (x_0, (x_1_0, x_1_1, ()), ()) k = some (k2, (x_0, (y0, y1, ()), ())) ∧ laws_heldDiskResult (x_0, (y0, y1, ()), ()) k = some k2 := by
  simp only [wt_sl, wt_pair, wt_int, wt_bool, wt_str, wt_unit] at hw hz
  obtain ⟨k0, y0, l0, u0, w0, v0⟩ := laws_markInt64SS_ok x_1_0 k (by omega) (by simp only [wt_sl, wt_pair, wt_int, wt_bool, wt_str, wt_unit]; omega) (by simp only [wt_sl, wt_pair, wt_int, wt_bool, wt_str, wt_unit]; omega)
  simp only [wt_sl, wt_pair, wt_int, wt_bool, wt_str, wt_unit] at u0
  obtain ⟨k1, y1, l1, u1, w1, v1⟩ := laws_markPutS_ok x_1_1 k0 (by omega) (by simp only [wt_sl, wt_pair, wt_int, wt_bool, wt_str, wt_unit]; omega) (by simp only [wt_sl, wt_pair, wt_int, wt_bool, wt_str, wt_unit]; omega)
  simp only [wt_sl, wt_pair, wt_int, wt_bool, wt_str, wt_unit] at u1
  refine ⟨k1, y0, y1, by omega, by simp only [wt_sl, wt_pair, wt_int, wt_bool, wt_str, wt_unit]; omega, ?_, ?_⟩
  · simp only [laws_markDiskResult, laws_markDisk, w0, w1, Option.bind_some, peta]
  · simp only [laws_heldDiskResult, laws_heldDisk, v0, v1, Option.bind_some, cond_ff, neg_dec (by omega : 0 ≤ k0), neg_dec (by omega : 0 ≤ k1)]
def inR (v lo hi : Int) : Bool := cond (decide (v ≥ lo)) (decide (v ≤ hi)) false
theorem spec_l1In_eq (v lo hi : Int) : spec_l1In v lo hi = some (inR v lo hi) := rfl
theorem impl_within_eq (v lo hi : Int) : impl_within v lo hi = some (inR v lo hi) := rfl
def formatF (seq : Int) : List (List Int) := ((List.replicate 47 ([] : List Int)).set 0 [7, seq]).set 17 [2, 0, 0, 0]
theorem spec_l4Pack_empty : spec_l4Pack (2, 0, 0, [], [], ()) = some [2, 0, 0, 0] := by
  have h : spec_l4Pack_l0 (2, 0, 0, [], [], ()) (0, [2, 0, 0, 0]) = some [2, 0, 0, 0] := loopL_done (by simp [spec_l4Pack_l0.B])
  simp [spec_l4Pack, h]
theorem impl_packInode_empty : impl_packInode (2, 0, 0, [], [], ()) = some [2, 0, 0, 0] := by
  have h : impl_packInode_l0 [] 0 (0, [2, 0, 0, 0]) = some [2, 0, 0, 0] := loopL_done (by simp [impl_packInode_l0.B])
  simp [impl_packInode, impl_size_Entry, h]
theorem spec_FormatDisk_eq (seq : Int) : spec_FormatDisk seq = some (cond (!inR seq 1 60000) (3, ([], [], ()), ()) (0, (formatF seq, [], ()), ())) := by
  have h : spec_l12Format seq = some (formatF seq, [], ()) := by
    simp [spec_l12Format, spec_l1New, spec_l4Pack_empty, inB, formatF]
  simp only [spec_FormatDisk, spec_l12Seq, spec_l1In_eq, Option.bind_some, h, some_cond]
theorem impl_FormatDisk_eq (seq : Int) : impl_FormatDisk seq = some (cond (!inR seq 1 60000) (3, ([], [], ()), ()) (0, (formatF seq, [], ()), ())) := by
  simp only [impl_FormatDisk, impl_isSeq, impl_within_eq, Option.bind_some, impl_superWords, impl_packInode_empty, some_cond]
  cases inR seq 1 60000
  · rfl
  · simp [inB, formatF]
theorem FormatDisk.main (seq : Int) (hf : Fit (.int .i64) seq) (hw : wt (.int .i64) seq ≤ 1048576) : ∃ r, spec_FormatDisk seq = some r ∧ impl_FormatDisk seq = some r ∧ wt tDiskResult_ r ≤ 2147483648 := by
  refine ⟨_, spec_FormatDisk_eq seq, impl_FormatDisk_eq seq, ?_⟩
  cases inR seq 1 60000 <;> simp [wt, formatF, List.replicate]
theorem FormatDisk.law (x : PT.Els (shs [(.int .i64)])) (hf : FitAll [(.int .i64)] x) (hw : wtAll [(.int .i64)] x ≤ 1048576) : laws_FnExactFormatDisk x.1 = some true := by
  simp only [wtAll] at hw
  have hf0 : Fit (.int .i64) x.1 := hf.1
  have hw0 : wt (.int .i64) x.1 ≤ 1048576 := by omega
  clear hw hf
  generalize x.1 = a0 at hf0 hw0 ⊢
  obtain ⟨r, hr1, hr2, hr3⟩ := FormatDisk.main a0 hf0 hw0
  obtain ⟨r_0, ⟨r_1_0, r_1_1, ⟨⟩⟩, ⟨⟩⟩ := r
  replace hr3 : wt tDiskResult_ (r_0, (r_1_0, r_1_1, ()), ()) ≤ 2147483648 := hr3
  replace hr1 : spec_FormatDisk a0 = some (r_0, (r_1_0, r_1_1, ()), ()) := hr1
  replace hr2 : impl_FormatDisk a0 = some (r_0, (r_1_0, r_1_1, ()), ()) := hr2
  have er := laws_eqDiskResult_ok (r_0, (r_1_0, r_1_1, ()), ()) hr3
  obtain ⟨kr, y0, y1, l1, l2, hm, hh⟩ := laws_markDiskResult_ok r_0 r_1_0 r_1_1 1 (by omega) (by omega) hr3
  have hsz : ∀ g : Option Bool, g = some true → ∀ b : Bool, cond b (some true) g = some true := fun g h b => by cases b <;> first | rfl | exact h
  simp only [laws_FnExactFormatDisk]
  repeat' (first | with_reducible refine hsz _ ?_ _ | (rw [Option.bind_some]))
  simp only [er, hm, hh, hr1, hr2, peta, Option.bind_some, Bool.not_true, cond_ff, cond_tt, bne_self, beq_selfB, beq_selfS, neg_dec (by omega : 0 ≤ kr)]
end Mf
