/- The functions that FnExactChangedPuts reaches: what each computes, and that it does. -/
import Derived.Test.YtkckfagcnnhimaaChangedPutsH
import Derived.Test.YtkckfagcnnhimaaProg
import Derived.KernelRfl
noncomputable section
namespace Mf
open Go
set_option linter.unusedVariables false
set_option linter.unusedSimpArgs false
set_option maxRecDepth 100000
abbrev tPut_ : Ty := (.pair (.int .i64) (.pair (.sl (.int .i64)) .unit))
abbrev Put_ : Type := Int × (List Int) × Unit
def zPut_ : Put_ := (0, [], ())
abbrev tDisk_ : Ty := (.pair (.sl (.sl (.int .i64))) (.pair (.sl tPut_) .unit))
abbrev Disk_ : Type := (List (List Int)) × (List Put_) × Unit
def zDisk_ : Disk_ := ([], [], ())
abbrev tStep_ : Ty := (.pair .bool tPut_)
abbrev Step_ : Type := Bool × Put_
def zStep_ : Step_ := (false, 0, [], ())
abbrev tEntry_ : Ty := (.pair .str (.pair (.int .i64) .unit))
abbrev Entry_ : Type := (List UInt8) × Int × Unit
def zEntry_ : Entry_ := ([], 0, ())
abbrev tInode_ : Ty := (.pair (.int .i64) (.pair (.int .i64) (.pair (.int .i64) (.pair (.sl (.int .i64)) (.pair (.sl tEntry_) .unit)))))
abbrev Inode_ : Type := Int × Int × Int × (List Int) × (List Entry_) × Unit
def zInode_ : Inode_ := (0, 0, 0, [], [], ())
abbrev tFs_ : Ty := (.pair (.sl tInode_) (.pair (.sl (.sl (.int .u8))) .unit))
abbrev Fs_ : Type := (List Inode_) × (List (List Int)) × Unit
def zFs_ : Fs_ := ([], [], ())
abbrev tWorld_ : Ty := (.pair tDisk_ (.pair tFs_ (.pair tFs_ .unit)))
abbrev World_ : Type := Disk_ × Fs_ × Fs_ × Unit
def zWorld_ : World_ := (([], [], ()), ([], [], ()), ([], [], ()), ())
abbrev tCall_ : Ty := (.pair (.int .i64) (.pair .str (.pair .str (.pair (.int .i64) (.pair (.int .i64) (.pair (.sl (.int .u8)) .unit))))))
abbrev Call_ : Type := Int × (List UInt8) × (List UInt8) × Int × Int × (List Int) × Unit
def zCall_ : Call_ := (0, [], [], 0, 0, [], ())
abbrev tCallResult_ : Ty := (.pair (.int .i64) (.pair (.int .i64) (.pair (.int .i64) (.pair (.sl (.int .u8)) (.pair (.sl .str) (.pair tFs_ .unit))))))
abbrev CallResult_ : Type := Int × Int × Int × (List Int) × (List (List UInt8)) × Fs_ × Unit
def zCallResult_ : CallResult_ := (0, 0, 0, [], [], ([], [], ()), ())
abbrev tDiskResult_ : Ty := (.pair (.int .i64) (.pair tDisk_ .unit))
abbrev DiskResult_ : Type := Int × Disk_ × Unit
def zDiskResult_ : DiskResult_ := (0, ([], [], ()), ())
abbrev tIntResult_ : Ty := (.pair (.int .i64) (.pair (.int .i64) .unit))
abbrev IntResult_ : Type := Int × Int × Unit
def zIntResult_ : IntResult_ := (0, 0, ())
abbrev tPutsResult_ : Ty := (.pair (.int .i64) (.pair (.sl tPut_) .unit))
abbrev PutsResult_ : Type := Int × (List Put_) × Unit
def zPutsResult_ : PutsResult_ := (0, [], ())
abbrev tStepsResult_ : Ty := (.pair (.int .i64) (.pair (.sl tStep_) .unit))
abbrev StepsResult_ : Type := Int × (List Step_) × Unit
def zStepsResult_ : StepsResult_ := (0, [], ())
abbrev tTxResult_ : Ty := (.pair (.int .i64) (.pair .bool (.pair (.sl tPut_) .unit)))
abbrev TxResult_ : Type := Int × Bool × (List Put_) × Unit
def zTxResult_ : TxResult_ := (0, false, [], ())
abbrev tWorldResult_ : Ty := (.pair (.int .i64) (.pair tCallResult_ (.pair tWorld_ .unit)))
abbrev WorldResult_ : Type := Int × CallResult_ × World_ × Unit
def zWorldResult_ : WorldResult_ := (0, (0, 0, 0, [], [], ([], [], ()), ()), (([], [], ()), ([], [], ()), ([], [], ()), ()), ())
abbrev tBoundsError_ : Ty := (.pair (.int .i64) (.pair (.int .i64) (.pair .bool (.pair (.int .u8) .unit))))
abbrev BoundsError_ : Type := Int × Int × Bool × Int × Unit
def zBoundsError_ : BoundsError_ := (0, 0, false, 0, ())
abbrev tErrorAddressString_ : Ty := (.pair .str (.pair (.int .u64) .unit))
abbrev ErrorAddressString_ : Type := (List UInt8) × Int × Unit
def zErrorAddressString_ : ErrorAddressString_ := ([], 0, ())
abbrev PR : Program := Go.Proofs.Try.prog
def tb : Tb := [(2, ⟨.int .i64, (.int .i64), 8⟩), (3, ⟨.int .i64, (.int .i64), 8⟩), (4, ⟨.bool, .bool, 1⟩), (5, ⟨.int .u8, (.int .u8), 1⟩), (6, ⟨.int .u8, (.int .u8), 1⟩), (7, ⟨.st [0, 1, 2, 3], tBoundsError_, 24⟩), (8, ⟨.st [0, 1, 2, 3], tBoundsError_, 24⟩), (9, ⟨.str, .str, 16⟩), (10, ⟨.str, .str, 16⟩), (11, ⟨.str, .str, 16⟩), (12, ⟨.int .u64, (.int .u64), 8⟩), (13, ⟨.st [0, 1], tErrorAddressString_, 24⟩), (14, ⟨.st [0, 1], tErrorAddressString_, 24⟩), (21, ⟨.int .i32, (.int .i32), 4⟩), (22, ⟨.sl 5, (.sl (.int .u8)), 24⟩), (23, ⟨.st [0, 1, 2, 3, 4, 5], tCall_, 80⟩), (24, ⟨.st [0, 1, 2, 3, 4, 5], tCall_, 80⟩), (27, ⟨.st [0, 1, 2, 3, 4, 5], tCall_, 80⟩), (31, ⟨.sl 2, (.sl (.int .i64)), 24⟩), (32, ⟨.st [0, 1, 2], tStep_, 40⟩), (33, ⟨.st [0, 1, 2], tStep_, 40⟩), (36, ⟨.st [0, 1, 2], tStep_, 40⟩), (40, ⟨.sl 31, (.sl (.sl (.int .i64))), 24⟩), (41, ⟨.sl 141, (.sl tPut_), 24⟩), (42, ⟨.st [0, 1], tDisk_, 48⟩), (43, ⟨.st [0, 1], tDisk_, 48⟩), (44, ⟨.st [0, 1], tDiskResult_, 56⟩), (45, ⟨.st [0, 1], tDiskResult_, 56⟩), (50, ⟨.sl 33, (.sl tStep_), 24⟩), (52, ⟨.st [0, 1], tIntResult_, 16⟩), (53, ⟨.st [0, 1], tIntResult_, 16⟩), (55, ⟨.sl 36, (.sl tStep_), 24⟩), (60, ⟨.sl 139, (.sl tPut_), 24⟩), (61, ⟨.st [0, 1], tDisk_, 48⟩), (62, ⟨.st [0, 1], tDisk_, 48⟩), (69, ⟨.st [0, 1], tPutsResult_, 32⟩), (70, ⟨.st [0, 1], tPutsResult_, 32⟩), (79, ⟨.st [0, 1, 2], tTxResult_, 40⟩), (80, ⟨.st [0, 1, 2], tTxResult_, 40⟩), (84, ⟨.st [0, 1], tStepsResult_, 32⟩), (85, ⟨.st [0, 1], tStepsResult_, 32⟩), (92, ⟨.sl 9, (.sl .str), 24⟩), (93, ⟨.sl 125, (.sl tInode_), 24⟩), (94, ⟨.sl 22, (.sl (.sl (.int .u8))), 24⟩), (95, ⟨.st [0, 1], tFs_, 48⟩), (96, ⟨.st [0, 1], tFs_, 48⟩), (97, ⟨.st [0, 1, 2, 3, 4, 5], tCallResult_, 120⟩), (98, ⟨.st [0, 1, 2, 3, 4, 5], tCallResult_, 120⟩), (99, ⟨.st [0, 2, 4], tWorld_, 144⟩), (100, ⟨.st [0, 2, 4], tWorld_, 144⟩), (101, ⟨.st [0, 1, 8], tWorldResult_, 272⟩), (102, ⟨.st [0, 1, 8], tWorldResult_, 272⟩), (106, ⟨.sl 4, (.sl .bool), 24⟩), (123, ⟨.sl 167, (.sl tEntry_), 24⟩), (124, ⟨.st [0, 1, 2, 3, 4], tInode_, 72⟩), (125, ⟨.st [0, 1, 2, 3, 4], tInode_, 72⟩), (138, ⟨.st [0, 1], tPut_, 32⟩), (139, ⟨.st [0, 1], tPut_, 32⟩), (141, ⟨.st [0, 1], tPut_, 32⟩), (166, ⟨.st [0, 1], tEntry_, 24⟩), (167, ⟨.st [0, 1], tEntry_, 24⟩), (202, ⟨.int .u32, (.int .u32), 4⟩), (203, ⟨.int .u8, (.int .u8), 1⟩), (204, ⟨.int .u8, (.int .u8), 1⟩), (207, ⟨.int .i32, (.int .i32), 4⟩), (208, ⟨.int .i32, (.int .i32), 4⟩)]
theorem tbok : TbOk Go.Proofs.Try.prog tb := tbB_ok (by kernel_rfl)
theorem hmix : Go.Proofs.Try.prog.follows .mixedOrders = true := by kernel_rfl
def laws_szInt64S (a : List Int) (left : Int) : Option (Int) :=
  cond (decide ((w64 (left - (a.length : Int))) < 0)) (some (-1)) (some (w64 (left - (a.length : Int))))
namespace laws_szInt64S
def pts : List PT := [.cs SI, .cs I64]
def FS : FS := mkFS [.sh, .sh] pts (fun x => laws_szInt64S x.1 x.2.1) fun t => ⟨[.cs I64 t], []⟩
theorem ok : FsOk PR 79 FS :=
  fn_ok tbok hmix Proofs.Try.f79 h0 .no (G := (mkG [])) .nil (L := mkL []) (l := []) hT
    (fun x => by simp only [laws_szInt64S, mC, mB, mS, mO, mN]; kernel_rfl)
end laws_szInt64S
def laws_szInt64SS_l0.B (a : List (List Int)) (left_ : Int) (i_ : Int) : Option ((Int × Int) ⊕ (((Int) ⊕ (Int)))) :=
  cond (decide (i_ < (a.length : Int))) (cond (inB i_ a.length) ((laws_szInt64S (a.getD i_.toNat []) left_).bind fun r => cond (decide (r < 0)) (some (.inr (.inl (-1)))) (some (.inl (r, w64 (i_ + 1))))) (none)) (some (.inr (.inr left_)))
def laws_szInt64SS_l0 (a : List (List Int)) : (Int × Int) → Option (((Int) ⊕ (Int))) :=
  loopL fun s => laws_szInt64SS_l0.B a s.1 s.2
def laws_szInt64SS (a : List (List Int)) (left : Int) : Option (Int) :=
  cond (decide ((w64 (left - (a.length : Int))) < 0)) (some (-1)) ((laws_szInt64SS_l0 a (w64 (left - (a.length : Int)), 0)).bind fun o => sel o (fun b => some b) (fun c => some c))
namespace laws_szInt64SS
def G : Gam := mkG [(79, laws_szInt64S.FS)]
theorem Gok : GOk PR G := .cons laws_szInt64S.ok .nil
end laws_szInt64SS
namespace laws_szInt64SS_l0
def c := codeAt (bodyOf Proofs.Try.f96) [1, 1, 1, 0, 1, 0, 0]
def sp : SP := ⟨[(0, .cs (.sl SI)), (1, .cs I64), (5, .cs I64)], []⟩
def out (a : List (List Int)) : FOut (((Int) ⊕ (Int))) := fun o _ k => sel o (fun b => k (.rt) ⟨[(4, .cs I64 b)], []⟩) (fun c => k (.ex 0) ⟨[(1, .cs I64 c)], []⟩)
def fr := lfrag sp (fun x => laws_szInt64SS_l0 x.1.1 (x.1.2.1, x.1.2.2.1)) fun x => out x.1.1
theorem ok : CodeOk PR 27 2 (.loop c) fr :=
  lp_ok tbok hmix h0 .no (G := laws_szInt64SS.G) laws_szInt64SS.Gok (L := mkL []) (l := []) hT [0, 1, 5] [] [(0, ([1], []))] ([4], []) (fun x s => B x.1.1 s.1 s.2) (fun x s => ⟨[(0, .cs (.sl SI) x.1.1), (1, .cs I64 s.1), (5, .cs I64 s.2)], []⟩) (fun x => (x.1.2.1, x.1.2.2.1))
    (fun x s => by simp only [B, mC, mB, mS, mO, mN]; kernel_rfl)
end laws_szInt64SS_l0
namespace laws_szInt64SS
def pts : List PT := [.cs (.sl SI), .cs I64]
def FS : FS := mkFS [.sh, .sh] pts (fun x => laws_szInt64SS x.1 x.2.1) fun t => ⟨[.cs I64 t], []⟩
theorem ok : FsOk PR 96 FS :=
  fn_ok tbok hmix Proofs.Try.f96 h0 (.R (.R (.R (.L (.R (.one (.fr 0))))))) (G := G) Gok (L := mkL [(0, laws_szInt64SS_l0.fr)]) (l := [(0, .loop laws_szInt64SS_l0.c)]) ⟨Lam.cons laws_szInt64SS_l0.ok, trivial⟩
    (fun x => by simp only [laws_szInt64SS, mC, mB, mS, mO, mN]; kernel_rfl)
end laws_szInt64SS
def laws_szPut (a : Put_) (left : Int) : Option (Int) :=
  (laws_szInt64S a.2.1 left).bind fun r => cond (decide (r < 0)) (some (-1)) (some r)
namespace laws_szPut
def G : Gam := mkG [(79, laws_szInt64S.FS)]
def pts : List PT := [.cs tPut_, .cs I64]
def FS : FS := mkFS [.sh, .sh] pts (fun x => laws_szPut x.1 x.2.1) fun t => ⟨[.cs I64 t], []⟩
theorem ok : FsOk PR 102 FS :=
  fn_ok tbok hmix Proofs.Try.f102 ⟨[2], [], [], 0⟩ .no (G := G) (show GOk PR G from .cons laws_szInt64S.ok .nil) (L := mkL []) (l := []) hT
    (fun x => by simp only [laws_szPut, mC, mB, mS, mO, mN]; kernel_rfl)
end laws_szPut
def laws_szPutS_l0.B (a : List Put_) (left_ : Int) (i_ : Int) : Option ((Int × Int) ⊕ (((Int) ⊕ (Int)))) :=
  cond (decide (i_ < (a.length : Int))) (cond (inB i_ a.length) ((laws_szPut (a.getD i_.toNat zPut_) left_).bind fun r => cond (decide (r < 0)) (some (.inr (.inl (-1)))) (some (.inl (r, w64 (i_ + 1))))) (none)) (some (.inr (.inr left_)))
def laws_szPutS_l0 (a : List Put_) : (Int × Int) → Option (((Int) ⊕ (Int))) :=
  loopL fun s => laws_szPutS_l0.B a s.1 s.2
def laws_szPutS (a : List Put_) (left : Int) : Option (Int) :=
  cond (decide ((w64 (left - (a.length : Int))) < 0)) (some (-1)) ((laws_szPutS_l0 a (w64 (left - (a.length : Int)), 0)).bind fun o => sel o (fun b => some b) (fun c => some c))
namespace laws_szPutS
def G : Gam := mkG [(102, laws_szPut.FS)]
theorem Gok : GOk PR G := .cons laws_szPut.ok .nil
end laws_szPutS
namespace laws_szPutS_l0
def c := codeAt (bodyOf Proofs.Try.f40) [1, 1, 1, 0, 1, 0, 0]
def sp : SP := ⟨[(0, .cs (.sl tPut_)), (1, .cs I64), (5, .cs I64)], []⟩
def out (a : List Put_) : FOut (((Int) ⊕ (Int))) := fun o _ k => sel o (fun b => k (.rt) ⟨[(4, .cs I64 b)], []⟩) (fun c => k (.ex 0) ⟨[(1, .cs I64 c)], []⟩)
def fr := lfrag sp (fun x => laws_szPutS_l0 x.1.1 (x.1.2.1, x.1.2.2.1)) fun x => out x.1.1
theorem ok : CodeOk PR 27 2 (.loop c) fr :=
  lp_ok tbok hmix h0 .no (G := laws_szPutS.G) laws_szPutS.Gok (L := mkL []) (l := []) hT [0, 1, 5] [] [(0, ([1], []))] ([4], []) (fun x s => B x.1.1 s.1 s.2) (fun x s => ⟨[(0, .cs (.sl tPut_) x.1.1), (1, .cs I64 s.1), (5, .cs I64 s.2)], []⟩) (fun x => (x.1.2.1, x.1.2.2.1))
    (fun x s => by simp only [B, mC, mB, mS, mO, mN]; kernel_rfl)
end laws_szPutS_l0
namespace laws_szPutS
def pts : List PT := [.cs (.sl tPut_), .cs I64]
def FS : FS := mkFS [.sh, .sh] pts (fun x => laws_szPutS x.1 x.2.1) fun t => ⟨[.cs I64 t], []⟩
theorem ok : FsOk PR 40 FS :=
  fn_ok tbok hmix Proofs.Try.f40 h0 (.R (.R (.R (.L (.R (.one (.fr 0))))))) (G := G) Gok (L := mkL [(0, laws_szPutS_l0.fr)]) (l := [(0, .loop laws_szPutS_l0.c)]) ⟨Lam.cons laws_szPutS_l0.ok, trivial⟩
    (fun x => by simp only [laws_szPutS, mC, mB, mS, mO, mN]; kernel_rfl)
end laws_szPutS
def laws_szDisk (a : Disk_) (left : Int) : Option (Int) :=
  (laws_szInt64SS a.1 left).bind fun r => cond (decide (r < 0)) (some (-1)) ((laws_szPutS a.2.1 r).bind fun r2 => cond (decide (r2 < 0)) (some (-1)) (some r2))
namespace laws_szDisk
def G : Gam := mkG [(96, laws_szInt64SS.FS), (40, laws_szPutS.FS)]
def pts : List PT := [.cs tDisk_, .cs I64]
def FS : FS := mkFS [.sh, .sh] pts (fun x => laws_szDisk x.1 x.2.1) fun t => ⟨[.cs I64 t], []⟩
theorem ok : FsOk PR 35 FS :=
  fn_ok tbok hmix Proofs.Try.f35 ⟨[2], [], [], 0⟩ .no (G := G) (show GOk PR G from .cons laws_szInt64SS.ok (.cons laws_szPutS.ok .nil)) (L := mkL []) (l := []) hT
    (fun x => by simp only [laws_szDisk, mC, mB, mS, mO, mN]; kernel_rfl)
end laws_szDisk
def laws_toInt64S_l0.B (a : List Int) (i_ : Int) (out_ : List Int) : Option ((Int × List Int) ⊕ (List Int)) :=
  cond (decide (i_ < (a.length : Int))) (cond (inB i_ a.length) (cond (inB i_ out_.length) (some (.inl (w64 (i_ + 1), out_.set i_.toNat (a.getD i_.toNat 0)))) (none)) (none)) (some (.inr out_))
def laws_toInt64S_l0 (a : List Int) : (Int × List Int) → Option (List Int) :=
  loopL fun s => laws_toInt64S_l0.B a s.1 s.2
def laws_toInt64S (a : List Int) : Option (List Int) :=
  cond (decide ((0 : Int) ≤ (a.length : Int)) && (decide ((a.length : Int) ≤ (a.length : Int)) && decide ((a.length : Int) ≤ 2147483648))) ((laws_toInt64S_l0 a (0, List.replicate (a.length : Int).toNat 0)).bind fun o => some o) (none)
namespace laws_toInt64S_l0
def c := codeAt (bodyOf Proofs.Try.f81) [1, 1, 0, 1, 0, 0]
def sp : SP := ⟨[(0, .cs SI), (3, .seg 3 []), (4, .cs I64)], [(3, .reg, .cd SI)]⟩
def out (a : List Int) : FOut (List Int) := fun b _ k => k (.ex 0) ⟨[(3, .seg 3 [])], [sr 3 (.cd SI b)]⟩
def fr := lfrag sp (fun x => laws_toInt64S_l0 x.1.1 (x.1.2.2.1, x.2.1)) fun x => out x.1.1
theorem ok : CodeOk PR 22 1 (.loop c) fr :=
  lp_ok tbok hmix h0 .no (G := (mkG [])) .nil (L := mkL []) (l := []) hT [0, 3, 4] [3] [(0, ([3], [3]))] ([], []) (fun x s => B x.1.1 s.1 s.2) (fun x s => ⟨[(0, .cs SI x.1.1), (3, .seg 3 []), (4, .cs I64 s.1)], [sr 3 (.cd SI s.2)]⟩) (fun x => (x.1.2.2.1, x.2.1))
    (fun x s => by simp only [B, mC, mB, mS, mO, mN]; kernel_rfl)
end laws_toInt64S_l0
namespace laws_toInt64S
def pts : List PT := [.cs SI]
def FS : FS := mkFS [.sh] pts (fun x => laws_toInt64S x.1) fun t => ⟨[.cd SI t], []⟩
theorem ok : FsOk PR 81 FS :=
  fn_ok tbok hmix Proofs.Try.f81 h0 (.R (.R (.L (.R (.one (.fr 0)))))) (G := (mkG [])) .nil (L := mkL [(0, laws_toInt64S_l0.fr)]) (l := [(0, .loop laws_toInt64S_l0.c)]) ⟨Lam.cons laws_toInt64S_l0.ok, trivial⟩
    (fun x => by simp only [laws_toInt64S, mC, mB, mS, mO, mN]; kernel_rfl)
end laws_toInt64S
def laws_toInt64SS_l0.B (a : List (List Int)) (i_ : Int) (out_ : List (List Int)) : Option ((Int × List (List Int)) ⊕ (List (List Int))) :=
  cond (decide (i_ < (a.length : Int))) (cond (inB i_ a.length) ((laws_toInt64S (a.getD i_.toNat [])).bind fun r => cond (inB i_ out_.length) (some (.inl (w64 (i_ + 1), out_.set i_.toNat r))) (none)) (none)) (some (.inr out_))
def laws_toInt64SS_l0 (a : List (List Int)) : (Int × List (List Int)) → Option (List (List Int)) :=
  loopL fun s => laws_toInt64SS_l0.B a s.1 s.2
def laws_toInt64SS (a : List (List Int)) : Option (List (List Int)) :=
  cond (decide ((0 : Int) ≤ (a.length : Int)) && (decide ((a.length : Int) ≤ (a.length : Int)) && decide ((a.length : Int) ≤ 2147483648))) ((some (List.replicate (a.length : Int).toNat ([] : List Int))).bind fun v => (laws_toInt64SS_l0 a (0, v)).bind fun o => some o) (none)
namespace laws_toInt64SS
def G : Gam := mkG [(81, laws_toInt64S.FS)]
theorem Gok : GOk PR G := .cons laws_toInt64S.ok .nil
end laws_toInt64SS
namespace laws_toInt64SS_l0
def c := codeAt (bodyOf Proofs.Try.f99) [1, 1, 0, 1, 0, 0]
def sp : SP := ⟨[(0, .cs (.sl SI)), (3, .seg 3 []), (4, .cs I64)], [(3, .reg, .cd (.sl SI))]⟩
def out (a : List (List Int)) : FOut (List (List Int)) := fun b _ k => k (.ex 0) ⟨[(3, .seg 3 [])], [sr 3 (.cd (.sl SI) b)]⟩
def fr := lfrag sp (fun x => laws_toInt64SS_l0 x.1.1 (x.1.2.2.1, x.2.1)) fun x => out x.1.1
theorem ok : CodeOk PR 23 1 (.loop c) fr :=
  lp_ok tbok hmix h0 .no (G := laws_toInt64SS.G) laws_toInt64SS.Gok (L := mkL []) (l := []) hT [0, 3, 4] [3] [(0, ([3], [3]))] ([], []) (fun x s => B x.1.1 s.1 s.2) (fun x s => ⟨[(0, .cs (.sl SI) x.1.1), (3, .seg 3 []), (4, .cs I64 s.1)], [sr 3 (.cd (.sl SI) s.2)]⟩) (fun x => (x.1.2.2.1, x.2.1))
    (fun x s => by simp only [B, mC, mB, mS, mO, mN]; kernel_rfl)
end laws_toInt64SS_l0
namespace laws_toInt64SS
def pts : List PT := [.cs (.sl SI)]
def FS : FS := mkFS [.sh] pts (fun x => laws_toInt64SS x.1) fun t => ⟨[.cd (.sl SI) t], []⟩
theorem ok : FsOk PR 99 FS :=
  fn_ok tbok hmix Proofs.Try.f99 h0 (.R (.R (.L (.R (.one (.fr 0)))))) (G := G) Gok (L := mkL [(0, laws_toInt64SS_l0.fr)]) (l := [(0, .loop laws_toInt64SS_l0.c)]) ⟨Lam.cons laws_toInt64SS_l0.ok, trivial⟩
    (fun x => by simp only [laws_toInt64SS, mC, mB, mS, mO, mN]; kernel_rfl)
end laws_toInt64SS
def laws_toPut (a : Put_) : Option (Put_) :=
  (laws_toInt64S a.2.1).bind fun r => some (a.1, r, ())
namespace laws_toPut
def G : Gam := mkG [(81, laws_toInt64S.FS)]
def pts : List PT := [.cs tPut_]
def FS : FS := mkFS [.sh] pts (fun x => laws_toPut x.1) fun t => ⟨[.cd tPut_ t], []⟩
theorem ok : FsOk PR 105 FS :=
  fn_ok tbok hmix Proofs.Try.f105 ⟨[1], [], [], 0⟩ .no (G := G) (show GOk PR G from .cons laws_toInt64S.ok .nil) (L := mkL []) (l := []) hT
    (fun x => by simp only [laws_toPut, mC, mB, mS, mO, mN]; kernel_rfl)
end laws_toPut
def laws_toPutS_l0.B (a : List Put_) (i_ : Int) (out_ : List Put_) : Option ((Int × List Put_) ⊕ (List Put_)) :=
  cond (decide (i_ < (a.length : Int))) (cond (inB i_ a.length) ((laws_toPut (a.getD i_.toNat zPut_)).bind fun r => cond (inB i_ out_.length) (some (.inl (w64 (i_ + 1), out_.set i_.toNat (r.1, r.2.1, r.2.2)))) (none)) (none)) (some (.inr out_))
def laws_toPutS_l0 (a : List Put_) : (Int × List Put_) → Option (List Put_) :=
  loopL fun s => laws_toPutS_l0.B a s.1 s.2
def laws_toPutS (a : List Put_) : Option (List Put_) :=
  cond (decide ((0 : Int) ≤ (a.length : Int)) && (decide ((a.length : Int) ≤ (a.length : Int)) && decide ((a.length : Int) ≤ 2147483648))) ((laws_toPutS_l0 a (0, List.replicate (a.length : Int).toNat zPut_)).bind fun o => some o) (none)
namespace laws_toPutS
def G : Gam := mkG [(105, laws_toPut.FS)]
theorem Gok : GOk PR G := .cons laws_toPut.ok .nil
end laws_toPutS
namespace laws_toPutS_l0
def c := codeAt (bodyOf Proofs.Try.f42) [1, 1, 0, 1, 0, 0]
def sp : SP := ⟨[(0, .cs (.sl tPut_)), (3, .seg 3 []), (4, .cs I64)], [(3, .reg, .cd (.sl tPut_))]⟩
def out (a : List Put_) : FOut (List Put_) := fun b _ k => k (.ex 0) ⟨[(3, .seg 3 [])], [sr 3 (.cd (.sl tPut_) b)]⟩
def fr := lfrag sp (fun x => laws_toPutS_l0 x.1.1 (x.1.2.2.1, x.2.1)) fun x => out x.1.1
theorem ok : CodeOk PR 23 1 (.loop c) fr :=
  lp_ok tbok hmix h0 .no (G := laws_toPutS.G) laws_toPutS.Gok (L := mkL []) (l := []) hT [0, 3, 4] [3] [(0, ([3], [3]))] ([], []) (fun x s => B x.1.1 s.1 s.2) (fun x s => ⟨[(0, .cs (.sl tPut_) x.1.1), (3, .seg 3 []), (4, .cs I64 s.1)], [sr 3 (.cd (.sl tPut_) s.2)]⟩) (fun x => (x.1.2.2.1, x.2.1))
    (fun x s => by simp only [B, mC, mB, mS, mO, mN]; kernel_rfl)
end laws_toPutS_l0
namespace laws_toPutS
def pts : List PT := [.cs (.sl tPut_)]
def FS : FS := mkFS [.sh] pts (fun x => laws_toPutS x.1) fun t => ⟨[.cd (.sl tPut_) t], []⟩
theorem ok : FsOk PR 42 FS :=
  fn_ok tbok hmix Proofs.Try.f42 h0 (.R (.R (.L (.R (.one (.fr 0)))))) (G := G) Gok (L := mkL [(0, laws_toPutS_l0.fr)]) (l := [(0, .loop laws_toPutS_l0.c)]) ⟨Lam.cons laws_toPutS_l0.ok, trivial⟩
    (fun x => by simp only [laws_toPutS, mC, mB, mS, mO, mN]; kernel_rfl)
end laws_toPutS
def laws_toDisk (a : Disk_) : Option (Disk_) :=
  (laws_toInt64SS a.1).bind fun r => (laws_toPutS a.2.1).bind fun r2 => some (r, r2, ())
namespace laws_toDisk
def G : Gam := mkG [(99, laws_toInt64SS.FS), (42, laws_toPutS.FS)]
def pts : List PT := [.cs tDisk_]
def FS : FS := mkFS [.sh] pts (fun x => laws_toDisk x.1) fun t => ⟨[.cd tDisk_ t], []⟩
theorem ok : FsOk PR 37 FS :=
  fn_ok tbok hmix Proofs.Try.f37 ⟨[1], [], [], 0⟩ .no (G := G) (show GOk PR G from .cons laws_toInt64SS.ok (.cons laws_toPutS.ok .nil)) (L := mkL []) (l := []) hT
    (fun x => by simp only [laws_toDisk, mC, mB, mS, mO, mN]; kernel_rfl)
end laws_toDisk
def spec_l1In (v : Int) (low : Int) (high : Int) : Option (Bool) :=
  (some (cond (decide (v ≥ low)) (decide (v ≤ high)) false)).bind fun v2 => some v2
namespace spec_l1In
def pts : List PT := [.cs I64, .cs I64, .cs I64]
def FS : FS := mkFS [.sh, .sh, .sh] pts (fun x => spec_l1In x.1 x.2.1 x.2.2.1) fun t => ⟨[.cs .bool t], []⟩
theorem ok : FsOk PR 74 FS :=
  fn_ok tbok hmix Proofs.Try.f74 h0 .no (G := (mkG [])) .nil (L := mkL []) (l := []) hT
    (fun x => by simp only [spec_l1In, mC, mB, mS, mO, mN]; kernel_rfl)
end spec_l1In
def spec_l1Words_l0.B (w : List Int) (i_ : Int) : Option ((Int) ⊕ (((Int) ⊕ (Unit)))) :=
  cond (decide (i_ < (w.length : Int))) (cond (inB i_ w.length) ((spec_l1In (w.getD i_.toNat 0) 0 65535).bind fun r => cond (!r) (some (.inr (.inl 3))) (some (.inl (w64 (i_ + 1))))) (none)) (some (.inr (.inr ())))
def spec_l1Words_l0 (w : List Int) : (Int) → Option (((Int) ⊕ (Unit))) :=
  loopL fun s => spec_l1Words_l0.B w s
def spec_l1Words (w : List Int) : Option (Int) :=
  cond (decide ((w.length : Int) > 64)) (some 2) ((spec_l1Words_l0 w 0).bind fun o => sel o (fun b => some b) (fun c => some 0))
namespace spec_l1Words
def G : Gam := mkG [(74, spec_l1In.FS)]
theorem Gok : GOk PR G := .cons spec_l1In.ok .nil
end spec_l1Words
namespace spec_l1Words_l0
def c := codeAt (bodyOf Proofs.Try.f80) [1, 1, 0, 1, 0, 0]
def sp : SP := ⟨[(0, .cs SI), (3, .cs I64)], []⟩
def out (w : List Int) : FOut (((Int) ⊕ (Unit))) := fun o _ k => sel o (fun b => k (.rt) ⟨[(2, .cs I64 b)], []⟩) (fun c => k (.ex 0) ⟨[], []⟩)
def fr := lfrag sp (fun x => spec_l1Words_l0 x.1.1 x.1.2.1) fun x => out x.1.1
theorem ok : CodeOk PR 19 1 (.loop c) fr :=
  lp_ok tbok hmix h0 .no (G := spec_l1Words.G) spec_l1Words.Gok (L := mkL []) (l := []) hT [0, 3] [] [(0, ([], []))] ([2], []) (fun x s => B x.1.1 s) (fun x s => ⟨[(0, .cs SI x.1.1), (3, .cs I64 s)], []⟩) (fun x => x.1.2.1)
    (fun x s => by simp only [B, mC, mB, mS, mO, mN]; kernel_rfl)
end spec_l1Words_l0
namespace spec_l1Words
def pts : List PT := [.cs SI]
def FS : FS := mkFS [.sh] pts (fun x => spec_l1Words x.1) fun t => ⟨[.cs I64 t], []⟩
theorem ok : FsOk PR 80 FS :=
  fn_ok tbok hmix Proofs.Try.f80 h0 (.R (.R (.L (.R (.one (.fr 0)))))) (G := G) Gok (L := mkL [(0, spec_l1Words_l0.fr)]) (l := [(0, .loop spec_l1Words_l0.c)]) ⟨Lam.cons spec_l1Words_l0.ok, trivial⟩
    (fun x => by simp only [spec_l1Words, mC, mB, mS, mO, mN]; kernel_rfl)
end spec_l1Words
def spec_l1Fault_l0.B (d : Disk_) (i_ : Int) : Option ((Int) ⊕ (((Int) ⊕ (Unit)))) :=
  cond (decide (i_ < (d.1.length : Int))) (cond (inB i_ d.1.length) ((spec_l1Words (d.1.getD i_.toNat [])).bind fun r => cond (r != 0) (some (.inr (.inl r))) (some (.inl (w64 (i_ + 1))))) (none)) (some (.inr (.inr ())))
def spec_l1Fault_l0 (d : Disk_) : (Int) → Option (((Int) ⊕ (Unit))) :=
  loopL fun s => spec_l1Fault_l0.B d s
def spec_l1Fault_l1.B (d : Disk_) (i_2 : Int) : Option ((Int) ⊕ (((Int) ⊕ (Unit)))) :=
  cond (decide (i_2 < (d.2.1.length : Int))) (cond (inB i_2 d.2.1.length) ((spec_l1In ((d.2.1.getD i_2.toNat zPut_).1) 0 (w64 ((d.1.length : Int) - 1))).bind fun r2 => cond (!r2) (some (.inr (.inl 3))) (cond (inB i_2 d.2.1.length) ((spec_l1Words (((d.2.1.getD i_2.toNat zPut_).2).1)).bind fun r3 => cond (r3 != 0) (some (.inr (.inl r3))) (some (.inl (w64 (i_2 + 1))))) (none))) (none)) (some (.inr (.inr ())))
def spec_l1Fault_l1 (d : Disk_) : (Int) → Option (((Int) ⊕ (Unit))) :=
  loopL fun s => spec_l1Fault_l1.B d s
def spec_l1Fault (d : Disk_) : Option (Int) :=
  (some (cond (decide ((d.1.length : Int) > 60)) true (decide ((d.2.1.length : Int) > 200)))).bind fun v => cond v (some 2) ((spec_l1Fault_l0 d 0).bind fun o => sel o (fun b => some b) (fun c => (spec_l1Fault_l1 d 0).bind fun o2 => sel o2 (fun b2 => some b2) (fun c2 => some 0)))
namespace spec_l1Fault
def G : Gam := mkG [(80, spec_l1Words.FS), (74, spec_l1In.FS)]
theorem Gok : GOk PR G := .cons spec_l1Words.ok (.cons spec_l1In.ok .nil)
end spec_l1Fault
namespace spec_l1Fault_l0
def c := codeAt (bodyOf Proofs.Try.f97) [1, 1, 0, 1, 0, 0]
def sp : SP := ⟨[(0, .pt tDisk_), (3, .cs I64)], []⟩
def out (d : Disk_) : FOut (((Int) ⊕ (Unit))) := fun o _ k => sel o (fun b => k (.rt) ⟨[(2, .cs I64 b)], []⟩) (fun c => k (.ex 0) ⟨[(0, .pt tDisk_ d)], []⟩)
def fr := lfrag sp (fun x => spec_l1Fault_l0 x.1.1 x.1.2.1) fun x => out x.1.1
theorem ok : CodeOk PR 78 1 (.loop c) fr :=
  lp_ok tbok hmix h0 .no (G := spec_l1Fault.G) spec_l1Fault.Gok (L := mkL []) (l := []) hT [0, 3] [] [(0, ([0], []))] ([2], []) (fun x s => B x.1.1 s) (fun x s => ⟨[(0, .pt tDisk_ x.1.1), (3, .cs I64 s)], []⟩) (fun x => x.1.2.1)
    (fun x s => by simp only [B, mC, mB, mS, mO, mN]; kernel_rfl)
end spec_l1Fault_l0
namespace spec_l1Fault_l1
def c := codeAt (bodyOf Proofs.Try.f97) [1, 1, 1, 0, 1, 0, 0]
def sp : SP := ⟨[(0, .pt tDisk_), (5, .cs I64)], []⟩
def out (d : Disk_) : FOut (((Int) ⊕ (Unit))) := fun o _ k => sel o (fun b => k (.rt) ⟨[(2, .cs I64 b)], []⟩) (fun c => k (.ex 2) ⟨[], []⟩)
def fr := lfrag sp (fun x => spec_l1Fault_l1 x.1.1 x.1.2.1) fun x => out x.1.1
theorem ok : CodeOk PR 78 1 (.loop c) fr :=
  lp_ok tbok hmix h0 .no (G := spec_l1Fault.G) spec_l1Fault.Gok (L := mkL []) (l := []) hT [0, 5] [] [(2, ([], []))] ([2], []) (fun x s => B x.1.1 s) (fun x s => ⟨[(0, .pt tDisk_ x.1.1), (5, .cs I64 s)], []⟩) (fun x => x.1.2.1)
    (fun x s => by simp only [B, mC, mB, mS, mO, mN]; kernel_rfl)
end spec_l1Fault_l1
namespace spec_l1Fault
def pts : List PT := [.pt tDisk_]
def FS : FS := mkFS [.sh] pts (fun x => spec_l1Fault x.1) fun t => ⟨[.cs I64 t], []⟩
theorem ok : FsOk PR 97 FS :=
  fn_ok tbok hmix Proofs.Try.f97 h0 (.R (.R (.two (.R (.one (.fr 0))) (.L (.R (.one (.fr 1))))))) (G := G) Gok (L := mkL [(0, spec_l1Fault_l0.fr), (1, spec_l1Fault_l1.fr)]) (l := [(0, .loop spec_l1Fault_l0.c), (1, .loop spec_l1Fault_l1.c)]) ⟨Lam.cons spec_l1Fault_l0.ok, Lam.skip rfl (Lam.cons spec_l1Fault_l1.ok), trivial⟩
    (fun x => by simp only [spec_l1Fault, mC, mB, mS, mO, mN]; kernel_rfl)
end spec_l1Fault
def spec_l1Place (d : Disk_) (at_ : Int) : Option (Bool) :=
  (spec_l1In at_ 0 (w64 ((d.1.length : Int) - 1))).bind fun r => some r
namespace spec_l1Place
def G : Gam := mkG [(74, spec_l1In.FS)]
def pts : List PT := [.pt tDisk_, .cs I64]
def FS : FS := mkFS [.sh, .sh] pts (fun x => spec_l1Place x.1 x.2.1) fun t => ⟨[.cs .bool t], []⟩
theorem ok : FsOk PR 103 FS :=
  fn_ok tbok hmix Proofs.Try.f103 h0 .no (G := G) (show GOk PR G from .cons spec_l1In.ok .nil) (L := mkL []) (l := []) hT
    (fun x => by simp only [spec_l1Place, mC, mB, mS, mO, mN]; kernel_rfl)
end spec_l1Place
def spec_l1At_l0.B (d : Disk_) (at_ : Int) (i_ : Int) : Option ((Int) ⊕ (((List Int) ⊕ (Unit)))) :=
  cond (decide (i_ ≥ 0)) (cond (inB i_ d.2.1.length) (cond (((d.2.1.getD i_.toNat zPut_).1) == at_) (cond (inB i_ d.2.1.length) (some (.inr (.inl (((d.2.1.getD i_.toNat zPut_).2).1)))) (none)) (some (.inl (w64 (i_ - 1))))) (none)) (some (.inr (.inr ())))
def spec_l1At_l0 (d : Disk_) (at_ : Int) : (Int) → Option (((List Int) ⊕ (Unit))) :=
  loopL fun s => spec_l1At_l0.B d at_ s
def spec_l1At (d : Disk_) (at_ : Int) : Option (List Int) :=
  (spec_l1At_l0 d at_ (w64 ((d.2.1.length : Int) - 1))).bind fun o => sel o (fun b => some b) (fun c => cond (inB at_ d.1.length) (some (d.1.getD at_.toNat [])) (none))
namespace spec_l1At_l0
def c := codeAt (bodyOf Proofs.Try.f98) [1, 0, 1, 0, 0]
def sp : SP := ⟨[(0, .pt tDisk_), (1, .cs I64), (5, .cs I64)], []⟩
def out (d : Disk_) (at_ : Int) : FOut (((List Int) ⊕ (Unit))) := fun o _ k => sel o (fun b => k (.rt) ⟨[(4, .cs SI b)], []⟩) (fun c => k (.ex 0) ⟨[(0, .pt tDisk_ d), (1, .cs I64 at_)], []⟩)
def fr := lfrag sp (fun x => spec_l1At_l0 x.1.1 x.1.2.1 x.1.2.2.1) fun x => out x.1.1 x.1.2.1
theorem ok : CodeOk PR 41 2 (.loop c) fr :=
  lp_ok tbok hmix h0 .no (G := (mkG [])) .nil (L := mkL []) (l := []) hT [0, 1, 5] [] [(0, ([0, 1], []))] ([4], []) (fun x s => B x.1.1 x.1.2.1 s) (fun x s => ⟨[(0, .pt tDisk_ x.1.1), (1, .cs I64 x.1.2.1), (5, .cs I64 s)], []⟩) (fun x => x.1.2.2.1)
    (fun x s => by simp only [B, mC, mB, mS, mO, mN]; kernel_rfl)
end spec_l1At_l0
namespace spec_l1At
def pts : List PT := [.pt tDisk_, .cs I64]
def FS : FS := mkFS [.sh, .sh] pts (fun x => spec_l1At x.1 x.2.1) fun t => ⟨[.cs SI t], []⟩
theorem ok : FsOk PR 98 FS :=
  fn_ok tbok hmix Proofs.Try.f98 h0 (.R (.L (.R (.one (.fr 0))))) (G := (mkG [])) .nil (L := mkL [(0, spec_l1At_l0.fr)]) (l := [(0, .loop spec_l1At_l0.c)]) ⟨Lam.cons spec_l1At_l0.ok, trivial⟩
    (fun x => by simp only [spec_l1At, mC, mB, mS, mO, mN]; kernel_rfl)
end spec_l1At
def spec_l4Ints_l0.B (a : List Int) (b : List Int) (i_ : Int) : Option ((Int) ⊕ (((Bool) ⊕ (Unit)))) :=
  cond (decide (i_ < (a.length : Int))) (cond (inB i_ a.length) (cond (inB i_ b.length) (cond ((a.getD i_.toNat 0) != (b.getD i_.toNat 0)) (some (.inr (.inl false))) (some (.inl (w64 (i_ + 1))))) (none)) (none)) (some (.inr (.inr ())))
def spec_l4Ints_l0 (a : List Int) (b : List Int) : (Int) → Option (((Bool) ⊕ (Unit))) :=
  loopL fun s => spec_l4Ints_l0.B a b s
def spec_l4Ints (a : List Int) (b : List Int) : Option (Bool) :=
  cond ((a.length : Int) != (b.length : Int)) (some false) ((spec_l4Ints_l0 a b 0).bind fun o => sel o (fun b2 => some b2) (fun c => some true))
namespace spec_l4Ints_l0
def c := codeAt (bodyOf Proofs.Try.f141) [1, 1, 0, 1, 0, 0]
def sp : SP := ⟨[(0, .cs SI), (1, .cs SI), (5, .cs I64)], []⟩
def out (a : List Int) (b : List Int) : FOut (((Bool) ⊕ (Unit))) := fun o _ k => sel o (fun b => k (.rt) ⟨[(4, .cs .bool b)], []⟩) (fun c => k (.ex 0) ⟨[], []⟩)
def fr := lfrag sp (fun x => spec_l4Ints_l0 x.1.1 x.1.2.1 x.1.2.2.1) fun x => out x.1.1 x.1.2.1
theorem ok : CodeOk PR 26 2 (.loop c) fr :=
  lp_ok tbok hmix h0 .no (G := (mkG [])) .nil (L := mkL []) (l := []) hT [0, 1, 5] [] [(0, ([], []))] ([4], []) (fun x s => B x.1.1 x.1.2.1 s) (fun x s => ⟨[(0, .cs SI x.1.1), (1, .cs SI x.1.2.1), (5, .cs I64 s)], []⟩) (fun x => x.1.2.2.1)
    (fun x s => by simp only [B, mC, mB, mS, mO, mN]; kernel_rfl)
end spec_l4Ints_l0
namespace spec_l4Ints
def pts : List PT := [.cs SI, .cs SI]
def FS : FS := mkFS [.sh, .sh] pts (fun x => spec_l4Ints x.1 x.2.1) fun t => ⟨[.cs .bool t], []⟩
theorem ok : FsOk PR 141 FS :=
  fn_ok tbok hmix Proofs.Try.f141 h0 (.R (.R (.L (.R (.one (.fr 0)))))) (G := (mkG [])) .nil (L := mkL [(0, spec_l4Ints_l0.fr)]) (l := [(0, .loop spec_l4Ints_l0.c)]) ⟨Lam.cons spec_l4Ints_l0.ok, trivial⟩
    (fun x => by simp only [spec_l4Ints, mC, mB, mS, mO, mN]; kernel_rfl)
end spec_l4Ints
def spec_l1Ints (w : List Int) : Option (List Int) :=
  cond (decide (([] ++ w).length ≤ 2147483648)) (some ([] ++ w)) (none)
namespace spec_l1Ints
def pts : List PT := [.cs SI]
def FS : FS := mkFS [.sh] pts (fun x => spec_l1Ints x.1) fun t => ⟨[.cd SI t], []⟩
theorem ok : FsOk PR 142 FS :=
  fn_ok tbok hmix Proofs.Try.f142 h0 .no (G := (mkG [])) .nil (L := mkL []) (l := []) hT
    (fun x => by simp only [spec_l1Ints, mC, mB, mS, mO, mN]; kernel_rfl)
end spec_l1Ints
def spec_l12Changed_l0.B (d : Disk_) (list : List Put_) (i_ : Int) (out_ : List Put_) : Option ((Int × List Put_) ⊕ (List Put_)) :=
  cond (decide (i_ < (list.length : Int))) (cond (inB i_ list.length) ((spec_l1At d ((list.getD i_.toNat zPut_).1)).bind fun r => cond (inB i_ list.length) ((spec_l4Ints r (((list.getD i_.toNat zPut_).2).1)).bind fun r2 => cond (!r2) (cond (inB i_ list.length) (cond (inB i_ list.length) ((spec_l1Ints (((list.getD i_.toNat zPut_).2).1)).bind fun r3 => (some (out_ ++ ([((list.getD i_.toNat zPut_).1, r3, ())]))).bind fun v => cond (decide (v.length ≤ 2147483648)) (some (.inl (w64 (i_ + 1), v))) (none)) (none)) (none)) (some (.inl (w64 (i_ + 1), out_)))) (none)) (none)) (some (.inr out_))
def spec_l12Changed_l0 (d : Disk_) (list : List Put_) : (Int × List Put_) → Option (List Put_) :=
  loopL fun s => spec_l12Changed_l0.B d list s.1 s.2
def spec_l12Changed (d : Disk_) (list : List Put_) : Option (List Put_) :=
  (spec_l12Changed_l0 d list (0, [])).bind fun o => some o
namespace spec_l12Changed
def G : Gam := mkG [(98, spec_l1At.FS), (141, spec_l4Ints.FS), (142, spec_l1Ints.FS)]
theorem Gok : GOk PR G := .cons spec_l1At.ok (.cons spec_l4Ints.ok (.cons spec_l1Ints.ok .nil))
end spec_l12Changed
namespace spec_l12Changed_l0
def c := codeAt (bodyOf Proofs.Try.f104) [1, 1, 0, 1, 0, 0]
def sp : SP := ⟨[(0, .pt tDisk_), (1, .cs (.sl tPut_)), (5, .seg 5 []), (6, .cs I64)], [(5, .reg, .cd (.sl tPut_))]⟩
def out (d : Disk_) (list : List Put_) : FOut (List Put_) := fun b _ k => k (.ex 0) ⟨[(5, .seg 5 [])], [sr 5 (.cd (.sl tPut_) b)]⟩
def fr := lfrag sp (fun x => spec_l12Changed_l0 x.1.1 x.1.2.1 (x.1.2.2.2.1, x.2.1)) fun x => out x.1.1 x.1.2.1
theorem ok : CodeOk PR 44 2 (.loop c) fr :=
  lp_ok tbok hmix h0 .no (G := spec_l12Changed.G) spec_l12Changed.Gok (L := mkL []) (l := []) hT [0, 1, 5, 6] [5] [(0, ([5], [5]))] ([], []) (fun x s => B x.1.1 x.1.2.1 s.1 s.2) (fun x s => ⟨[(0, .pt tDisk_ x.1.1), (1, .cs (.sl tPut_) x.1.2.1), (5, .seg 5 []), (6, .cs I64 s.1)], [sr 5 (.cd (.sl tPut_) s.2)]⟩) (fun x => (x.1.2.2.2.1, x.2.1))
    (fun x s => by simp only [B, mC, mB, mS, mO, mN]; kernel_rfl)
end spec_l12Changed_l0
namespace spec_l12Changed
def pts : List PT := [.pt tDisk_, .cs (.sl tPut_)]
def FS : FS := mkFS [.sh, .sh] pts (fun x => spec_l12Changed x.1 x.2.1) fun t => ⟨[.cd (.sl tPut_) t], []⟩
theorem ok : FsOk PR 104 FS :=
  fn_ok tbok hmix Proofs.Try.f104 h0 (.R (.R (.L (.R (.one (.fr 0)))))) (G := G) Gok (L := mkL [(0, spec_l12Changed_l0.fr)]) (l := [(0, .loop spec_l12Changed_l0.c)]) ⟨Lam.cons spec_l12Changed_l0.ok, trivial⟩
    (fun x => by simp only [spec_l12Changed, mC, mB, mS, mO, mN]; kernel_rfl)
end spec_l12Changed
def spec_ChangedPuts_l0.B (list : List Put_) (d : Disk_) (v : PutsResult_) (i_ : Int) : Option ((Int) ⊕ (((PutsResult_) ⊕ (Unit)))) :=
  cond (decide (i_ < (list.length : Int))) (cond (inB i_ list.length) ((spec_l1Place d ((list.getD i_.toNat zPut_).1)).bind fun r2 => cond (!r2) (some (.inr (.inl (3, [], ())))) (some (.inl (w64 (i_ + 1))))) (none)) (some (.inr (.inr ())))
def spec_ChangedPuts_l0 (list : List Put_) (d : Disk_) (v : PutsResult_) : (Int) → Option (((PutsResult_) ⊕ (Unit))) :=
  loopL fun s => spec_ChangedPuts_l0.B list d v s
def spec_ChangedPuts (d : Disk_) (list : List Put_) : Option (PutsResult_) :=
  (spec_l1Fault d).bind fun r => cond (r != 0) (some (r, [], ())) (cond (decide ((list.length : Int) > 60)) (some (2, [], ())) ((spec_ChangedPuts_l0 list d (0, [], ()) 0).bind fun o => sel o (fun b => some (b.1, b.2.1, b.2.2)) (fun c => (spec_l12Changed d list).bind fun r3 => some (0, r3, ()))))
namespace spec_ChangedPuts
def G : Gam := mkG [(97, spec_l1Fault.FS), (103, spec_l1Place.FS), (104, spec_l12Changed.FS)]
theorem Gok : GOk PR G := .cons spec_l1Fault.ok (.cons spec_l1Place.ok (.cons spec_l12Changed.ok .nil))
end spec_ChangedPuts
namespace spec_ChangedPuts_l0
def c := codeAt (bodyOf Proofs.Try.f41) [1, 1, 1, 0, 1, 0, 0]
def sp : SP := ⟨[(1, .cs (.sl tPut_)), (2, .pt tDisk_), (4, .loc 4 []), (6, .cs I64)], [(4, .mem, .cd tPutsResult_)]⟩
def out (list : List Put_) (d : Disk_) (v : PutsResult_) : FOut (((PutsResult_) ⊕ (Unit))) := fun o _ k => sel o (fun b => k (.rt) ⟨[(4, .loc 4 [])], [(4, some ⟨.mem, .cd tPutsResult_ b⟩)]⟩) (fun c => k (.ex 0) ⟨[(1, .cs (.sl tPut_) list), (2, .pt tDisk_ d), (4, .loc 4 [])], [(4, some ⟨.mem, .cd tPutsResult_ v⟩)]⟩)
def fr := lfrag sp (fun x => spec_ChangedPuts_l0 x.1.1 x.1.2.1 x.2.1 x.1.2.2.2.1) fun x => out x.1.1 x.1.2.1 x.2.1
theorem ok : CodeOk PR 33 2 (.loop c) fr :=
  lp_ok tbok hmix ⟨[2], [], [], 0⟩ .no (G := spec_ChangedPuts.G) spec_ChangedPuts.Gok (L := mkL []) (l := []) hT [1, 2, 4, 6] [4] [(0, ([1, 2, 4], [4]))] ([4], [4]) (fun x s => B x.1.1 x.1.2.1 x.2.1 s) (fun x s => ⟨[(1, .cs (.sl tPut_) x.1.1), (2, .pt tDisk_ x.1.2.1), (4, .loc 4 []), (6, .cs I64 s)], [(4, some ⟨.mem, .cd tPutsResult_ x.2.1⟩)]⟩) (fun x => x.1.2.2.2.1)
    (fun x s => by simp only [B, mC, mB, mS, mO, mN]; kernel_rfl)
end spec_ChangedPuts_l0
namespace spec_ChangedPuts
def pts : List PT := [.cs tDisk_, .cs (.sl tPut_)]
def FS : FS := mkFS [.sh, .sh] pts (fun x => spec_ChangedPuts x.1 x.2.1) fun t => ⟨[.cd tPutsResult_ t], []⟩
theorem ok : FsOk PR 41 FS :=
  fn_ok tbok hmix Proofs.Try.f41 ⟨[2], [], [], 0⟩ (.R (.R (.R (.L (.R (.one (.fr 0))))))) (G := G) Gok (L := mkL [(0, spec_ChangedPuts_l0.fr)]) (l := [(0, .loop spec_ChangedPuts_l0.c)]) ⟨Lam.cons spec_ChangedPuts_l0.ok, trivial⟩
    (fun x => by simp only [spec_ChangedPuts, mC, mB, mS, mO, mN]; kernel_rfl)
end spec_ChangedPuts
def impl_within (n : Int) (low : Int) (high : Int) : Option (Bool) :=
  (some (cond (decide (n ≥ low)) (decide (n ≤ high)) false)).bind fun v => some v
namespace impl_within
def pts : List PT := [.cs I64, .cs I64, .cs I64]
def FS : FS := mkFS [.sh, .sh, .sh] pts (fun x => impl_within x.1 x.2.1 x.2.2.1) fun t => ⟨[.cs .bool t], []⟩
theorem ok : FsOk PR 95 FS :=
  fn_ok tbok hmix Proofs.Try.f95 h0 .no (G := (mkG [])) .nil (L := mkL []) (l := []) hT
    (fun x => by simp only [impl_within, mC, mB, mS, mO, mN]; kernel_rfl)
end impl_within
def impl_wordsFault_c1 (w : Int) : Option (Bool) :=
  (impl_within w 0 65535).bind fun r => some (!r)
namespace impl_wordsFault_c1
def G : Gam := mkG [(95, impl_within.FS)]
def pts : List PT := [.cs I64]
def FS : FS := mkFS [.sh] pts (fun x => impl_wordsFault_c1 x.1) fun t => ⟨[.cs .bool t], []⟩
theorem ok : FsOk PR 170 FS :=
  fn_ok tbok hmix Proofs.Try.f170 h0 .no (G := G) (show GOk PR G from .cons impl_within.ok .nil) (L := mkL []) (l := []) hT
    (fun x => by simp only [impl_wordsFault_c1, mC, mB, mS, mO, mN]; kernel_rfl)
end impl_wordsFault_c1
def slices_IndexFunc_int64_wordsFault_c1_l0.B (s_ : List Int) (f : Unit) (v : Int) (v2 : Int) : Option ((Int) ⊕ (((Int) ⊕ (Unit)))) :=
  cond (decide (v2 < v)) (cond (inB v2 s_.length) ((impl_wordsFault_c1 (s_.getD v2.toNat 0)).bind fun r => cond r (some (.inr (.inl v2))) (some (.inl (w64 (v2 + 1))))) (none)) (some (.inr (.inr ())))
def slices_IndexFunc_int64_wordsFault_c1_l0 (s_ : List Int) (f : Unit) (v : Int) : (Int) → Option (((Int) ⊕ (Unit))) :=
  loopL fun s => slices_IndexFunc_int64_wordsFault_c1_l0.B s_ f v s
def slices_IndexFunc_int64_wordsFault_c1 (s_ : List Int) (f : Unit) : Option (Int) :=
  (slices_IndexFunc_int64_wordsFault_c1_l0 s_ f (s_.length : Int) 0).bind fun o => sel o (fun b => some b) (fun c => some (-1))
namespace slices_IndexFunc_int64_wordsFault_c1
def G : Gam := mkG [(170, impl_wordsFault_c1.FS)]
theorem Gok : GOk PR G := .cons impl_wordsFault_c1.ok .nil
end slices_IndexFunc_int64_wordsFault_c1
namespace slices_IndexFunc_int64_wordsFault_c1_l0
def c := codeAt (bodyOf Proofs.Try.f172) [1, 0, 1, 0, 0]
def sp : SP := ⟨[(0, .cs SI), (1, .clo 170 (.cs .unit)), (7, .cs I64), (8, .cs I64)], []⟩
def out (s_ : List Int) (f : Unit) (v : Int) : FOut (((Int) ⊕ (Unit))) := fun o _ k => sel o (fun b => k (.rt) ⟨[(4, .cs I64 b)], []⟩) (fun c => k (.ex 0) ⟨[], []⟩)
def fr := lfrag sp (fun x => slices_IndexFunc_int64_wordsFault_c1_l0 x.1.1 x.1.2.1 x.1.2.2.1 x.1.2.2.2.1) fun x => out x.1.1 x.1.2.1 x.1.2.2.1
theorem ok : CodeOk PR 19 2 (.loop c) fr :=
  lp_ok tbok hmix h0 .no (G := slices_IndexFunc_int64_wordsFault_c1.G) slices_IndexFunc_int64_wordsFault_c1.Gok (L := mkL []) (l := []) hT [0, 1, 7, 8] [] [(0, ([], []))] ([4], []) (fun x s => B x.1.1 x.1.2.1 x.1.2.2.1 s) (fun x s => ⟨[(0, .cs SI x.1.1), (1, .clo 170 (.cs .unit x.1.2.1)), (7, .cs I64 x.1.2.2.1), (8, .cs I64 s)], []⟩) (fun x => x.1.2.2.2.1)
    (fun x s => by simp only [B, mC, mB, mS, mO, mN]; kernel_rfl)
end slices_IndexFunc_int64_wordsFault_c1_l0
namespace slices_IndexFunc_int64_wordsFault_c1
def pts : List PT := [.cs SI, .clo 170 (.cs .unit)]
def FS : FS := mkFS [.sh, .sh] pts (fun x => slices_IndexFunc_int64_wordsFault_c1 x.1 x.2.1) fun t => ⟨[.cs I64 t], []⟩
theorem ok : FsOk PR 172 FS :=
  fn_ok tbok hmix Proofs.Try.f172 h0 (.R (.L (.R (.one (.fr 0))))) (G := G) Gok (L := mkL [(0, slices_IndexFunc_int64_wordsFault_c1_l0.fr)]) (l := [(0, .loop slices_IndexFunc_int64_wordsFault_c1_l0.c)]) ⟨Lam.cons slices_IndexFunc_int64_wordsFault_c1_l0.ok, trivial⟩
    (fun x => by simp only [slices_IndexFunc_int64_wordsFault_c1, mC, mB, mS, mO, mN]; kernel_rfl)
end slices_IndexFunc_int64_wordsFault_c1
def slices_ContainsFunc_int64_wordsFault_c1 (s_ : List Int) (f : Unit) : Option (Bool) :=
  (slices_IndexFunc_int64_wordsFault_c1 s_ f).bind fun r => some (decide (r ≥ 0))
namespace slices_ContainsFunc_int64_wordsFault_c1
def G : Gam := mkG [(172, slices_IndexFunc_int64_wordsFault_c1.FS)]
def pts : List PT := [.cs SI, .clo 170 (.cs .unit)]
def FS : FS := mkFS [.sh, .sh] pts (fun x => slices_ContainsFunc_int64_wordsFault_c1 x.1 x.2.1) fun t => ⟨[.cs .bool t], []⟩
theorem ok : FsOk PR 149 FS :=
  fn_ok tbok hmix Proofs.Try.f149 h0 .no (G := G) (show GOk PR G from .cons slices_IndexFunc_int64_wordsFault_c1.ok .nil) (L := mkL []) (l := []) hT
    (fun x => by simp only [slices_ContainsFunc_int64_wordsFault_c1, mC, mB, mS, mO, mN]; kernel_rfl)
end slices_ContainsFunc_int64_wordsFault_c1
def impl_wordsFault (words : List Int) : Option (Int) :=
  cond (decide ((words.length : Int) > 64)) (some 2) ((slices_ContainsFunc_int64_wordsFault_c1 words ()).bind fun r => cond r (some 3) (some 0))
namespace impl_wordsFault
def G : Gam := mkG [(149, slices_ContainsFunc_int64_wordsFault_c1.FS)]
def pts : List PT := [.cs SI]
def FS : FS := mkFS [.sh] pts (fun x => impl_wordsFault x.1) fun t => ⟨[.cs I64 t], []⟩
theorem ok : FsOk PR 135 FS :=
  fn_ok tbok hmix Proofs.Try.f135 h0 .no (G := G) (show GOk PR G from .cons slices_ContainsFunc_int64_wordsFault_c1.ok .nil) (L := mkL []) (l := []) hT
    (fun x => by simp only [impl_wordsFault, mC, mB, mS, mO, mN]; kernel_rfl)
end impl_wordsFault
def impl_size_Sint64 (l : List (List Int)) : Option (Int) :=
  some (l.length : Int)
namespace impl_size_Sint64
def pts : List PT := [.cs (.sl SI)]
def FS : FS := mkFS [.sh] pts (fun x => impl_size_Sint64 x.1) fun t => ⟨[.cs I64 t], []⟩
theorem ok : FsOk PR 109 FS :=
  fn_ok tbok hmix Proofs.Try.f109 h0 .no (G := (mkG [])) .nil (L := mkL []) (l := []) hT
    (fun x => by simp only [impl_size_Sint64, mC, mB, mS, mO, mN]; kernel_rfl)
end impl_size_Sint64
def impl_diskFault_l0.B (d : Disk_) (v2 : List (List Int)) (v3 : Int) (v4 : Int) : Option ((Int) ⊕ (((Int) ⊕ (Unit)))) :=
  cond (decide (v4 < v3)) (cond (inB v4 v2.length) ((impl_wordsFault (v2.getD v4.toNat [])).bind fun r => cond (r != 0) (some (.inr (.inl r))) (some (.inl (w64 (v4 + 1))))) (none)) (some (.inr (.inr ())))
def impl_diskFault_l0 (d : Disk_) (v2 : List (List Int)) (v3 : Int) : (Int) → Option (((Int) ⊕ (Unit))) :=
  loopL fun s => impl_diskFault_l0.B d v2 v3 s
def impl_diskFault_l1.B (d : Disk_) (v5 : List Put_) (v6 : Int) (v7 : Int) : Option ((Int) ⊕ (((Int) ⊕ (Unit)))) :=
  cond (decide (v7 < v6)) (cond (inB v7 v5.length) ((impl_size_Sint64 d.1).bind fun r2 => (impl_within ((v5.getD v7.toNat zPut_).1) 0 (w64 (r2 - 1))).bind fun r3 => cond (!r3) (some (.inr (.inl 3))) ((impl_wordsFault (((v5.getD v7.toNat zPut_).2).1)).bind fun r4 => cond (r4 != 0) (some (.inr (.inl r4))) (some (.inl (w64 (v7 + 1)))))) (none)) (some (.inr (.inr ())))
def impl_diskFault_l1 (d : Disk_) (v5 : List Put_) (v6 : Int) : (Int) → Option (((Int) ⊕ (Unit))) :=
  loopL fun s => impl_diskFault_l1.B d v5 v6 s
def impl_diskFault (d : Disk_) : Option (Int) :=
  (some (cond (decide ((d.1.length : Int) > 60)) true (decide ((d.2.1.length : Int) > 200)))).bind fun v => cond v (some 2) ((impl_diskFault_l0 d d.1 (d.1.length : Int) 0).bind fun o => sel o (fun b => some b) (fun c => (impl_diskFault_l1 d d.2.1 (d.2.1.length : Int) 0).bind fun o2 => sel o2 (fun b2 => some b2) (fun c2 => some 0)))
namespace impl_diskFault
def G : Gam := mkG [(135, impl_wordsFault.FS), (109, impl_size_Sint64.FS), (95, impl_within.FS)]
theorem Gok : GOk PR G := .cons impl_wordsFault.ok (.cons impl_size_Sint64.ok (.cons impl_within.ok .nil))
end impl_diskFault
namespace impl_diskFault_l0
def c := codeAt (bodyOf Proofs.Try.f106) [1, 1, 0, 1, 0, 0]
def sp : SP := ⟨[(1, .pt tDisk_), (20, .cs (.sl SI)), (21, .cs I64), (22, .cs I64)], []⟩
def out (d : Disk_) (v2 : List (List Int)) (v3 : Int) : FOut (((Int) ⊕ (Unit))) := fun o _ k => sel o (fun b => k (.rt) ⟨[(2, .cs I64 b)], []⟩) (fun c => k (.ex 0) ⟨[(1, .pt tDisk_ d)], []⟩)
def fr := lfrag sp (fun x => impl_diskFault_l0 x.1.1 x.1.2.1 x.1.2.2.1 x.1.2.2.2.1) fun x => out x.1.1 x.1.2.1 x.1.2.2.1
theorem ok : CodeOk PR 54 1 (.loop c) fr :=
  lp_ok tbok hmix ⟨[1], [], [], 0⟩ .no (G := impl_diskFault.G) impl_diskFault.Gok (L := mkL []) (l := []) hT [1, 20, 21, 22] [] [(0, ([1], []))] ([2], []) (fun x s => B x.1.1 x.1.2.1 x.1.2.2.1 s) (fun x s => ⟨[(1, .pt tDisk_ x.1.1), (20, .cs (.sl SI) x.1.2.1), (21, .cs I64 x.1.2.2.1), (22, .cs I64 s)], []⟩) (fun x => x.1.2.2.2.1)
    (fun x s => by simp only [B, mC, mB, mS, mO, mN]; kernel_rfl)
end impl_diskFault_l0
namespace impl_diskFault_l1
def c := codeAt (bodyOf Proofs.Try.f106) [1, 1, 1, 0, 1, 0, 0]
def sp : SP := ⟨[(1, .pt tDisk_), (33, .cs (.sl tPut_)), (34, .cs I64), (35, .cs I64)], []⟩
def out (d : Disk_) (v5 : List Put_) (v6 : Int) : FOut (((Int) ⊕ (Unit))) := fun o _ k => sel o (fun b => k (.rt) ⟨[(2, .cs I64 b)], []⟩) (fun c => k (.ex 2) ⟨[], []⟩)
def fr := lfrag sp (fun x => impl_diskFault_l1 x.1.1 x.1.2.1 x.1.2.2.1 x.1.2.2.2.1) fun x => out x.1.1 x.1.2.1 x.1.2.2.1
theorem ok : CodeOk PR 54 1 (.loop c) fr :=
  lp_ok tbok hmix ⟨[1], [], [], 0⟩ .no (G := impl_diskFault.G) impl_diskFault.Gok (L := mkL []) (l := []) hT [1, 33, 34, 35] [] [(2, ([], []))] ([2], []) (fun x s => B x.1.1 x.1.2.1 x.1.2.2.1 s) (fun x s => ⟨[(1, .pt tDisk_ x.1.1), (33, .cs (.sl tPut_) x.1.2.1), (34, .cs I64 x.1.2.2.1), (35, .cs I64 s)], []⟩) (fun x => x.1.2.2.2.1)
    (fun x s => by simp only [B, mC, mB, mS, mO, mN]; kernel_rfl)
end impl_diskFault_l1
namespace impl_diskFault
def pts : List PT := [.cs tDisk_]
def FS : FS := mkFS [.sh] pts (fun x => impl_diskFault x.1) fun t => ⟨[.cs I64 t], []⟩
theorem ok : FsOk PR 106 FS :=
  fn_ok tbok hmix Proofs.Try.f106 ⟨[1], [], [], 0⟩ (.R (.R (.two (.R (.one (.fr 0))) (.L (.R (.one (.fr 1))))))) (G := G) Gok (L := mkL [(0, impl_diskFault_l0.fr), (1, impl_diskFault_l1.fr)]) (l := [(0, .loop impl_diskFault_l0.c), (1, .loop impl_diskFault_l1.c)]) ⟨Lam.cons impl_diskFault_l0.ok, Lam.skip rfl (Lam.cons impl_diskFault_l1.ok), trivial⟩
    (fun x => by simp only [impl_diskFault, mC, mB, mS, mO, mN]; kernel_rfl)
end impl_diskFault
def impl_ChangedPuts_c1 (p : Put_) (x : Disk_) : Option (Bool) :=
  (impl_size_Sint64 x.1).bind fun r => (impl_within p.1 0 (w64 (r - 1))).bind fun r2 => some (!r2)
namespace impl_ChangedPuts_c1
def G : Gam := mkG [(109, impl_size_Sint64.FS), (95, impl_within.FS)]
def pts : List PT := [.cs tPut_, .pt tDisk_]
def FS : FS := mkFS [.sh, .sh] pts (fun x => impl_ChangedPuts_c1 x.1 x.2.1) fun t => ⟨[.cs .bool t], []⟩
theorem ok : FsOk PR 108 FS :=
  fn_ok tbok hmix Proofs.Try.f108 ⟨[2], [], [], 0⟩ .no (G := G) (show GOk PR G from .cons impl_size_Sint64.ok (.cons impl_within.ok .nil)) (L := mkL []) (l := []) hT
    (fun x => by simp only [impl_ChangedPuts_c1, mC, mB, mS, mO, mN]; kernel_rfl)
end impl_ChangedPuts_c1
def slices_IndexFunc_Put_ChangedPuts_c1_l0.B (s_ : List Put_) (f : Disk_) (f2 : Unit) (v : Int) (v2 : Int) : Option ((Int) ⊕ (((Int) ⊕ (Unit)))) :=
  cond (decide (v2 < v)) (cond (inB v2 s_.length) ((impl_ChangedPuts_c1 (s_.getD v2.toNat zPut_) f).bind fun r => cond r (some (.inr (.inl v2))) (some (.inl (w64 (v2 + 1))))) (none)) (some (.inr (.inr ())))
def slices_IndexFunc_Put_ChangedPuts_c1_l0 (s_ : List Put_) (f : Disk_) (f2 : Unit) (v : Int) : (Int) → Option (((Int) ⊕ (Unit))) :=
  loopL fun s => slices_IndexFunc_Put_ChangedPuts_c1_l0.B s_ f f2 v s
def slices_IndexFunc_Put_ChangedPuts_c1 (s_ : List Put_) (f : Disk_) (f2 : Unit) : Option (Int) :=
  (slices_IndexFunc_Put_ChangedPuts_c1_l0 s_ f f2 (s_.length : Int) 0).bind fun o => sel o (fun b => some b) (fun c => some (-1))
namespace slices_IndexFunc_Put_ChangedPuts_c1
def G : Gam := mkG [(108, impl_ChangedPuts_c1.FS)]
theorem Gok : GOk PR G := .cons impl_ChangedPuts_c1.ok .nil
end slices_IndexFunc_Put_ChangedPuts_c1
namespace slices_IndexFunc_Put_ChangedPuts_c1_l0
def c := codeAt (bodyOf Proofs.Try.f143) [1, 0, 1, 0, 0]
def sp : SP := ⟨[(0, .cs (.sl tPut_)), (1, .clo 108 (.pr (.pt tDisk_) (.cs .unit))), (7, .cs I64), (8, .cs I64)], []⟩
def out (s_ : List Put_) (f : Disk_) (f2 : Unit) (v : Int) : FOut (((Int) ⊕ (Unit))) := fun o _ k => sel o (fun b => k (.rt) ⟨[(4, .cs I64 b)], []⟩) (fun c => k (.ex 0) ⟨[], []⟩)
def fr := lfrag sp (fun x => slices_IndexFunc_Put_ChangedPuts_c1_l0 x.1.1 x.1.2.1.1 x.1.2.1.2 x.1.2.2.1 x.1.2.2.2.1) fun x => out x.1.1 x.1.2.1.1 x.1.2.1.2 x.1.2.2.1
theorem ok : CodeOk PR 19 2 (.loop c) fr :=
  lp_ok tbok hmix h0 .no (G := slices_IndexFunc_Put_ChangedPuts_c1.G) slices_IndexFunc_Put_ChangedPuts_c1.Gok (L := mkL []) (l := []) hT [0, 1, 7, 8] [] [(0, ([], []))] ([4], []) (fun x s => B x.1.1 x.1.2.1.1 x.1.2.1.2 x.1.2.2.1 s) (fun x s => ⟨[(0, .cs (.sl tPut_) x.1.1), (1, .clo 108 (.pr (.pt tDisk_ x.1.2.1.1) (.cs .unit x.1.2.1.2))), (7, .cs I64 x.1.2.2.1), (8, .cs I64 s)], []⟩) (fun x => x.1.2.2.2.1)
    (fun x s => by simp only [B, mC, mB, mS, mO, mN]; kernel_rfl)
end slices_IndexFunc_Put_ChangedPuts_c1_l0
namespace slices_IndexFunc_Put_ChangedPuts_c1
def pts : List PT := [.cs (.sl tPut_), .clo 108 (.pr (.pt tDisk_) (.cs .unit))]
def FS : FS := mkFS [.sh, .sh] pts (fun x => slices_IndexFunc_Put_ChangedPuts_c1 x.1 x.2.1.1 x.2.1.2) fun t => ⟨[.cs I64 t], []⟩
theorem ok : FsOk PR 143 FS :=
  fn_ok tbok hmix Proofs.Try.f143 h0 (.R (.L (.R (.one (.fr 0))))) (G := G) Gok (L := mkL [(0, slices_IndexFunc_Put_ChangedPuts_c1_l0.fr)]) (l := [(0, .loop slices_IndexFunc_Put_ChangedPuts_c1_l0.c)]) ⟨Lam.cons slices_IndexFunc_Put_ChangedPuts_c1_l0.ok, trivial⟩
    (fun x => by simp only [slices_IndexFunc_Put_ChangedPuts_c1, mC, mB, mS, mO, mN]; kernel_rfl)
end slices_IndexFunc_Put_ChangedPuts_c1
def slices_ContainsFunc_Put_ChangedPuts_c1 (s_ : List Put_) (f : Disk_) (f2 : Unit) : Option (Bool) :=
  (slices_IndexFunc_Put_ChangedPuts_c1 s_ f f2).bind fun r => some (decide (r ≥ 0))
namespace slices_ContainsFunc_Put_ChangedPuts_c1
def G : Gam := mkG [(143, slices_IndexFunc_Put_ChangedPuts_c1.FS)]
def pts : List PT := [.cs (.sl tPut_), .clo 108 (.pr (.pt tDisk_) (.cs .unit))]
def FS : FS := mkFS [.sh, .sh] pts (fun x => slices_ContainsFunc_Put_ChangedPuts_c1 x.1 x.2.1.1 x.2.1.2) fun t => ⟨[.cs .bool t], []⟩
theorem ok : FsOk PR 107 FS :=
  fn_ok tbok hmix Proofs.Try.f107 h0 .no (G := G) (show GOk PR G from .cons slices_IndexFunc_Put_ChangedPuts_c1.ok .nil) (L := mkL []) (l := []) hT
    (fun x => by simp only [slices_ContainsFunc_Put_ChangedPuts_c1, mC, mB, mS, mO, mN]; kernel_rfl)
end slices_ContainsFunc_Put_ChangedPuts_c1
noncomputable def impl_Disk_block (d : Disk_) (at_ : Int) : Option (List Int) := blockP d at_
def impl_Disk_block.FS : FS := mkFS [.sh, .sh] [.pt tDiskB, .cl .sh (.int .i64)] (fun x => blockP x.1 x.2.1) fun y => ⟨[.cl .sh (.sl (.int .i64)) y], []⟩
theorem impl_Disk_block.ok : FsOk Go.Proofs.Try.prog 140 impl_Disk_block.FS :=
  block_fs ⟨Go.Proofs.Try.f140, by kernel_rfl, by kernel_rfl, by kernel_rfl⟩ (fun bd od at_ A C nB cB nC cC hd w v h1 h2 h3 h4 h5 h6 => callsIn_wide.1 (Go.Proofs.Bk.block_in Fence.wide 3 trivial trivial trivial rfl (by omega) bd od at_ A C nB cB nC cC hd w v h1 h2 h3 h4 h5 h6))
def slices_Equal_int64_l0.B (s1 : List Int) (s2 : List Int) (v : Int) (v2 : Int) : Option ((Int) ⊕ (((Bool) ⊕ (Unit)))) :=
  cond (decide (v2 < v)) (cond (inB v2 s1.length) (cond (inB v2 s2.length) (cond ((s1.getD v2.toNat 0) != (s2.getD v2.toNat 0)) (some (.inr (.inl false))) (some (.inl (w64 (v2 + 1))))) (none)) (none)) (some (.inr (.inr ())))
def slices_Equal_int64_l0 (s1 : List Int) (s2 : List Int) (v : Int) : (Int) → Option (((Bool) ⊕ (Unit))) :=
  loopL fun s => slices_Equal_int64_l0.B s1 s2 v s
def slices_Equal_int64 (s1 : List Int) (s2 : List Int) : Option (Bool) :=
  cond ((s1.length : Int) != (s2.length : Int)) (some false) ((slices_Equal_int64_l0 s1 s2 (s1.length : Int) 0).bind fun o => sel o (fun b => some b) (fun c => some true))
namespace slices_Equal_int64_l0
def c := codeAt (bodyOf Proofs.Try.f146) [1, 1, 0, 1, 0, 0]
def sp : SP := ⟨[(0, .cs SI), (1, .cs SI), (12, .cs I64), (13, .cs I64)], []⟩
def out (s1 : List Int) (s2 : List Int) (v : Int) : FOut (((Bool) ⊕ (Unit))) := fun o _ k => sel o (fun b => k (.rt) ⟨[(4, .cs .bool b)], []⟩) (fun c => k (.ex 0) ⟨[], []⟩)
def fr := lfrag sp (fun x => slices_Equal_int64_l0 x.1.1 x.1.2.1 x.1.2.2.1 x.1.2.2.2.1) fun x => out x.1.1 x.1.2.1 x.1.2.2.1
theorem ok : CodeOk PR 26 2 (.loop c) fr :=
  lp_ok tbok hmix h0 .no (G := (mkG [])) .nil (L := mkL []) (l := []) hT [0, 1, 12, 13] [] [(0, ([], []))] ([4], []) (fun x s => B x.1.1 x.1.2.1 x.1.2.2.1 s) (fun x s => ⟨[(0, .cs SI x.1.1), (1, .cs SI x.1.2.1), (12, .cs I64 x.1.2.2.1), (13, .cs I64 s)], []⟩) (fun x => x.1.2.2.2.1)
    (fun x s => by simp only [B, mC, mB, mS, mO, mN]; kernel_rfl)
end slices_Equal_int64_l0
namespace slices_Equal_int64
def pts : List PT := [.cs SI, .cs SI]
def FS : FS := mkFS [.sh, .sh] pts (fun x => slices_Equal_int64 x.1 x.2.1) fun t => ⟨[.cs .bool t], []⟩
theorem ok : FsOk PR 146 FS :=
  fn_ok tbok hmix Proofs.Try.f146 h0 (.R (.R (.L (.R (.one (.fr 0)))))) (G := (mkG [])) .nil (L := mkL [(0, slices_Equal_int64_l0.fr)]) (l := [(0, .loop slices_Equal_int64_l0.c)]) ⟨Lam.cons slices_Equal_int64_l0.ok, trivial⟩
    (fun x => by simp only [slices_Equal_int64, mC, mB, mS, mO, mN]; kernel_rfl)
end slices_Equal_int64
def impl_Disk_changed_l0.B (d : Disk_) (list : List Put_) (v : Int) (v2 : Int) (out_ : List Put_) : Option ((Int × List Put_) ⊕ (List Put_)) :=
  cond (decide (v2 < v)) (cond (inB v2 list.length) ((impl_Disk_block d ((list.getD v2.toNat zPut_).1)).bind fun r => (slices_Equal_int64 (((list.getD v2.toNat zPut_).2).1) r).bind fun r2 => cond (!r2) (cond (decide ((out_ ++ ([list.getD v2.toNat zPut_])).length ≤ 2147483648)) (some (.inl (w64 (v2 + 1), out_ ++ ([list.getD v2.toNat zPut_])))) (none)) (some (.inl (w64 (v2 + 1), out_)))) (none)) (some (.inr out_))
def impl_Disk_changed_l0 (d : Disk_) (list : List Put_) (v : Int) : (Int × List Put_) → Option (List Put_) :=
  loopL fun s => impl_Disk_changed_l0.B d list v s.1 s.2
def impl_Disk_changed (d : Disk_) (list : List Put_) : Option (List Put_) :=
  (impl_Disk_changed_l0 d list (list.length : Int) (0, [])).bind fun o => some o
namespace impl_Disk_changed
def G : Gam := mkG [(140, impl_Disk_block.FS), (146, slices_Equal_int64.FS)]
theorem Gok : GOk PR G := .cons impl_Disk_block.ok (.cons slices_Equal_int64.ok .nil)
end impl_Disk_changed
namespace impl_Disk_changed_l0
def c := codeAt (bodyOf Proofs.Try.f111) [1, 1, 0, 1, 0, 0]
def sp : SP := ⟨[(0, .pt tDisk_), (5, .seg 5 []), (8, .cs (.sl tPut_)), (9, .cs I64), (10, .cs I64)], [(5, .reg, .cl .top (.sl tPut_))]⟩
def out (d : Disk_) (list : List Put_) (v : Int) : FOut (List Put_) := fun b _ k => k (.ex 0) ⟨[(5, .seg 5 [])], [(5, some ⟨.reg, .cl .top (.sl tPut_) b⟩)]⟩
def fr := lfrag sp (fun x => impl_Disk_changed_l0 x.1.1 x.1.2.2.1 x.1.2.2.2.1 (x.1.2.2.2.2.1, x.2.1)) fun x => out x.1.1 x.1.2.2.1 x.1.2.2.2.1
theorem ok : CodeOk PR 28 2 (.loop c) fr :=
  lp_ok tbok hmix ⟨[], [5], [], 0⟩ .no (G := impl_Disk_changed.G) impl_Disk_changed.Gok (L := mkL []) (l := []) hT [0, 5, 8, 9, 10] [5] [(0, ([5], [5]))] ([], []) (fun x s => B x.1.1 x.1.2.2.1 x.1.2.2.2.1 s.1 s.2) (fun x s => ⟨[(0, .pt tDisk_ x.1.1), (5, .seg 5 []), (8, .cs (.sl tPut_) x.1.2.2.1), (9, .cs I64 x.1.2.2.2.1), (10, .cs I64 s.1)], [(5, some ⟨.reg, .cl .top (.sl tPut_) s.2⟩)]⟩) (fun x => (x.1.2.2.2.2.1, x.2.1))
    (fun x s => by simp only [B, mC, mB, mS, mO, mN]; kernel_rfl)
end impl_Disk_changed_l0
namespace impl_Disk_changed
def pts : List PT := [.pt tDisk_, .cs (.sl tPut_)]
def FS : FS := mkFS [.sh, .sh] pts (fun x => impl_Disk_changed x.1 x.2.1) fun t => ⟨[.cl .top (.sl tPut_) t], []⟩
theorem ok : FsOk PR 111 FS :=
  fn_ok tbok hmix Proofs.Try.f111 ⟨[], [5], [], 0⟩ (.R (.R (.L (.R (.one (.fr 0)))))) (G := G) Gok (L := mkL [(0, impl_Disk_changed_l0.fr)]) (l := [(0, .loop impl_Disk_changed_l0.c)]) ⟨Lam.cons impl_Disk_changed_l0.ok, trivial⟩
    (fun x => by simp only [impl_Disk_changed, mC, mB, mS, mO, mN]; kernel_rfl)
end impl_Disk_changed
noncomputable def impl_clonePuts (l : List Put_) : Option (List Put_) := clonePutsP l
noncomputable def impl_clonePuts.FS : FS := mkFS [.sh] [.cl .sh (.sl tPutB)] (fun x => clonePutsP x.1) fun y => ⟨[.cl .deep (.sl tPutB) y], []⟩
theorem impl_clonePuts.okA : FsOk Go.Proofs.Try.prog 144 (mkFS [.sh] [.cl .sh (.sl tPutB)] (fun x => cloneP x.1) fun y => ⟨[.cl .top (.sl tPutB) y], []⟩) :=
  clone_fs (hn := ⟨[], [], [], 1⟩) tbok hmix (fn := Go.Proofs.Try.f144) (by kernel_rfl) (body_some (by kernel_rfl)) (by kernel_rfl) (by kernel_rfl) .top tPut_ 41 41 141 (by kernel_rfl) (by kernel_rfl) (by kernel_rfl) (by kernel_rfl) (by kernel_rfl) (by kernel_rfl) (by kernel_rfl) (by kernel_rfl) (fun xs => by kernel_rfl) (fun xs => by kernel_rfl) (fun xs => by kernel_rfl) (fun xs => by kernel_rfl)
theorem impl_clonePuts.okB : FsOk Go.Proofs.Try.prog 145 (mkFS [.sh] [.cl .sh (.sl (.int .i64))] (fun x => cloneP x.1) fun y => ⟨[.cl .deep (.sl (.int .i64)) y], []⟩) :=
  clone_fs (hn := ⟨[], [], [], 0⟩) tbok hmix (fn := Go.Proofs.Try.f145) (by kernel_rfl) (body_some (by kernel_rfl)) (by kernel_rfl) (by kernel_rfl) .deep (.int .i64) 31 31 2 (by kernel_rfl) (by kernel_rfl) (by kernel_rfl) (by kernel_rfl) (by kernel_rfl) (by kernel_rfl) (by kernel_rfl) (by kernel_rfl) (fun xs => by kernel_rfl) (fun xs => by kernel_rfl) (fun xs => by kernel_rfl) (fun xs => by kernel_rfl)
theorem impl_clonePuts.ok : FsOk Go.Proofs.Try.prog 110 impl_clonePuts.FS :=
  clonePuts_fs ⟨Go.Proofs.Try.f110, by kernel_rfl, by kernel_rfl, by kernel_rfl⟩ (fun w A c l hr hl hls => callsIn_wide.1 (Go.Proofs.Cp.clonePuts_in Fence.wide 1 trivial trivial trivial (Nat.le_refl _) rfl (fun m w A c xs hr hl => callsIn_wide.2 (clone_calls impl_clonePuts.okA (by decide) rd_puts w A c xs hr hl)) (fun m w A c xs hr hl => callsIn_wide.2 (clone_calls impl_clonePuts.okB (by decide) rd_ints w A c xs hr hl)) w A c l hr hl hls))
def impl_ChangedPuts (d : Disk_) (list : List Put_) : Option (PutsResult_) :=
  (impl_diskFault d).bind fun r => cond (r != 0) (some (r, [], ())) (cond (decide ((list.length : Int) > 60)) (some (2, [], ())) ((slices_ContainsFunc_Put_ChangedPuts_c1 list d ()).bind fun r2 => cond r2 (some (3, [], ())) ((impl_Disk_changed d list).bind fun r3 => (impl_clonePuts r3).bind fun r4 => some (0, r4, ()))))
namespace impl_ChangedPuts
def G : Gam := mkG [(106, impl_diskFault.FS), (107, slices_ContainsFunc_Put_ChangedPuts_c1.FS), (111, impl_Disk_changed.FS), (110, impl_clonePuts.FS)]
def pts : List PT := [.cs tDisk_, .cs (.sl tPut_)]
def FS : FS := mkFS [.sh, .sh] pts (fun x => impl_ChangedPuts x.1 x.2.1) fun t => ⟨[.cd tPutsResult_ t], []⟩
theorem ok : FsOk PR 43 FS :=
  fn_ok tbok hmix Proofs.Try.f43 ⟨[2], [], [], 0⟩ .no (G := G) (show GOk PR G from .cons impl_diskFault.ok (.cons slices_ContainsFunc_Put_ChangedPuts_c1.ok (.cons impl_Disk_changed.ok (.cons impl_clonePuts.ok .nil)))) (L := mkL []) (l := []) hT
    (fun x => by simp only [impl_ChangedPuts, mC, mB, mS, mO, mN]; kernel_rfl)
end impl_ChangedPuts
def laws_eqInt64S_l0.B (a : List Int) (b : List Int) (i_ : Int) : Option ((Int) ⊕ (((Bool) ⊕ (Unit)))) :=
  cond (decide (i_ < (a.length : Int))) (cond (inB i_ a.length) (cond (inB i_ b.length) (cond ((a.getD i_.toNat 0) != (b.getD i_.toNat 0)) (some (.inr (.inl false))) (some (.inl (w64 (i_ + 1))))) (none)) (none)) (some (.inr (.inr ())))
def laws_eqInt64S_l0 (a : List Int) (b : List Int) : (Int) → Option (((Bool) ⊕ (Unit))) :=
  loopL fun s => laws_eqInt64S_l0.B a b s
def laws_eqInt64S (a : List Int) (b : List Int) : Option (Bool) :=
  cond ((a.length : Int) != (b.length : Int)) (some false) ((laws_eqInt64S_l0 a b 0).bind fun o => sel o (fun b2 => some b2) (fun c => some true))
namespace laws_eqInt64S_l0
def c := codeAt (bodyOf Proofs.Try.f83) [1, 1, 0, 1, 0, 0]
def sp : SP := ⟨[(0, .cs SI), (1, .cs SI), (5, .cs I64)], []⟩
def out (a : List Int) (b : List Int) : FOut (((Bool) ⊕ (Unit))) := fun o _ k => sel o (fun b => k (.rt) ⟨[(4, .cs .bool b)], []⟩) (fun c => k (.ex 0) ⟨[], []⟩)
def fr := lfrag sp (fun x => laws_eqInt64S_l0 x.1.1 x.1.2.1 x.1.2.2.1) fun x => out x.1.1 x.1.2.1
theorem ok : CodeOk PR 26 2 (.loop c) fr :=
  lp_ok tbok hmix h0 .no (G := (mkG [])) .nil (L := mkL []) (l := []) hT [0, 1, 5] [] [(0, ([], []))] ([4], []) (fun x s => B x.1.1 x.1.2.1 s) (fun x s => ⟨[(0, .cs SI x.1.1), (1, .cs SI x.1.2.1), (5, .cs I64 s)], []⟩) (fun x => x.1.2.2.1)
    (fun x s => by simp only [B, mC, mB, mS, mO, mN]; kernel_rfl)
end laws_eqInt64S_l0
namespace laws_eqInt64S
def pts : List PT := [.cs SI, .cs SI]
def FS : FS := mkFS [.sh, .sh] pts (fun x => laws_eqInt64S x.1 x.2.1) fun t => ⟨[.cs .bool t], []⟩
theorem ok : FsOk PR 83 FS :=
  fn_ok tbok hmix Proofs.Try.f83 h0 (.R (.R (.L (.R (.one (.fr 0)))))) (G := (mkG [])) .nil (L := mkL [(0, laws_eqInt64S_l0.fr)]) (l := [(0, .loop laws_eqInt64S_l0.c)]) ⟨Lam.cons laws_eqInt64S_l0.ok, trivial⟩
    (fun x => by simp only [laws_eqInt64S, mC, mB, mS, mO, mN]; kernel_rfl)
end laws_eqInt64S
def laws_eqPut (a : Put_) (b : Put_) : Option (Bool) :=
  cond (a.1 != b.1) (some false) ((laws_eqInt64S a.2.1 b.2.1).bind fun r => cond (!r) (some false) (some true))
namespace laws_eqPut
def G : Gam := mkG [(83, laws_eqInt64S.FS)]
def pts : List PT := [.cs tPut_, .cs tPut_]
def FS : FS := mkFS [.sh, .sh] pts (fun x => laws_eqPut x.1 x.2.1) fun t => ⟨[.cs .bool t], []⟩
theorem ok : FsOk PR 112 FS :=
  fn_ok tbok hmix Proofs.Try.f112 ⟨[2, 3], [], [], 0⟩ .no (G := G) (show GOk PR G from .cons laws_eqInt64S.ok .nil) (L := mkL []) (l := []) hT
    (fun x => by simp only [laws_eqPut, mC, mB, mS, mO, mN]; kernel_rfl)
end laws_eqPut
def laws_eqPutS_l0.B (a : List Put_) (b : List Put_) (i_ : Int) : Option ((Int) ⊕ (((Bool) ⊕ (Unit)))) :=
  cond (decide (i_ < (a.length : Int))) (cond (inB i_ a.length) (cond (inB i_ b.length) ((laws_eqPut (a.getD i_.toNat zPut_) (b.getD i_.toNat zPut_)).bind fun r => cond (!r) (some (.inr (.inl false))) (some (.inl (w64 (i_ + 1))))) (none)) (none)) (some (.inr (.inr ())))
def laws_eqPutS_l0 (a : List Put_) (b : List Put_) : (Int) → Option (((Bool) ⊕ (Unit))) :=
  loopL fun s => laws_eqPutS_l0.B a b s
def laws_eqPutS (a : List Put_) (b : List Put_) : Option (Bool) :=
  cond ((a.length : Int) != (b.length : Int)) (some false) ((laws_eqPutS_l0 a b 0).bind fun o => sel o (fun b2 => some b2) (fun c => some true))
namespace laws_eqPutS
def G : Gam := mkG [(112, laws_eqPut.FS)]
theorem Gok : GOk PR G := .cons laws_eqPut.ok .nil
end laws_eqPutS
namespace laws_eqPutS_l0
def c := codeAt (bodyOf Proofs.Try.f45) [1, 1, 0, 1, 0, 0]
def sp : SP := ⟨[(0, .cs (.sl tPut_)), (1, .cs (.sl tPut_)), (5, .cs I64)], []⟩
def out (a : List Put_) (b : List Put_) : FOut (((Bool) ⊕ (Unit))) := fun o _ k => sel o (fun b => k (.rt) ⟨[(4, .cs .bool b)], []⟩) (fun c => k (.ex 0) ⟨[], []⟩)
def fr := lfrag sp (fun x => laws_eqPutS_l0 x.1.1 x.1.2.1 x.1.2.2.1) fun x => out x.1.1 x.1.2.1
theorem ok : CodeOk PR 27 2 (.loop c) fr :=
  lp_ok tbok hmix h0 .no (G := laws_eqPutS.G) laws_eqPutS.Gok (L := mkL []) (l := []) hT [0, 1, 5] [] [(0, ([], []))] ([4], []) (fun x s => B x.1.1 x.1.2.1 s) (fun x s => ⟨[(0, .cs (.sl tPut_) x.1.1), (1, .cs (.sl tPut_) x.1.2.1), (5, .cs I64 s)], []⟩) (fun x => x.1.2.2.1)
    (fun x s => by simp only [B, mC, mB, mS, mO, mN]; kernel_rfl)
end laws_eqPutS_l0
namespace laws_eqPutS
def pts : List PT := [.cs (.sl tPut_), .cs (.sl tPut_)]
def FS : FS := mkFS [.sh, .sh] pts (fun x => laws_eqPutS x.1 x.2.1) fun t => ⟨[.cs .bool t], []⟩
theorem ok : FsOk PR 45 FS :=
  fn_ok tbok hmix Proofs.Try.f45 h0 (.R (.R (.L (.R (.one (.fr 0)))))) (G := G) Gok (L := mkL [(0, laws_eqPutS_l0.fr)]) (l := [(0, .loop laws_eqPutS_l0.c)]) ⟨Lam.cons laws_eqPutS_l0.ok, trivial⟩
    (fun x => by simp only [laws_eqPutS, mC, mB, mS, mO, mN]; kernel_rfl)
end laws_eqPutS
def laws_eqPutsResult (a : PutsResult_) (b : PutsResult_) : Option (Bool) :=
  cond (a.1 != b.1) (some false) ((laws_eqPutS a.2.1 b.2.1).bind fun r => cond (!r) (some false) (some true))
namespace laws_eqPutsResult
def G : Gam := mkG [(45, laws_eqPutS.FS)]
def pts : List PT := [.cs tPutsResult_, .cs tPutsResult_]
def FS : FS := mkFS [.sh, .sh] pts (fun x => laws_eqPutsResult x.1 x.2.1) fun t => ⟨[.cs .bool t], []⟩
theorem ok : FsOk PR 44 FS :=
  fn_ok tbok hmix Proofs.Try.f44 ⟨[2, 3], [], [], 0⟩ .no (G := G) (show GOk PR G from .cons laws_eqPutS.ok .nil) (L := mkL []) (l := []) hT
    (fun x => by simp only [laws_eqPutsResult, mC, mB, mS, mO, mN]; kernel_rfl)
end laws_eqPutsResult
def laws_eqInt64SS_l0.B (a : List (List Int)) (b : List (List Int)) (i_ : Int) : Option ((Int) ⊕ (((Bool) ⊕ (Unit)))) :=
  cond (decide (i_ < (a.length : Int))) (cond (inB i_ a.length) (cond (inB i_ b.length) ((laws_eqInt64S (a.getD i_.toNat []) (b.getD i_.toNat [])).bind fun r => cond (!r) (some (.inr (.inl false))) (some (.inl (w64 (i_ + 1))))) (none)) (none)) (some (.inr (.inr ())))
def laws_eqInt64SS_l0 (a : List (List Int)) (b : List (List Int)) : (Int) → Option (((Bool) ⊕ (Unit))) :=
  loopL fun s => laws_eqInt64SS_l0.B a b s
def laws_eqInt64SS (a : List (List Int)) (b : List (List Int)) : Option (Bool) :=
  cond ((a.length : Int) != (b.length : Int)) (some false) ((laws_eqInt64SS_l0 a b 0).bind fun o => sel o (fun b2 => some b2) (fun c => some true))
namespace laws_eqInt64SS
def G : Gam := mkG [(83, laws_eqInt64S.FS)]
theorem Gok : GOk PR G := .cons laws_eqInt64S.ok .nil
end laws_eqInt64SS
namespace laws_eqInt64SS_l0
def c := codeAt (bodyOf Proofs.Try.f101) [1, 1, 0, 1, 0, 0]
def sp : SP := ⟨[(0, .cs (.sl SI)), (1, .cs (.sl SI)), (5, .cs I64)], []⟩
def out (a : List (List Int)) (b : List (List Int)) : FOut (((Bool) ⊕ (Unit))) := fun o _ k => sel o (fun b => k (.rt) ⟨[(4, .cs .bool b)], []⟩) (fun c => k (.ex 0) ⟨[], []⟩)
def fr := lfrag sp (fun x => laws_eqInt64SS_l0 x.1.1 x.1.2.1 x.1.2.2.1) fun x => out x.1.1 x.1.2.1
theorem ok : CodeOk PR 27 2 (.loop c) fr :=
  lp_ok tbok hmix h0 .no (G := laws_eqInt64SS.G) laws_eqInt64SS.Gok (L := mkL []) (l := []) hT [0, 1, 5] [] [(0, ([], []))] ([4], []) (fun x s => B x.1.1 x.1.2.1 s) (fun x s => ⟨[(0, .cs (.sl SI) x.1.1), (1, .cs (.sl SI) x.1.2.1), (5, .cs I64 s)], []⟩) (fun x => x.1.2.2.1)
    (fun x s => by simp only [B, mC, mB, mS, mO, mN]; kernel_rfl)
end laws_eqInt64SS_l0
namespace laws_eqInt64SS
def pts : List PT := [.cs (.sl SI), .cs (.sl SI)]
def FS : FS := mkFS [.sh, .sh] pts (fun x => laws_eqInt64SS x.1 x.2.1) fun t => ⟨[.cs .bool t], []⟩
theorem ok : FsOk PR 101 FS :=
  fn_ok tbok hmix Proofs.Try.f101 h0 (.R (.R (.L (.R (.one (.fr 0)))))) (G := G) Gok (L := mkL [(0, laws_eqInt64SS_l0.fr)]) (l := [(0, .loop laws_eqInt64SS_l0.c)]) ⟨Lam.cons laws_eqInt64SS_l0.ok, trivial⟩
    (fun x => by simp only [laws_eqInt64SS, mC, mB, mS, mO, mN]; kernel_rfl)
end laws_eqInt64SS
def laws_eqDisk (a : Disk_) (b : Disk_) : Option (Bool) :=
  (laws_eqInt64SS a.1 b.1).bind fun r => cond (!r) (some false) ((laws_eqPutS a.2.1 b.2.1).bind fun r2 => cond (!r2) (some false) (some true))
namespace laws_eqDisk
def G : Gam := mkG [(101, laws_eqInt64SS.FS), (45, laws_eqPutS.FS)]
def pts : List PT := [.cs tDisk_, .cs tDisk_]
def FS : FS := mkFS [.sh, .sh] pts (fun x => laws_eqDisk x.1 x.2.1) fun t => ⟨[.cs .bool t], []⟩
theorem ok : FsOk PR 39 FS :=
  fn_ok tbok hmix Proofs.Try.f39 ⟨[2, 3], [], [], 0⟩ .no (G := G) (show GOk PR G from .cons laws_eqInt64SS.ok (.cons laws_eqPutS.ok .nil)) (L := mkL []) (l := []) hT
    (fun x => by simp only [laws_eqDisk, mC, mB, mS, mO, mN]; kernel_rfl)
end laws_eqDisk
def laws_markInt64S_l0.B (k_ : Int) (i_ : Int) (a_ : List Int) : Option ((Int × Int × List Int) ⊕ (Int × List Int)) :=
  cond (decide (i_ < (a_.length : Int))) (cond (inB i_ a_.length) (some (.inl (w64 (k_ + 1), w64 (i_ + 1), a_.set i_.toNat k_))) (none)) (some (.inr (k_, a_)))
def laws_markInt64S_l0  : (Int × Int × List Int) → Option (Int × List Int) :=
  loopL fun s => laws_markInt64S_l0.B s.1 s.2.1 s.2.2
def laws_markInt64S (a : List Int) (k : Int) : Option (Int × List Int) :=
  (laws_markInt64S_l0 (k, 0, a)).bind fun o => some (o.1, o.2)
namespace laws_markInt64S_l0
def c := codeAt (bodyOf Proofs.Try.f114) [1, 0, 1, 0, 0]
def sp : SP := ⟨[(0, .seg 0 []), (1, .cs I64), (5, .cs I64)], [(0, .reg, .cd SI)]⟩
def out  : FOut (Int × List Int) := fun b _ k => k (.ex 0) ⟨[(1, .cs I64 b.1)], [sr 0 (.cd SI b.2)]⟩
def fr := lfrag sp (fun x => laws_markInt64S_l0  (x.1.2.1, x.1.2.2.1, x.2.1)) fun x => out 
theorem ok : CodeOk PR 19 2 (.loop c) fr :=
  lp_ok tbok hmix h0 .no (G := (mkG [])) .nil (L := mkL []) (l := []) hT [0, 1, 5] [0] [(0, ([1], [0]))] ([], []) (fun x s => B  s.1 s.2.1 s.2.2) (fun x s => ⟨[(0, .seg 0 []), (1, .cs I64 s.1), (5, .cs I64 s.2.1)], [sr 0 (.cd SI s.2.2)]⟩) (fun x => (x.1.2.1, x.1.2.2.1, x.2.1))
    (fun x s => by simp only [B, mC, mB, mS, mO, mN]; kernel_rfl)
end laws_markInt64S_l0
namespace laws_markInt64S
def pts : List PT := [.cd SI, .cs I64]
def FS : FS := mkFS [.mu, .sh] pts (fun x => laws_markInt64S x.1 x.2.1) fun t => ⟨[.cs I64 t.1], [.cd SI t.2]⟩
theorem ok : FsOk PR 114 FS :=
  fn_ok tbok hmix Proofs.Try.f114 h0 (.R (.L (.R (.one (.fr 0))))) (G := (mkG [])) .nil (L := mkL [(0, laws_markInt64S_l0.fr)]) (l := [(0, .loop laws_markInt64S_l0.c)]) ⟨Lam.cons laws_markInt64S_l0.ok, trivial⟩
    (fun x => by simp only [laws_markInt64S, mC, mB, mS, mO, mN]; kernel_rfl)
end laws_markInt64S
def laws_markInt64SS_l0.B (k_ : Int) (i_ : Int) (a_ : List (List Int)) : Option ((Int × Int × List (List Int)) ⊕ (Int × List (List Int))) :=
  cond (decide (i_ < (a_.length : Int))) (cond (inB i_ a_.length) ((laws_markInt64S (a_.getD i_.toNat []) k_).bind fun r => some (.inl (r.1, w64 (i_ + 1), a_.set i_.toNat r.2))) (none)) (some (.inr (k_, a_)))
def laws_markInt64SS_l0  : (Int × Int × List (List Int)) → Option (Int × List (List Int)) :=
  loopL fun s => laws_markInt64SS_l0.B s.1 s.2.1 s.2.2
def laws_markInt64SS (a : List (List Int)) (k : Int) : Option (Int × List (List Int)) :=
  (laws_markInt64SS_l0 (k, 0, a)).bind fun o => some (o.1, o.2)
namespace laws_markInt64SS
def G : Gam := mkG [(114, laws_markInt64S.FS)]
theorem Gok : GOk PR G := .cons laws_markInt64S.ok .nil
end laws_markInt64SS
namespace laws_markInt64SS_l0
def c := codeAt (bodyOf Proofs.Try.f113) [1, 0, 1, 0, 0]
def sp : SP := ⟨[(0, .seg 0 []), (1, .cs I64), (5, .cs I64)], [(0, .reg, .cd (.sl SI))]⟩
def out  : FOut (Int × List (List Int)) := fun b _ k => k (.ex 0) ⟨[(1, .cs I64 b.1)], [sr 0 (.cd (.sl SI) b.2)]⟩
def fr := lfrag sp (fun x => laws_markInt64SS_l0  (x.1.2.1, x.1.2.2.1, x.2.1)) fun x => out 
theorem ok : CodeOk PR 19 2 (.loop c) fr :=
  lp_ok tbok hmix h0 .no (G := laws_markInt64SS.G) laws_markInt64SS.Gok (L := mkL []) (l := []) hT [0, 1, 5] [0] [(0, ([1], [0]))] ([], []) (fun x s => B  s.1 s.2.1 s.2.2) (fun x s => ⟨[(0, .seg 0 []), (1, .cs I64 s.1), (5, .cs I64 s.2.1)], [sr 0 (.cd (.sl SI) s.2.2)]⟩) (fun x => (x.1.2.1, x.1.2.2.1, x.2.1))
    (fun x s => by simp only [B, mC, mB, mS, mO, mN]; kernel_rfl)
end laws_markInt64SS_l0
namespace laws_markInt64SS
def pts : List PT := [.cd (.sl SI), .cs I64]
def FS : FS := mkFS [.mu, .sh] pts (fun x => laws_markInt64SS x.1 x.2.1) fun t => ⟨[.cs I64 t.1], [.cd (.sl SI) t.2]⟩
theorem ok : FsOk PR 113 FS :=
  fn_ok tbok hmix Proofs.Try.f113 h0 (.R (.L (.R (.one (.fr 0))))) (G := G) Gok (L := mkL [(0, laws_markInt64SS_l0.fr)]) (l := [(0, .loop laws_markInt64SS_l0.c)]) ⟨Lam.cons laws_markInt64SS_l0.ok, trivial⟩
    (fun x => by simp only [laws_markInt64SS, mC, mB, mS, mO, mN]; kernel_rfl)
end laws_markInt64SS
def laws_markPutS_l0.B (k_ : Int) (i_ : Int) (a_ : List Put_) : Option ((Int × Int × List Put_) ⊕ (Int × List Put_)) :=
  cond (decide (i_ < (a_.length : Int))) (cond (inB i_ a_.length) (cond (inB i_ ((a_.set i_.toNat (k_, (a_.getD i_.toNat zPut_).2)).length)) ((laws_markInt64S ((((a_.set i_.toNat (k_, (a_.getD i_.toNat zPut_).2)).getD i_.toNat zPut_).2).1) (w64 (k_ + 1))).bind fun r => some (.inl (r.1, w64 (i_ + 1), (a_.set i_.toNat (k_, (a_.getD i_.toNat zPut_).2)).set i_.toNat (((a_.set i_.toNat (k_, (a_.getD i_.toNat zPut_).2)).getD i_.toNat zPut_).1, r.2, (((a_.set i_.toNat (k_, (a_.getD i_.toNat zPut_).2)).getD i_.toNat zPut_).2).2)))) (none)) (none)) (some (.inr (k_, a_)))
def laws_markPutS_l0  : (Int × Int × List Put_) → Option (Int × List Put_) :=
  loopL fun s => laws_markPutS_l0.B s.1 s.2.1 s.2.2
def laws_markPutS (a : List Put_) (k : Int) : Option (Int × List Put_) :=
  (laws_markPutS_l0 (k, 0, a)).bind fun o => some (o.1, o.2)
namespace laws_markPutS
def G : Gam := mkG [(114, laws_markInt64S.FS)]
theorem Gok : GOk PR G := .cons laws_markInt64S.ok .nil
end laws_markPutS
namespace laws_markPutS_l0
def c := codeAt (bodyOf Proofs.Try.f47) [1, 0, 1, 0, 0]
def sp : SP := ⟨[(0, .seg 0 []), (1, .cs I64), (5, .cs I64)], [(0, .reg, .cd (.sl tPut_))]⟩
def out  : FOut (Int × List Put_) := fun b _ k => k (.ex 0) ⟨[(1, .cs I64 b.1)], [sr 0 (.cd (.sl tPut_) b.2)]⟩
def fr := lfrag sp (fun x => laws_markPutS_l0  (x.1.2.1, x.1.2.2.1, x.2.1)) fun x => out 
theorem ok : CodeOk PR 27 2 (.loop c) fr :=
  lp_ok tbok hmix h0 .no (G := laws_markPutS.G) laws_markPutS.Gok (L := mkL []) (l := []) hT [0, 1, 5] [0] [(0, ([1], [0]))] ([], []) (fun x s => B  s.1 s.2.1 s.2.2) (fun x s => ⟨[(0, .seg 0 []), (1, .cs I64 s.1), (5, .cs I64 s.2.1)], [sr 0 (.cd (.sl tPut_) s.2.2)]⟩) (fun x => (x.1.2.1, x.1.2.2.1, x.2.1))
    (fun x s => by simp only [B, mC, mB, mS, mO, mN]; kernel_rfl)
end laws_markPutS_l0
namespace laws_markPutS
def pts : List PT := [.cd (.sl tPut_), .cs I64]
def FS : FS := mkFS [.mu, .sh] pts (fun x => laws_markPutS x.1 x.2.1) fun t => ⟨[.cs I64 t.1], [.cd (.sl tPut_) t.2]⟩
theorem ok : FsOk PR 47 FS :=
  fn_ok tbok hmix Proofs.Try.f47 h0 (.R (.L (.R (.one (.fr 0))))) (G := G) Gok (L := mkL [(0, laws_markPutS_l0.fr)]) (l := [(0, .loop laws_markPutS_l0.c)]) ⟨Lam.cons laws_markPutS_l0.ok, trivial⟩
    (fun x => by simp only [laws_markPutS, mC, mB, mS, mO, mN]; kernel_rfl)
end laws_markPutS
def laws_markDisk (a : Disk_) (k : Int) : Option (Int × Disk_) :=
  (laws_markInt64SS a.1 k).bind fun r => (laws_markPutS a.2.1 r.1).bind fun r2 => some (r2.1, (r.2, r2.2, a.2.2))
namespace laws_markDisk
def G : Gam := mkG [(113, laws_markInt64SS.FS), (47, laws_markPutS.FS)]
def pts : List PT := [.cd tDisk_, .cs I64]
def FS : FS := mkFS [.mu, .sh] pts (fun x => laws_markDisk x.1 x.2.1) fun t => ⟨[.cs I64 t.1], [.cd tDisk_ t.2]⟩
theorem ok : FsOk PR 46 FS :=
  fn_ok tbok hmix Proofs.Try.f46 ⟨[2], [], [], 0⟩ .no (G := G) (show GOk PR G from .cons laws_markInt64SS.ok (.cons laws_markPutS.ok .nil)) (L := mkL []) (l := []) hT
    (fun x => by simp only [laws_markDisk, mC, mB, mS, mO, mN]; kernel_rfl)
end laws_markDisk
def laws_markPutsResult (a : PutsResult_) (k : Int) : Option (Int × PutsResult_) :=
  (laws_markPutS a.2.1 k).bind fun r => some (r.1, (a.1, r.2, a.2.2))
namespace laws_markPutsResult
def G : Gam := mkG [(47, laws_markPutS.FS)]
def pts : List PT := [.cd tPutsResult_, .cs I64]
def FS : FS := mkFS [.mu, .sh] pts (fun x => laws_markPutsResult x.1 x.2.1) fun t => ⟨[.cs I64 t.1], [.cd tPutsResult_ t.2]⟩
theorem ok : FsOk PR 48 FS :=
  fn_ok tbok hmix Proofs.Try.f48 ⟨[2], [], [], 0⟩ .no (G := G) (show GOk PR G from .cons laws_markPutS.ok .nil) (L := mkL []) (l := []) hT
    (fun x => by simp only [laws_markPutsResult, mC, mB, mS, mO, mN]; kernel_rfl)
end laws_markPutsResult
def laws_heldInt64S_l0.B (a : List Int) (k_ : Int) (i_ : Int) : Option ((Int × Int) ⊕ (((Int) ⊕ (Int)))) :=
  cond (decide (i_ < (a.length : Int))) (cond (inB i_ a.length) (cond ((a.getD i_.toNat 0) != k_) (some (.inr (.inl (-1)))) (some (.inl (w64 (k_ + 1), w64 (i_ + 1))))) (none)) (some (.inr (.inr k_)))
def laws_heldInt64S_l0 (a : List Int) : (Int × Int) → Option (((Int) ⊕ (Int))) :=
  loopL fun s => laws_heldInt64S_l0.B a s.1 s.2
def laws_heldInt64S (a : List Int) (k : Int) : Option (Int) :=
  (laws_heldInt64S_l0 a (k, 0)).bind fun o => sel o (fun b => some b) (fun c => some c)
namespace laws_heldInt64S_l0
def c := codeAt (bodyOf Proofs.Try.f147) [1, 0, 1, 0, 0]
def sp : SP := ⟨[(0, .cs SI), (1, .cs I64), (5, .cs I64)], []⟩
def out (a : List Int) : FOut (((Int) ⊕ (Int))) := fun o _ k => sel o (fun b => k (.rt) ⟨[(4, .cs I64 b)], []⟩) (fun c => k (.ex 0) ⟨[(1, .cs I64 c)], []⟩)
def fr := lfrag sp (fun x => laws_heldInt64S_l0 x.1.1 (x.1.2.1, x.1.2.2.1)) fun x => out x.1.1
theorem ok : CodeOk PR 21 2 (.loop c) fr :=
  lp_ok tbok hmix h0 .no (G := (mkG [])) .nil (L := mkL []) (l := []) hT [0, 1, 5] [] [(0, ([1], []))] ([4], []) (fun x s => B x.1.1 s.1 s.2) (fun x s => ⟨[(0, .cs SI x.1.1), (1, .cs I64 s.1), (5, .cs I64 s.2)], []⟩) (fun x => (x.1.2.1, x.1.2.2.1))
    (fun x s => by simp only [B, mC, mB, mS, mO, mN]; kernel_rfl)
end laws_heldInt64S_l0
namespace laws_heldInt64S
def pts : List PT := [.cs SI, .cs I64]
def FS : FS := mkFS [.sh, .sh] pts (fun x => laws_heldInt64S x.1 x.2.1) fun t => ⟨[.cs I64 t], []⟩
theorem ok : FsOk PR 147 FS :=
  fn_ok tbok hmix Proofs.Try.f147 h0 (.R (.L (.R (.one (.fr 0))))) (G := (mkG [])) .nil (L := mkL [(0, laws_heldInt64S_l0.fr)]) (l := [(0, .loop laws_heldInt64S_l0.c)]) ⟨Lam.cons laws_heldInt64S_l0.ok, trivial⟩
    (fun x => by simp only [laws_heldInt64S, mC, mB, mS, mO, mN]; kernel_rfl)
end laws_heldInt64S
def laws_heldPutS_l0.B (a : List Put_) (k_ : Int) (i_ : Int) : Option ((Int × Int) ⊕ (((Int) ⊕ (Int)))) :=
  cond (decide (i_ < (a.length : Int))) (cond (inB i_ a.length) (cond (((a.getD i_.toNat zPut_).1) != k_) (some (.inr (.inl (-1)))) (cond (inB i_ a.length) ((laws_heldInt64S (((a.getD i_.toNat zPut_).2).1) (w64 (k_ + 1))).bind fun r => cond (decide (r < 0)) (some (.inr (.inl (-1)))) (some (.inl (r, w64 (i_ + 1))))) (none))) (none)) (some (.inr (.inr k_)))
def laws_heldPutS_l0 (a : List Put_) : (Int × Int) → Option (((Int) ⊕ (Int))) :=
  loopL fun s => laws_heldPutS_l0.B a s.1 s.2
def laws_heldPutS (a : List Put_) (k : Int) : Option (Int) :=
  (laws_heldPutS_l0 a (k, 0)).bind fun o => sel o (fun b => some b) (fun c => some c)
namespace laws_heldPutS
def G : Gam := mkG [(147, laws_heldInt64S.FS)]
theorem Gok : GOk PR G := .cons laws_heldInt64S.ok .nil
end laws_heldPutS
namespace laws_heldPutS_l0
def c := codeAt (bodyOf Proofs.Try.f115) [1, 0, 1, 0, 0]
def sp : SP := ⟨[(0, .cs (.sl tPut_)), (1, .cs I64), (5, .cs I64)], []⟩
def out (a : List Put_) : FOut (((Int) ⊕ (Int))) := fun o _ k => sel o (fun b => k (.rt) ⟨[(4, .cs I64 b)], []⟩) (fun c => k (.ex 0) ⟨[(1, .cs I64 c)], []⟩)
def fr := lfrag sp (fun x => laws_heldPutS_l0 x.1.1 (x.1.2.1, x.1.2.2.1)) fun x => out x.1.1
theorem ok : CodeOk PR 31 2 (.loop c) fr :=
  lp_ok tbok hmix h0 .no (G := laws_heldPutS.G) laws_heldPutS.Gok (L := mkL []) (l := []) hT [0, 1, 5] [] [(0, ([1], []))] ([4], []) (fun x s => B x.1.1 s.1 s.2) (fun x s => ⟨[(0, .cs (.sl tPut_) x.1.1), (1, .cs I64 s.1), (5, .cs I64 s.2)], []⟩) (fun x => (x.1.2.1, x.1.2.2.1))
    (fun x s => by simp only [B, mC, mB, mS, mO, mN]; kernel_rfl)
end laws_heldPutS_l0
namespace laws_heldPutS
def pts : List PT := [.cs (.sl tPut_), .cs I64]
def FS : FS := mkFS [.sh, .sh] pts (fun x => laws_heldPutS x.1 x.2.1) fun t => ⟨[.cs I64 t], []⟩
theorem ok : FsOk PR 115 FS :=
  fn_ok tbok hmix Proofs.Try.f115 h0 (.R (.L (.R (.one (.fr 0))))) (G := G) Gok (L := mkL [(0, laws_heldPutS_l0.fr)]) (l := [(0, .loop laws_heldPutS_l0.c)]) ⟨Lam.cons laws_heldPutS_l0.ok, trivial⟩
    (fun x => by simp only [laws_heldPutS, mC, mB, mS, mO, mN]; kernel_rfl)
end laws_heldPutS
def laws_heldPutsResult (a : PutsResult_) (k : Int) : Option (Int) :=
  (laws_heldPutS a.2.1 k).bind fun r => cond (decide (r < 0)) (some (-1)) (some r)
namespace laws_heldPutsResult
def G : Gam := mkG [(115, laws_heldPutS.FS)]
def pts : List PT := [.cs tPutsResult_, .cs I64]
def FS : FS := mkFS [.sh, .sh] pts (fun x => laws_heldPutsResult x.1 x.2.1) fun t => ⟨[.cs I64 t], []⟩
theorem ok : FsOk PR 49 FS :=
  fn_ok tbok hmix Proofs.Try.f49 ⟨[2], [], [], 0⟩ .no (G := G) (show GOk PR G from .cons laws_heldPutS.ok .nil) (L := mkL []) (l := []) hT
    (fun x => by simp only [laws_heldPutsResult, mC, mB, mS, mO, mN]; kernel_rfl)
end laws_heldPutsResult
def laws_FnExactChangedPuts (aD : Disk_) (aList : List Put_) : Option (Bool) :=
  (laws_szDisk aD 1048576).bind fun r => cond (decide (r < 0)) (some true) ((laws_szPutS aList r).bind fun r2 => cond (decide (r2 < 0)) (some true) ((laws_toDisk aD).bind fun r3 => (laws_toPutS aList).bind fun r4 => (spec_ChangedPuts (r3.1, r3.2.1, r3.2.2) r4).bind fun r5 => (laws_toDisk aD).bind fun r6 => (laws_toPutS aList).bind fun r7 => (impl_ChangedPuts (r6.1, r6.2.1, r6.2.2) r7).bind fun r8 => (laws_eqPutsResult (r8.1, r8.2.1, r8.2.2) (r5.1, r5.2.1, r5.2.2)).bind fun r9 => cond (!r9) (some false) ((laws_toDisk aD).bind fun r10 => (laws_eqDisk (r6.1, r6.2.1, r6.2.2) (r10.1, r10.2.1, r10.2.2)).bind fun r11 => cond (!r11) (some false) ((laws_toPutS aList).bind fun r12 => (laws_eqPutS r7 r12).bind fun r13 => cond (!r13) (some false) ((laws_markDisk (r6.1, r6.2.1, r6.2.2) 1).bind fun r14 => (laws_markPutS r7 r14.1).bind fun r15 => cond (decide (r15.1 < 0)) (some false) ((laws_eqPutsResult (r8.1, r8.2.1, r8.2.2) (r5.1, r5.2.1, r5.2.2)).bind fun r16 => cond (!r16) (some false) ((laws_markPutsResult (r8.1, r8.2.1, r8.2.2) 1).bind fun r17 => (laws_heldPutsResult (r8.1, r17.2.2.1, r8.2.2) 1).bind fun r18 => cond (decide (r18 < 0)) (some false) (cond (r18 != r17.1) (some false) ((laws_toDisk aD).bind fun r19 => (laws_toPutS aList).bind fun r20 => (impl_ChangedPuts (r19.1, r19.2.1, r19.2.2) r20).bind fun r21 => (laws_eqPutsResult (r21.1, r21.2.1, r21.2.2) (r5.1, r5.2.1, r5.2.2)).bind fun r22 => cond (!r22) (some false) ((laws_heldPutsResult (r8.1, r17.2.2.1, r8.2.2) 1).bind fun r23 => cond (decide (r23 < 0)) (some false) (cond (r23 != r17.1) (some false) (some true))))))))))))
namespace laws_FnExactChangedPuts
def G : Gam := mkG [(35, laws_szDisk.FS), (40, laws_szPutS.FS), (37, laws_toDisk.FS), (42, laws_toPutS.FS), (41, spec_ChangedPuts.FS), (43, impl_ChangedPuts.FS), (44, laws_eqPutsResult.FS), (39, laws_eqDisk.FS), (45, laws_eqPutS.FS), (46, laws_markDisk.FS), (47, laws_markPutS.FS), (48, laws_markPutsResult.FS), (49, laws_heldPutsResult.FS)]
def pts : List PT := [.cs tDisk_, .cs (.sl tPut_)]
def FS : FS := mkFS [.sh, .sh] pts (fun x => laws_FnExactChangedPuts x.1 x.2.1) fun t => ⟨[.cs .bool t], []⟩
theorem ok : FsOk PR 8 FS :=
  fn_ok tbok hmix Proofs.Try.f8 ⟨[2], [], [], 0⟩ .no (G := G) (show GOk PR G from .cons laws_szDisk.ok (.cons laws_szPutS.ok (.cons laws_toDisk.ok (.cons laws_toPutS.ok (.cons spec_ChangedPuts.ok (.cons impl_ChangedPuts.ok (.cons laws_eqPutsResult.ok (.cons laws_eqDisk.ok (.cons laws_eqPutS.ok (.cons laws_markDisk.ok (.cons laws_markPutS.ok (.cons laws_markPutsResult.ok (.cons laws_heldPutsResult.ok .nil))))))))))))) (L := mkL []) (l := []) hT
    (fun x => by simp only [laws_FnExactChangedPuts, mC, mB, mS, mO, mN]; kernel_rfl)
end laws_FnExactChangedPuts
end Mf
