/- The functions that FnExactCrashMount reaches: what each computes, and that it does. -/
import Derived.Test.YtkckfagcnnhimaaCrashMountH
import Derived.Test.YtkckfagcnnhimaaCrashMountJ
import Derived.Test.YtkckfagcnnhimaaProg
import Derived.KernelRfl
noncomputable section
namespace Mf
open Go
set_option linter.unusedVariables false
set_option linter.unusedSimpArgs false
set_option maxRecDepth 100000
abbrev tPut_ : Ty := (.pair (.int .i64) (.pair (.sl (.int .i64)) .unit))
abbrev Put_ : Type := Int × (List Int) × Unit
def zPut_ : Put_ := (0, [], ())
abbrev tDisk_ : Ty := (.pair (.sl (.sl (.int .i64))) (.pair (.sl tPut_) .unit))
abbrev Disk_ : Type := (List (List Int)) × (List Put_) × Unit
def zDisk_ : Disk_ := ([], [], ())
abbrev tStep_ : Ty := (.pair .bool tPut_)
abbrev Step_ : Type := Bool × Put_
def zStep_ : Step_ := (false, 0, [], ())
abbrev tEntry_ : Ty := (.pair .str (.pair (.int .i64) .unit))
abbrev Entry_ : Type := (List UInt8) × Int × Unit
def zEntry_ : Entry_ := ([], 0, ())
abbrev tInode_ : Ty := (.pair (.int .i64) (.pair (.int .i64) (.pair (.int .i64) (.pair (.sl (.int .i64)) (.pair (.sl tEntry_) .unit)))))
abbrev Inode_ : Type := Int × Int × Int × (List Int) × (List Entry_) × Unit
def zInode_ : Inode_ := (0, 0, 0, [], [], ())
abbrev tFs_ : Ty := (.pair (.sl tInode_) (.pair (.sl (.sl (.int .u8))) .unit))
abbrev Fs_ : Type := (List Inode_) × (List (List Int)) × Unit
def zFs_ : Fs_ := ([], [], ())
abbrev tWorld_ : Ty := (.pair tDisk_ (.pair tFs_ (.pair tFs_ .unit)))
abbrev World_ : Type := Disk_ × Fs_ × Fs_ × Unit
def zWorld_ : World_ := (([], [], ()), ([], [], ()), ([], [], ()), ())
abbrev tCall_ : Ty := (.pair (.int .i64) (.pair .str (.pair .str (.pair (.int .i64) (.pair (.int .i64) (.pair (.sl (.int .u8)) .unit))))))
abbrev Call_ : Type := Int × (List UInt8) × (List UInt8) × Int × Int × (List Int) × Unit
def zCall_ : Call_ := (0, [], [], 0, 0, [], ())
abbrev tCallResult_ : Ty := (.pair (.int .i64) (.pair (.int .i64) (.pair (.int .i64) (.pair (.sl (.int .u8)) (.pair (.sl .str) (.pair tFs_ .unit))))))
abbrev CallResult_ : Type := Int × Int × Int × (List Int) × (List (List UInt8)) × Fs_ × Unit
def zCallResult_ : CallResult_ := (0, 0, 0, [], [], ([], [], ()), ())
abbrev tDiskResult_ : Ty := (.pair (.int .i64) (.pair tDisk_ .unit))
abbrev DiskResult_ : Type := Int × Disk_ × Unit
def zDiskResult_ : DiskResult_ := (0, ([], [], ()), ())
abbrev tIntResult_ : Ty := (.pair (.int .i64) (.pair (.int .i64) .unit))
abbrev IntResult_ : Type := Int × Int × Unit
def zIntResult_ : IntResult_ := (0, 0, ())
abbrev tPutsResult_ : Ty := (.pair (.int .i64) (.pair (.sl tPut_) .unit))
abbrev PutsResult_ : Type := Int × (List Put_) × Unit
def zPutsResult_ : PutsResult_ := (0, [], ())
abbrev tStepsResult_ : Ty := (.pair (.int .i64) (.pair (.sl tStep_) .unit))
abbrev StepsResult_ : Type := Int × (List Step_) × Unit
def zStepsResult_ : StepsResult_ := (0, [], ())
abbrev tTxResult_ : Ty := (.pair (.int .i64) (.pair .bool (.pair (.sl tPut_) .unit)))
abbrev TxResult_ : Type := Int × Bool × (List Put_) × Unit
def zTxResult_ : TxResult_ := (0, false, [], ())
abbrev tWorldResult_ : Ty := (.pair (.int .i64) (.pair tCallResult_ (.pair tWorld_ .unit)))
abbrev WorldResult_ : Type := Int × CallResult_ × World_ × Unit
def zWorldResult_ : WorldResult_ := (0, (0, 0, 0, [], [], ([], [], ()), ()), (([], [], ()), ([], [], ()), ([], [], ()), ()), ())
abbrev tBoundsError_ : Ty := (.pair (.int .i64) (.pair (.int .i64) (.pair .bool (.pair (.int .u8) .unit))))
abbrev BoundsError_ : Type := Int × Int × Bool × Int × Unit
def zBoundsError_ : BoundsError_ := (0, 0, false, 0, ())
abbrev tErrorAddressString_ : Ty := (.pair .str (.pair (.int .u64) .unit))
abbrev ErrorAddressString_ : Type := (List UInt8) × Int × Unit
def zErrorAddressString_ : ErrorAddressString_ := ([], 0, ())
abbrev PR : Program := Go.Proofs.Try.prog
def tb : Tb := [(2, ⟨.int .i64, (.int .i64), 8⟩), (3, ⟨.int .i64, (.int .i64), 8⟩), (4, ⟨.bool, .bool, 1⟩), (5, ⟨.int .u8, (.int .u8), 1⟩), (6, ⟨.int .u8, (.int .u8), 1⟩), (7, ⟨.st [0, 1, 2, 3], tBoundsError_, 24⟩), (8, ⟨.st [0, 1, 2, 3], tBoundsError_, 24⟩), (9, ⟨.str, .str, 16⟩), (10, ⟨.str, .str, 16⟩), (11, ⟨.str, .str, 16⟩), (12, ⟨.int .u64, (.int .u64), 8⟩), (13, ⟨.st [0, 1], tErrorAddressString_, 24⟩), (14, ⟨.st [0, 1], tErrorAddressString_, 24⟩), (21, ⟨.int .i32, (.int .i32), 4⟩), (22, ⟨.sl 5, (.sl (.int .u8)), 24⟩), (23, ⟨.st [0, 1, 2, 3, 4, 5], tCall_, 80⟩), (24, ⟨.st [0, 1, 2, 3, 4, 5], tCall_, 80⟩), (27, ⟨.st [0, 1, 2, 3, 4, 5], tCall_, 80⟩), (31, ⟨.sl 2, (.sl (.int .i64)), 24⟩), (32, ⟨.st [0, 1, 2], tStep_, 40⟩), (33, ⟨.st [0, 1, 2], tStep_, 40⟩), (36, ⟨.st [0, 1, 2], tStep_, 40⟩), (40, ⟨.sl 31, (.sl (.sl (.int .i64))), 24⟩), (41, ⟨.sl 141, (.sl tPut_), 24⟩), (42, ⟨.st [0, 1], tDisk_, 48⟩), (43, ⟨.st [0, 1], tDisk_, 48⟩), (44, ⟨.st [0, 1], tDiskResult_, 56⟩), (45, ⟨.st [0, 1], tDiskResult_, 56⟩), (50, ⟨.sl 33, (.sl tStep_), 24⟩), (52, ⟨.st [0, 1], tIntResult_, 16⟩), (53, ⟨.st [0, 1], tIntResult_, 16⟩), (55, ⟨.sl 36, (.sl tStep_), 24⟩), (60, ⟨.sl 139, (.sl tPut_), 24⟩), (61, ⟨.st [0, 1], tDisk_, 48⟩), (62, ⟨.st [0, 1], tDisk_, 48⟩), (69, ⟨.st [0, 1], tPutsResult_, 32⟩), (70, ⟨.st [0, 1], tPutsResult_, 32⟩), (79, ⟨.st [0, 1, 2], tTxResult_, 40⟩), (80, ⟨.st [0, 1, 2], tTxResult_, 40⟩), (84, ⟨.st [0, 1], tStepsResult_, 32⟩), (85, ⟨.st [0, 1], tStepsResult_, 32⟩), (92, ⟨.sl 9, (.sl .str), 24⟩), (93, ⟨.sl 125, (.sl tInode_), 24⟩), (94, ⟨.sl 22, (.sl (.sl (.int .u8))), 24⟩), (95, ⟨.st [0, 1], tFs_, 48⟩), (96, ⟨.st [0, 1], tFs_, 48⟩), (97, ⟨.st [0, 1, 2, 3, 4, 5], tCallResult_, 120⟩), (98, ⟨.st [0, 1, 2, 3, 4, 5], tCallResult_, 120⟩), (99, ⟨.st [0, 2, 4], tWorld_, 144⟩), (100, ⟨.st [0, 2, 4], tWorld_, 144⟩), (101, ⟨.st [0, 1, 8], tWorldResult_, 272⟩), (102, ⟨.st [0, 1, 8], tWorldResult_, 272⟩), (106, ⟨.sl 4, (.sl .bool), 24⟩), (123, ⟨.sl 167, (.sl tEntry_), 24⟩), (124, ⟨.st [0, 1, 2, 3, 4], tInode_, 72⟩), (125, ⟨.st [0, 1, 2, 3, 4], tInode_, 72⟩), (138, ⟨.st [0, 1], tPut_, 32⟩), (139, ⟨.st [0, 1], tPut_, 32⟩), (141, ⟨.st [0, 1], tPut_, 32⟩), (166, ⟨.st [0, 1], tEntry_, 24⟩), (167, ⟨.st [0, 1], tEntry_, 24⟩), (202, ⟨.int .u32, (.int .u32), 4⟩), (203, ⟨.int .u8, (.int .u8), 1⟩), (204, ⟨.int .u8, (.int .u8), 1⟩), (207, ⟨.int .i32, (.int .i32), 4⟩), (208, ⟨.int .i32, (.int .i32), 4⟩)]
theorem tbok : TbOk Go.Proofs.Try.prog tb := tbB_ok (by kernel_rfl)
theorem hmix : Go.Proofs.Try.prog.follows .mixedOrders = true := by kernel_rfl
def laws_szInt64S (a : List Int) (left : Int) : Option (Int) :=
  cond (decide ((w64 (left - (a.length : Int))) < 0)) (some (-1)) (some (w64 (left - (a.length : Int))))
namespace laws_szInt64S
def pts : List PT := [.cs SI, .cs I64]
def FS : FS := mkFS [.sh, .sh] pts (fun x => laws_szInt64S x.1 x.2.1) fun t => ⟨[.cs I64 t], []⟩
theorem ok : FsOk PR 79 FS :=
  fn_ok tbok hmix Proofs.Try.f79 h0 .no (G := (mkG [])) .nil (L := mkL []) (l := []) hT
    (fun x => by simp only [laws_szInt64S, mC, mB, mS, mO, mN]; kernel_rfl)
end laws_szInt64S
def laws_szInt64SS_l0.B (a : List (List Int)) (left_ : Int) (i_ : Int) : Option ((Int × Int) ⊕ (((Int) ⊕ (Int)))) :=
  cond (decide (i_ < (a.length : Int))) (cond (inB i_ a.length) ((laws_szInt64S (a.getD i_.toNat []) left_).bind fun r => cond (decide (r < 0)) (some (.inr (.inl (-1)))) (some (.inl (r, w64 (i_ + 1))))) (none)) (some (.inr (.inr left_)))
def laws_szInt64SS_l0 (a : List (List Int)) : (Int × Int) → Option (((Int) ⊕ (Int))) :=
  loopL fun s => laws_szInt64SS_l0.B a s.1 s.2
def laws_szInt64SS (a : List (List Int)) (left : Int) : Option (Int) :=
  cond (decide ((w64 (left - (a.length : Int))) < 0)) (some (-1)) ((laws_szInt64SS_l0 a (w64 (left - (a.length : Int)), 0)).bind fun o => sel o (fun b => some b) (fun c => some c))
namespace laws_szInt64SS
def G : Gam := mkG [(79, laws_szInt64S.FS)]
theorem Gok : GOk PR G := .cons laws_szInt64S.ok .nil
end laws_szInt64SS
namespace laws_szInt64SS_l0
def c := codeAt (bodyOf Proofs.Try.f96) [1, 1, 1, 0, 1, 0, 0]
def sp : SP := ⟨[(0, .cs (.sl SI)), (1, .cs I64), (5, .cs I64)], []⟩
def out (a : List (List Int)) : FOut (((Int) ⊕ (Int))) := fun o _ k => sel o (fun b => k (.rt) ⟨[(4, .cs I64 b)], []⟩) (fun c => k (.ex 0) ⟨[(1, .cs I64 c)], []⟩)
def fr := lfrag sp (fun x => laws_szInt64SS_l0 x.1.1 (x.1.2.1, x.1.2.2.1)) fun x => out x.1.1
theorem ok : CodeOk PR 27 2 (.loop c) fr :=
  lp_ok tbok hmix h0 .no (G := laws_szInt64SS.G) laws_szInt64SS.Gok (L := mkL []) (l := []) hT [0, 1, 5] [] [(0, ([1], []))] ([4], []) (fun x s => B x.1.1 s.1 s.2) (fun x s => ⟨[(0, .cs (.sl SI) x.1.1), (1, .cs I64 s.1), (5, .cs I64 s.2)], []⟩) (fun x => (x.1.2.1, x.1.2.2.1))
    (fun x s => by simp only [B, mC, mB, mS, mO, mN]; kernel_rfl)
end laws_szInt64SS_l0
namespace laws_szInt64SS
def pts : List PT := [.cs (.sl SI), .cs I64]
def FS : FS := mkFS [.sh, .sh] pts (fun x => laws_szInt64SS x.1 x.2.1) fun t => ⟨[.cs I64 t], []⟩
theorem ok : FsOk PR 96 FS :=
  fn_ok tbok hmix Proofs.Try.f96 h0 (.R (.R (.R (.L (.R (.one (.fr 0))))))) (G := G) Gok (L := mkL [(0, laws_szInt64SS_l0.fr)]) (l := [(0, .loop laws_szInt64SS_l0.c)]) ⟨Lam.cons laws_szInt64SS_l0.ok, trivial⟩
    (fun x => by simp only [laws_szInt64SS, mC, mB, mS, mO, mN]; kernel_rfl)
end laws_szInt64SS
def laws_szPut (a : Put_) (left : Int) : Option (Int) :=
  (laws_szInt64S a.2.1 left).bind fun r => cond (decide (r < 0)) (some (-1)) (some r)
namespace laws_szPut
def G : Gam := mkG [(79, laws_szInt64S.FS)]
def pts : List PT := [.cs tPut_, .cs I64]
def FS : FS := mkFS [.sh, .sh] pts (fun x => laws_szPut x.1 x.2.1) fun t => ⟨[.cs I64 t], []⟩
theorem ok : FsOk PR 102 FS :=
  fn_ok tbok hmix Proofs.Try.f102 ⟨[2], [], [], 0⟩ .no (G := G) (show GOk PR G from .cons laws_szInt64S.ok .nil) (L := mkL []) (l := []) hT
    (fun x => by simp only [laws_szPut, mC, mB, mS, mO, mN]; kernel_rfl)
end laws_szPut
def laws_szPutS_l0.B (a : List Put_) (left_ : Int) (i_ : Int) : Option ((Int × Int) ⊕ (((Int) ⊕ (Int)))) :=
  cond (decide (i_ < (a.length : Int))) (cond (inB i_ a.length) ((laws_szPut (a.getD i_.toNat zPut_) left_).bind fun r => cond (decide (r < 0)) (some (.inr (.inl (-1)))) (some (.inl (r, w64 (i_ + 1))))) (none)) (some (.inr (.inr left_)))
def laws_szPutS_l0 (a : List Put_) : (Int × Int) → Option (((Int) ⊕ (Int))) :=
  loopL fun s => laws_szPutS_l0.B a s.1 s.2
def laws_szPutS (a : List Put_) (left : Int) : Option (Int) :=
  cond (decide ((w64 (left - (a.length : Int))) < 0)) (some (-1)) ((laws_szPutS_l0 a (w64 (left - (a.length : Int)), 0)).bind fun o => sel o (fun b => some b) (fun c => some c))
namespace laws_szPutS
def G : Gam := mkG [(102, laws_szPut.FS)]
theorem Gok : GOk PR G := .cons laws_szPut.ok .nil
end laws_szPutS
namespace laws_szPutS_l0
def c := codeAt (bodyOf Proofs.Try.f40) [1, 1, 1, 0, 1, 0, 0]
def sp : SP := ⟨[(0, .cs (.sl tPut_)), (1, .cs I64), (5, .cs I64)], []⟩
def out (a : List Put_) : FOut (((Int) ⊕ (Int))) := fun o _ k => sel o (fun b => k (.rt) ⟨[(4, .cs I64 b)], []⟩) (fun c => k (.ex 0) ⟨[(1, .cs I64 c)], []⟩)
def fr := lfrag sp (fun x => laws_szPutS_l0 x.1.1 (x.1.2.1, x.1.2.2.1)) fun x => out x.1.1
theorem ok : CodeOk PR 27 2 (.loop c) fr :=
  lp_ok tbok hmix h0 .no (G := laws_szPutS.G) laws_szPutS.Gok (L := mkL []) (l := []) hT [0, 1, 5] [] [(0, ([1], []))] ([4], []) (fun x s => B x.1.1 s.1 s.2) (fun x s => ⟨[(0, .cs (.sl tPut_) x.1.1), (1, .cs I64 s.1), (5, .cs I64 s.2)], []⟩) (fun x => (x.1.2.1, x.1.2.2.1))
    (fun x s => by simp only [B, mC, mB, mS, mO, mN]; kernel_rfl)
end laws_szPutS_l0
namespace laws_szPutS
def pts : List PT := [.cs (.sl tPut_), .cs I64]
def FS : FS := mkFS [.sh, .sh] pts (fun x => laws_szPutS x.1 x.2.1) fun t => ⟨[.cs I64 t], []⟩
theorem ok : FsOk PR 40 FS :=
  fn_ok tbok hmix Proofs.Try.f40 h0 (.R (.R (.R (.L (.R (.one (.fr 0))))))) (G := G) Gok (L := mkL [(0, laws_szPutS_l0.fr)]) (l := [(0, .loop laws_szPutS_l0.c)]) ⟨Lam.cons laws_szPutS_l0.ok, trivial⟩
    (fun x => by simp only [laws_szPutS, mC, mB, mS, mO, mN]; kernel_rfl)
end laws_szPutS
def laws_szDisk (a : Disk_) (left : Int) : Option (Int) :=
  (laws_szInt64SS a.1 left).bind fun r => cond (decide (r < 0)) (some (-1)) ((laws_szPutS a.2.1 r).bind fun r2 => cond (decide (r2 < 0)) (some (-1)) (some r2))
namespace laws_szDisk
def G : Gam := mkG [(96, laws_szInt64SS.FS), (40, laws_szPutS.FS)]
def pts : List PT := [.cs tDisk_, .cs I64]
def FS : FS := mkFS [.sh, .sh] pts (fun x => laws_szDisk x.1 x.2.1) fun t => ⟨[.cs I64 t], []⟩
theorem ok : FsOk PR 35 FS :=
  fn_ok tbok hmix Proofs.Try.f35 ⟨[2], [], [], 0⟩ .no (G := G) (show GOk PR G from .cons laws_szInt64SS.ok (.cons laws_szPutS.ok .nil)) (L := mkL []) (l := []) hT
    (fun x => by simp only [laws_szDisk, mC, mB, mS, mO, mN]; kernel_rfl)
end laws_szDisk
def laws_toInt64S_l0.B (a : List Int) (i_ : Int) (out_ : List Int) : Option ((Int × List Int) ⊕ (List Int)) :=
  cond (decide (i_ < (a.length : Int))) (cond (inB i_ a.length) (cond (inB i_ out_.length) (some (.inl (w64 (i_ + 1), out_.set i_.toNat (a.getD i_.toNat 0)))) (none)) (none)) (some (.inr out_))
def laws_toInt64S_l0 (a : List Int) : (Int × List Int) → Option (List Int) :=
  loopL fun s => laws_toInt64S_l0.B a s.1 s.2
def laws_toInt64S (a : List Int) : Option (List Int) :=
  cond (decide ((0 : Int) ≤ (a.length : Int)) && (decide ((a.length : Int) ≤ (a.length : Int)) && decide ((a.length : Int) ≤ 2147483648))) ((laws_toInt64S_l0 a (0, List.replicate (a.length : Int).toNat 0)).bind fun o => some o) (none)
namespace laws_toInt64S_l0
def c := codeAt (bodyOf Proofs.Try.f81) [1, 1, 0, 1, 0, 0]
def sp : SP := ⟨[(0, .cs SI), (3, .seg 3 []), (4, .cs I64)], [(3, .reg, .cd SI)]⟩
def out (a : List Int) : FOut (List Int) := fun b _ k => k (.ex 0) ⟨[(3, .seg 3 [])], [sr 3 (.cd SI b)]⟩
def fr := lfrag sp (fun x => laws_toInt64S_l0 x.1.1 (x.1.2.2.1, x.2.1)) fun x => out x.1.1
theorem ok : CodeOk PR 22 1 (.loop c) fr :=
  lp_ok tbok hmix h0 .no (G := (mkG [])) .nil (L := mkL []) (l := []) hT [0, 3, 4] [3] [(0, ([3], [3]))] ([], []) (fun x s => B x.1.1 s.1 s.2) (fun x s => ⟨[(0, .cs SI x.1.1), (3, .seg 3 []), (4, .cs I64 s.1)], [sr 3 (.cd SI s.2)]⟩) (fun x => (x.1.2.2.1, x.2.1))
    (fun x s => by simp only [B, mC, mB, mS, mO, mN]; kernel_rfl)
end laws_toInt64S_l0
namespace laws_toInt64S
def pts : List PT := [.cs SI]
def FS : FS := mkFS [.sh] pts (fun x => laws_toInt64S x.1) fun t => ⟨[.cd SI t], []⟩
theorem ok : FsOk PR 81 FS :=
  fn_ok tbok hmix Proofs.Try.f81 h0 (.R (.R (.L (.R (.one (.fr 0)))))) (G := (mkG [])) .nil (L := mkL [(0, laws_toInt64S_l0.fr)]) (l := [(0, .loop laws_toInt64S_l0.c)]) ⟨Lam.cons laws_toInt64S_l0.ok, trivial⟩
    (fun x => by simp only [laws_toInt64S, mC, mB, mS, mO, mN]; kernel_rfl)
end laws_toInt64S
def laws_toInt64SS_l0.B (a : List (List Int)) (i_ : Int) (out_ : List (List Int)) : Option ((Int × List (List Int)) ⊕ (List (List Int))) :=
  cond (decide (i_ < (a.length : Int))) (cond (inB i_ a.length) ((laws_toInt64S (a.getD i_.toNat [])).bind fun r => cond (inB i_ out_.length) (some (.inl (w64 (i_ + 1), out_.set i_.toNat r))) (none)) (none)) (some (.inr out_))
def laws_toInt64SS_l0 (a : List (List Int)) : (Int × List (List Int)) → Option (List (List Int)) :=
  loopL fun s => laws_toInt64SS_l0.B a s.1 s.2
def laws_toInt64SS (a : List (List Int)) : Option (List (List Int)) :=
  cond (decide ((0 : Int) ≤ (a.length : Int)) && (decide ((a.length : Int) ≤ (a.length : Int)) && decide ((a.length : Int) ≤ 2147483648))) ((some (List.replicate (a.length : Int).toNat ([] : List Int))).bind fun v => (laws_toInt64SS_l0 a (0, v)).bind fun o => some o) (none)
namespace laws_toInt64SS
def G : Gam := mkG [(81, laws_toInt64S.FS)]
theorem Gok : GOk PR G := .cons laws_toInt64S.ok .nil
end laws_toInt64SS
namespace laws_toInt64SS_l0
def c := codeAt (bodyOf Proofs.Try.f99) [1, 1, 0, 1, 0, 0]
def sp : SP := ⟨[(0, .cs (.sl SI)), (3, .seg 3 []), (4, .cs I64)], [(3, .reg, .cd (.sl SI))]⟩
def out (a : List (List Int)) : FOut (List (List Int)) := fun b _ k => k (.ex 0) ⟨[(3, .seg 3 [])], [sr 3 (.cd (.sl SI) b)]⟩
def fr := lfrag sp (fun x => laws_toInt64SS_l0 x.1.1 (x.1.2.2.1, x.2.1)) fun x => out x.1.1
theorem ok : CodeOk PR 23 1 (.loop c) fr :=
  lp_ok tbok hmix h0 .no (G := laws_toInt64SS.G) laws_toInt64SS.Gok (L := mkL []) (l := []) hT [0, 3, 4] [3] [(0, ([3], [3]))] ([], []) (fun x s => B x.1.1 s.1 s.2) (fun x s => ⟨[(0, .cs (.sl SI) x.1.1), (3, .seg 3 []), (4, .cs I64 s.1)], [sr 3 (.cd (.sl SI) s.2)]⟩) (fun x => (x.1.2.2.1, x.2.1))
    (fun x s => by simp only [B, mC, mB, mS, mO, mN]; kernel_rfl)
end laws_toInt64SS_l0
namespace laws_toInt64SS
def pts : List PT := [.cs (.sl SI)]
def FS : FS := mkFS [.sh] pts (fun x => laws_toInt64SS x.1) fun t => ⟨[.cd (.sl SI) t], []⟩
theorem ok : FsOk PR 99 FS :=
  fn_ok tbok hmix Proofs.Try.f99 h0 (.R (.R (.L (.R (.one (.fr 0)))))) (G := G) Gok (L := mkL [(0, laws_toInt64SS_l0.fr)]) (l := [(0, .loop laws_toInt64SS_l0.c)]) ⟨Lam.cons laws_toInt64SS_l0.ok, trivial⟩
    (fun x => by simp only [laws_toInt64SS, mC, mB, mS, mO, mN]; kernel_rfl)
end laws_toInt64SS
def laws_toPut (a : Put_) : Option (Put_) :=
  (laws_toInt64S a.2.1).bind fun r => some (a.1, r, ())
namespace laws_toPut
def G : Gam := mkG [(81, laws_toInt64S.FS)]
def pts : List PT := [.cs tPut_]
def FS : FS := mkFS [.sh] pts (fun x => laws_toPut x.1) fun t => ⟨[.cd tPut_ t], []⟩
theorem ok : FsOk PR 105 FS :=
  fn_ok tbok hmix Proofs.Try.f105 ⟨[1], [], [], 0⟩ .no (G := G) (show GOk PR G from .cons laws_toInt64S.ok .nil) (L := mkL []) (l := []) hT
    (fun x => by simp only [laws_toPut, mC, mB, mS, mO, mN]; kernel_rfl)
end laws_toPut
def laws_toPutS_l0.B (a : List Put_) (i_ : Int) (out_ : List Put_) : Option ((Int × List Put_) ⊕ (List Put_)) :=
  cond (decide (i_ < (a.length : Int))) (cond (inB i_ a.length) ((laws_toPut (a.getD i_.toNat zPut_)).bind fun r => cond (inB i_ out_.length) (some (.inl (w64 (i_ + 1), out_.set i_.toNat (r.1, r.2.1, r.2.2)))) (none)) (none)) (some (.inr out_))
def laws_toPutS_l0 (a : List Put_) : (Int × List Put_) → Option (List Put_) :=
  loopL fun s => laws_toPutS_l0.B a s.1 s.2
def laws_toPutS (a : List Put_) : Option (List Put_) :=
  cond (decide ((0 : Int) ≤ (a.length : Int)) && (decide ((a.length : Int) ≤ (a.length : Int)) && decide ((a.length : Int) ≤ 2147483648))) ((laws_toPutS_l0 a (0, List.replicate (a.length : Int).toNat zPut_)).bind fun o => some o) (none)
namespace laws_toPutS
def G : Gam := mkG [(105, laws_toPut.FS)]
theorem Gok : GOk PR G := .cons laws_toPut.ok .nil
end laws_toPutS
namespace laws_toPutS_l0
def c := codeAt (bodyOf Proofs.Try.f42) [1, 1, 0, 1, 0, 0]
def sp : SP := ⟨[(0, .cs (.sl tPut_)), (3, .seg 3 []), (4, .cs I64)], [(3, .reg, .cd (.sl tPut_))]⟩
def out (a : List Put_) : FOut (List Put_) := fun b _ k => k (.ex 0) ⟨[(3, .seg 3 [])], [sr 3 (.cd (.sl tPut_) b)]⟩
def fr := lfrag sp (fun x => laws_toPutS_l0 x.1.1 (x.1.2.2.1, x.2.1)) fun x => out x.1.1
theorem ok : CodeOk PR 23 1 (.loop c) fr :=
  lp_ok tbok hmix h0 .no (G := laws_toPutS.G) laws_toPutS.Gok (L := mkL []) (l := []) hT [0, 3, 4] [3] [(0, ([3], [3]))] ([], []) (fun x s => B x.1.1 s.1 s.2) (fun x s => ⟨[(0, .cs (.sl tPut_) x.1.1), (3, .seg 3 []), (4, .cs I64 s.1)], [sr 3 (.cd (.sl tPut_) s.2)]⟩) (fun x => (x.1.2.2.1, x.2.1))
    (fun x s => by simp only [B, mC, mB, mS, mO, mN]; kernel_rfl)
end laws_toPutS_l0
namespace laws_toPutS
def pts : List PT := [.cs (.sl tPut_)]
def FS : FS := mkFS [.sh] pts (fun x => laws_toPutS x.1) fun t => ⟨[.cd (.sl tPut_) t], []⟩
theorem ok : FsOk PR 42 FS :=
  fn_ok tbok hmix Proofs.Try.f42 h0 (.R (.R (.L (.R (.one (.fr 0)))))) (G := G) Gok (L := mkL [(0, laws_toPutS_l0.fr)]) (l := [(0, .loop laws_toPutS_l0.c)]) ⟨Lam.cons laws_toPutS_l0.ok, trivial⟩
    (fun x => by simp only [laws_toPutS, mC, mB, mS, mO, mN]; kernel_rfl)
end laws_toPutS
def laws_toDisk (a : Disk_) : Option (Disk_) :=
  (laws_toInt64SS a.1).bind fun r => (laws_toPutS a.2.1).bind fun r2 => some (r, r2, ())
namespace laws_toDisk
def G : Gam := mkG [(99, laws_toInt64SS.FS), (42, laws_toPutS.FS)]
def pts : List PT := [.cs tDisk_]
def FS : FS := mkFS [.sh] pts (fun x => laws_toDisk x.1) fun t => ⟨[.cd tDisk_ t], []⟩
theorem ok : FsOk PR 37 FS :=
  fn_ok tbok hmix Proofs.Try.f37 ⟨[1], [], [], 0⟩ .no (G := G) (show GOk PR G from .cons laws_toInt64SS.ok (.cons laws_toPutS.ok .nil)) (L := mkL []) (l := []) hT
    (fun x => by simp only [laws_toDisk, mC, mB, mS, mO, mN]; kernel_rfl)
end laws_toDisk
def laws_toBoolS_l0.B (a : List Bool) (i_ : Int) (out_ : List Bool) : Option ((Int × List Bool) ⊕ (List Bool)) :=
  cond (decide (i_ < (a.length : Int))) (cond (inB i_ a.length) (cond (inB i_ out_.length) (some (.inl (w64 (i_ + 1), out_.set i_.toNat (a.getD i_.toNat false)))) (none)) (none)) (some (.inr out_))
def laws_toBoolS_l0 (a : List Bool) : (Int × List Bool) → Option (List Bool) :=
  loopL fun s => laws_toBoolS_l0.B a s.1 s.2
def laws_toBoolS (a : List Bool) : Option (List Bool) :=
  cond (decide ((0 : Int) ≤ (a.length : Int)) && (decide ((a.length : Int) ≤ (a.length : Int)) && decide ((a.length : Int) ≤ 2147483648))) ((laws_toBoolS_l0 a (0, List.replicate (a.length : Int).toNat false)).bind fun o => some o) (none)
namespace laws_toBoolS_l0
def c := codeAt (bodyOf Proofs.Try.f69) [1, 1, 0, 1, 0, 0]
def sp : SP := ⟨[(0, .cs (.sl .bool)), (3, .seg 3 []), (4, .cs I64)], [(3, .reg, .cd (.sl .bool))]⟩
def out (a : List Bool) : FOut (List Bool) := fun b _ k => k (.ex 0) ⟨[(3, .seg 3 [])], [sr 3 (.cd (.sl .bool) b)]⟩
def fr := lfrag sp (fun x => laws_toBoolS_l0 x.1.1 (x.1.2.2.1, x.2.1)) fun x => out x.1.1
theorem ok : CodeOk PR 22 1 (.loop c) fr :=
  lp_ok tbok hmix h0 .no (G := (mkG [])) .nil (L := mkL []) (l := []) hT [0, 3, 4] [3] [(0, ([3], [3]))] ([], []) (fun x s => B x.1.1 s.1 s.2) (fun x s => ⟨[(0, .cs (.sl .bool) x.1.1), (3, .seg 3 []), (4, .cs I64 s.1)], [sr 3 (.cd (.sl .bool) s.2)]⟩) (fun x => (x.1.2.2.1, x.2.1))
    (fun x s => by simp only [B, mC, mB, mS, mO, mN]; kernel_rfl)
end laws_toBoolS_l0
namespace laws_toBoolS
def pts : List PT := [.cs (.sl .bool)]
def FS : FS := mkFS [.sh] pts (fun x => laws_toBoolS x.1) fun t => ⟨[.cd (.sl .bool) t], []⟩
theorem ok : FsOk PR 69 FS :=
  fn_ok tbok hmix Proofs.Try.f69 h0 (.R (.R (.L (.R (.one (.fr 0)))))) (G := (mkG [])) .nil (L := mkL [(0, laws_toBoolS_l0.fr)]) (l := [(0, .loop laws_toBoolS_l0.c)]) ⟨Lam.cons laws_toBoolS_l0.ok, trivial⟩
    (fun x => by simp only [laws_toBoolS, mC, mB, mS, mO, mN]; kernel_rfl)
end laws_toBoolS
def spec_l1In (v : Int) (low : Int) (high : Int) : Option (Bool) :=
  (some (cond (decide (v ≥ low)) (decide (v ≤ high)) false)).bind fun v2 => some v2
namespace spec_l1In
def pts : List PT := [.cs I64, .cs I64, .cs I64]
def FS : FS := mkFS [.sh, .sh, .sh] pts (fun x => spec_l1In x.1 x.2.1 x.2.2.1) fun t => ⟨[.cs .bool t], []⟩
theorem ok : FsOk PR 74 FS :=
  fn_ok tbok hmix Proofs.Try.f74 h0 .no (G := (mkG [])) .nil (L := mkL []) (l := []) hT
    (fun x => by simp only [spec_l1In, mC, mB, mS, mO, mN]; kernel_rfl)
end spec_l1In
def spec_l1Words_l0.B (w : List Int) (i_ : Int) : Option ((Int) ⊕ (((Int) ⊕ (Unit)))) :=
  cond (decide (i_ < (w.length : Int))) (cond (inB i_ w.length) ((spec_l1In (w.getD i_.toNat 0) 0 65535).bind fun r => cond (!r) (some (.inr (.inl 3))) (some (.inl (w64 (i_ + 1))))) (none)) (some (.inr (.inr ())))
def spec_l1Words_l0 (w : List Int) : (Int) → Option (((Int) ⊕ (Unit))) :=
  loopL fun s => spec_l1Words_l0.B w s
def spec_l1Words (w : List Int) : Option (Int) :=
  cond (decide ((w.length : Int) > 64)) (some 2) ((spec_l1Words_l0 w 0).bind fun o => sel o (fun b => some b) (fun c => some 0))
namespace spec_l1Words
def G : Gam := mkG [(74, spec_l1In.FS)]
theorem Gok : GOk PR G := .cons spec_l1In.ok .nil
end spec_l1Words
namespace spec_l1Words_l0
def c := codeAt (bodyOf Proofs.Try.f80) [1, 1, 0, 1, 0, 0]
def sp : SP := ⟨[(0, .cs SI), (3, .cs I64)], []⟩
def out (w : List Int) : FOut (((Int) ⊕ (Unit))) := fun o _ k => sel o (fun b => k (.rt) ⟨[(2, .cs I64 b)], []⟩) (fun c => k (.ex 0) ⟨[], []⟩)
def fr := lfrag sp (fun x => spec_l1Words_l0 x.1.1 x.1.2.1) fun x => out x.1.1
theorem ok : CodeOk PR 19 1 (.loop c) fr :=
  lp_ok tbok hmix h0 .no (G := spec_l1Words.G) spec_l1Words.Gok (L := mkL []) (l := []) hT [0, 3] [] [(0, ([], []))] ([2], []) (fun x s => B x.1.1 s) (fun x s => ⟨[(0, .cs SI x.1.1), (3, .cs I64 s)], []⟩) (fun x => x.1.2.1)
    (fun x s => by simp only [B, mC, mB, mS, mO, mN]; kernel_rfl)
end spec_l1Words_l0
namespace spec_l1Words
def pts : List PT := [.cs SI]
def FS : FS := mkFS [.sh] pts (fun x => spec_l1Words x.1) fun t => ⟨[.cs I64 t], []⟩
theorem ok : FsOk PR 80 FS :=
  fn_ok tbok hmix Proofs.Try.f80 h0 (.R (.R (.L (.R (.one (.fr 0)))))) (G := G) Gok (L := mkL [(0, spec_l1Words_l0.fr)]) (l := [(0, .loop spec_l1Words_l0.c)]) ⟨Lam.cons spec_l1Words_l0.ok, trivial⟩
    (fun x => by simp only [spec_l1Words, mC, mB, mS, mO, mN]; kernel_rfl)
end spec_l1Words
def spec_l1Fault_l0.B (d : Disk_) (i_ : Int) : Option ((Int) ⊕ (((Int) ⊕ (Unit)))) :=
  cond (decide (i_ < (d.1.length : Int))) (cond (inB i_ d.1.length) ((spec_l1Words (d.1.getD i_.toNat [])).bind fun r => cond (r != 0) (some (.inr (.inl r))) (some (.inl (w64 (i_ + 1))))) (none)) (some (.inr (.inr ())))
def spec_l1Fault_l0 (d : Disk_) : (Int) → Option (((Int) ⊕ (Unit))) :=
  loopL fun s => spec_l1Fault_l0.B d s
def spec_l1Fault_l1.B (d : Disk_) (i_2 : Int) : Option ((Int) ⊕ (((Int) ⊕ (Unit)))) :=
  cond (decide (i_2 < (d.2.1.length : Int))) (cond (inB i_2 d.2.1.length) ((spec_l1In ((d.2.1.getD i_2.toNat zPut_).1) 0 (w64 ((d.1.length : Int) - 1))).bind fun r2 => cond (!r2) (some (.inr (.inl 3))) (cond (inB i_2 d.2.1.length) ((spec_l1Words (((d.2.1.getD i_2.toNat zPut_).2).1)).bind fun r3 => cond (r3 != 0) (some (.inr (.inl r3))) (some (.inl (w64 (i_2 + 1))))) (none))) (none)) (some (.inr (.inr ())))
def spec_l1Fault_l1 (d : Disk_) : (Int) → Option (((Int) ⊕ (Unit))) :=
  loopL fun s => spec_l1Fault_l1.B d s
def spec_l1Fault (d : Disk_) : Option (Int) :=
  (some (cond (decide ((d.1.length : Int) > 60)) true (decide ((d.2.1.length : Int) > 200)))).bind fun v => cond v (some 2) ((spec_l1Fault_l0 d 0).bind fun o => sel o (fun b => some b) (fun c => (spec_l1Fault_l1 d 0).bind fun o2 => sel o2 (fun b2 => some b2) (fun c2 => some 0)))
namespace spec_l1Fault
def G : Gam := mkG [(80, spec_l1Words.FS), (74, spec_l1In.FS)]
theorem Gok : GOk PR G := .cons spec_l1Words.ok (.cons spec_l1In.ok .nil)
end spec_l1Fault
namespace spec_l1Fault_l0
def c := codeAt (bodyOf Proofs.Try.f97) [1, 1, 0, 1, 0, 0]
def sp : SP := ⟨[(0, .pt tDisk_), (3, .cs I64)], []⟩
def out (d : Disk_) : FOut (((Int) ⊕ (Unit))) := fun o _ k => sel o (fun b => k (.rt) ⟨[(2, .cs I64 b)], []⟩) (fun c => k (.ex 0) ⟨[(0, .pt tDisk_ d)], []⟩)
def fr := lfrag sp (fun x => spec_l1Fault_l0 x.1.1 x.1.2.1) fun x => out x.1.1
theorem ok : CodeOk PR 78 1 (.loop c) fr :=
  lp_ok tbok hmix h0 .no (G := spec_l1Fault.G) spec_l1Fault.Gok (L := mkL []) (l := []) hT [0, 3] [] [(0, ([0], []))] ([2], []) (fun x s => B x.1.1 s) (fun x s => ⟨[(0, .pt tDisk_ x.1.1), (3, .cs I64 s)], []⟩) (fun x => x.1.2.1)
    (fun x s => by simp only [B, mC, mB, mS, mO, mN]; kernel_rfl)
end spec_l1Fault_l0
namespace spec_l1Fault_l1
def c := codeAt (bodyOf Proofs.Try.f97) [1, 1, 1, 0, 1, 0, 0]
def sp : SP := ⟨[(0, .pt tDisk_), (5, .cs I64)], []⟩
def out (d : Disk_) : FOut (((Int) ⊕ (Unit))) := fun o _ k => sel o (fun b => k (.rt) ⟨[(2, .cs I64 b)], []⟩) (fun c => k (.ex 2) ⟨[], []⟩)
def fr := lfrag sp (fun x => spec_l1Fault_l1 x.1.1 x.1.2.1) fun x => out x.1.1
theorem ok : CodeOk PR 78 1 (.loop c) fr :=
  lp_ok tbok hmix h0 .no (G := spec_l1Fault.G) spec_l1Fault.Gok (L := mkL []) (l := []) hT [0, 5] [] [(2, ([], []))] ([2], []) (fun x s => B x.1.1 s) (fun x s => ⟨[(0, .pt tDisk_ x.1.1), (5, .cs I64 s)], []⟩) (fun x => x.1.2.1)
    (fun x s => by simp only [B, mC, mB, mS, mO, mN]; kernel_rfl)
end spec_l1Fault_l1
namespace spec_l1Fault
def pts : List PT := [.pt tDisk_]
def FS : FS := mkFS [.sh] pts (fun x => spec_l1Fault x.1) fun t => ⟨[.cs I64 t], []⟩
theorem ok : FsOk PR 97 FS :=
  fn_ok tbok hmix Proofs.Try.f97 h0 (.R (.R (.two (.R (.one (.fr 0))) (.L (.R (.one (.fr 1))))))) (G := G) Gok (L := mkL [(0, spec_l1Fault_l0.fr), (1, spec_l1Fault_l1.fr)]) (l := [(0, .loop spec_l1Fault_l0.c), (1, .loop spec_l1Fault_l1.c)]) ⟨Lam.cons spec_l1Fault_l0.ok, Lam.skip rfl (Lam.cons spec_l1Fault_l1.ok), trivial⟩
    (fun x => by simp only [spec_l1Fault, mC, mB, mS, mO, mN]; kernel_rfl)
end spec_l1Fault
def spec_l1At_l0.B (d : Disk_) (at_ : Int) (i_ : Int) : Option ((Int) ⊕ (((List Int) ⊕ (Unit)))) :=
  cond (decide (i_ ≥ 0)) (cond (inB i_ d.2.1.length) (cond (((d.2.1.getD i_.toNat zPut_).1) == at_) (cond (inB i_ d.2.1.length) (some (.inr (.inl (((d.2.1.getD i_.toNat zPut_).2).1)))) (none)) (some (.inl (w64 (i_ - 1))))) (none)) (some (.inr (.inr ())))
def spec_l1At_l0 (d : Disk_) (at_ : Int) : (Int) → Option (((List Int) ⊕ (Unit))) :=
  loopL fun s => spec_l1At_l0.B d at_ s
def spec_l1At (d : Disk_) (at_ : Int) : Option (List Int) :=
  (spec_l1At_l0 d at_ (w64 ((d.2.1.length : Int) - 1))).bind fun o => sel o (fun b => some b) (fun c => cond (inB at_ d.1.length) (some (d.1.getD at_.toNat [])) (none))
namespace spec_l1At_l0
def c := codeAt (bodyOf Proofs.Try.f98) [1, 0, 1, 0, 0]
def sp : SP := ⟨[(0, .pt tDisk_), (1, .cs I64), (5, .cs I64)], []⟩
def out (d : Disk_) (at_ : Int) : FOut (((List Int) ⊕ (Unit))) := fun o _ k => sel o (fun b => k (.rt) ⟨[(4, .cs SI b)], []⟩) (fun c => k (.ex 0) ⟨[(0, .pt tDisk_ d), (1, .cs I64 at_)], []⟩)
def fr := lfrag sp (fun x => spec_l1At_l0 x.1.1 x.1.2.1 x.1.2.2.1) fun x => out x.1.1 x.1.2.1
theorem ok : CodeOk PR 41 2 (.loop c) fr :=
  lp_ok tbok hmix h0 .no (G := (mkG [])) .nil (L := mkL []) (l := []) hT [0, 1, 5] [] [(0, ([0, 1], []))] ([4], []) (fun x s => B x.1.1 x.1.2.1 s) (fun x s => ⟨[(0, .pt tDisk_ x.1.1), (1, .cs I64 x.1.2.1), (5, .cs I64 s)], []⟩) (fun x => x.1.2.2.1)
    (fun x s => by simp only [B, mC, mB, mS, mO, mN]; kernel_rfl)
end spec_l1At_l0
namespace spec_l1At
def pts : List PT := [.pt tDisk_, .cs I64]
def FS : FS := mkFS [.sh, .sh] pts (fun x => spec_l1At x.1 x.2.1) fun t => ⟨[.cs SI t], []⟩
theorem ok : FsOk PR 98 FS :=
  fn_ok tbok hmix Proofs.Try.f98 h0 (.R (.L (.R (.one (.fr 0))))) (G := (mkG [])) .nil (L := mkL [(0, spec_l1At_l0.fr)]) (l := [(0, .loop spec_l1At_l0.c)]) ⟨Lam.cons spec_l1At_l0.ok, trivial⟩
    (fun x => by simp only [spec_l1At, mC, mB, mS, mO, mN]; kernel_rfl)
end spec_l1At
def spec_l12Seq (n : Int) : Option (Bool) :=
  (spec_l1In n 1 60000).bind fun r => some r
namespace spec_l12Seq
def G : Gam := mkG [(74, spec_l1In.FS)]
def pts : List PT := [.cs I64]
def FS : FS := mkFS [.sh] pts (fun x => spec_l12Seq x.1) fun t => ⟨[.cs .bool t], []⟩
theorem ok : FsOk PR 84 FS :=
  fn_ok tbok hmix Proofs.Try.f84 h0 .no (G := G) (show GOk PR G from .cons spec_l1In.ok .nil) (L := mkL []) (l := []) hT
    (fun x => by simp only [spec_l12Seq, mC, mB, mS, mO, mN]; kernel_rfl)
end spec_l12Seq
def spec_SeqOf (d : Disk_) : Option (IntResult_) :=
  (spec_l1Fault d).bind fun r => cond (r != 0) (some (r, 0, ())) (cond ((d.1.length : Int) != 47) (some (1, 0, ())) ((spec_l1At d 0).bind fun r2 => cond (cond (!((r2.length : Int) != 2)) (inB 0 r2.length) true) ((some (cond ((r2.length : Int) != 2) true ((r2.getD (0 : Int).toNat 0) != 7))).bind fun v => cond v (some (5, 0, ())) (cond (inB 1 r2.length) ((spec_l12Seq (r2.getD (1 : Int).toNat 0)).bind fun r3 => cond (!r3) (some (5, 0, ())) (cond (inB 1 r2.length) (some (0, r2.getD (1 : Int).toNat 0, ())) (none))) (none))) (none)))
namespace spec_SeqOf
def G : Gam := mkG [(97, spec_l1Fault.FS), (98, spec_l1At.FS), (84, spec_l12Seq.FS)]
def pts : List PT := [.cs tDisk_]
def FS : FS := mkFS [.sh] pts (fun x => spec_SeqOf x.1) fun t => ⟨[.cs tIntResult_ t], []⟩
theorem ok : FsOk PR 36 FS :=
  fn_ok tbok hmix Proofs.Try.f36 ⟨[1], [], [], 0⟩ .no (G := G) (show GOk PR G from .cons spec_l1Fault.ok (.cons spec_l1At.ok (.cons spec_l12Seq.ok .nil))) (L := mkL []) (l := []) hT
    (fun x => by simp only [spec_SeqOf, mC, mB, mS, mO, mN]; kernel_rfl)
end spec_SeqOf
def spec_l4Ints_l0.B (a : List Int) (b : List Int) (i_ : Int) : Option ((Int) ⊕ (((Bool) ⊕ (Unit)))) :=
  cond (decide (i_ < (a.length : Int))) (cond (inB i_ a.length) (cond (inB i_ b.length) (cond ((a.getD i_.toNat 0) != (b.getD i_.toNat 0)) (some (.inr (.inl false))) (some (.inl (w64 (i_ + 1))))) (none)) (none)) (some (.inr (.inr ())))
def spec_l4Ints_l0 (a : List Int) (b : List Int) : (Int) → Option (((Bool) ⊕ (Unit))) :=
  loopL fun s => spec_l4Ints_l0.B a b s
def spec_l4Ints (a : List Int) (b : List Int) : Option (Bool) :=
  cond ((a.length : Int) != (b.length : Int)) (some false) ((spec_l4Ints_l0 a b 0).bind fun o => sel o (fun b2 => some b2) (fun c => some true))
namespace spec_l4Ints_l0
def c := codeAt (bodyOf Proofs.Try.f141) [1, 1, 0, 1, 0, 0]
def sp : SP := ⟨[(0, .cs SI), (1, .cs SI), (5, .cs I64)], []⟩
def out (a : List Int) (b : List Int) : FOut (((Bool) ⊕ (Unit))) := fun o _ k => sel o (fun b => k (.rt) ⟨[(4, .cs .bool b)], []⟩) (fun c => k (.ex 0) ⟨[], []⟩)
def fr := lfrag sp (fun x => spec_l4Ints_l0 x.1.1 x.1.2.1 x.1.2.2.1) fun x => out x.1.1 x.1.2.1
theorem ok : CodeOk PR 26 2 (.loop c) fr :=
  lp_ok tbok hmix h0 .no (G := (mkG [])) .nil (L := mkL []) (l := []) hT [0, 1, 5] [] [(0, ([], []))] ([4], []) (fun x s => B x.1.1 x.1.2.1 s) (fun x s => ⟨[(0, .cs SI x.1.1), (1, .cs SI x.1.2.1), (5, .cs I64 s)], []⟩) (fun x => x.1.2.2.1)
    (fun x s => by simp only [B, mC, mB, mS, mO, mN]; kernel_rfl)
end spec_l4Ints_l0
namespace spec_l4Ints
def pts : List PT := [.cs SI, .cs SI]
def FS : FS := mkFS [.sh, .sh] pts (fun x => spec_l4Ints x.1 x.2.1) fun t => ⟨[.cs .bool t], []⟩
theorem ok : FsOk PR 141 FS :=
  fn_ok tbok hmix Proofs.Try.f141 h0 (.R (.R (.L (.R (.one (.fr 0)))))) (G := (mkG [])) .nil (L := mkL [(0, spec_l4Ints_l0.fr)]) (l := [(0, .loop spec_l4Ints_l0.c)]) ⟨Lam.cons spec_l4Ints_l0.ok, trivial⟩
    (fun x => by simp only [spec_l4Ints, mC, mB, mS, mO, mN]; kernel_rfl)
end spec_l4Ints
def spec_l1Ints (w : List Int) : Option (List Int) :=
  cond (decide (([] ++ w).length ≤ 2147483648)) (some ([] ++ w)) (none)
namespace spec_l1Ints
def pts : List PT := [.cs SI]
def FS : FS := mkFS [.sh] pts (fun x => spec_l1Ints x.1) fun t => ⟨[.cd SI t], []⟩
theorem ok : FsOk PR 142 FS :=
  fn_ok tbok hmix Proofs.Try.f142 h0 .no (G := (mkG [])) .nil (L := mkL []) (l := []) hT
    (fun x => by simp only [spec_l1Ints, mC, mB, mS, mO, mN]; kernel_rfl)
end spec_l1Ints
def spec_l13Found_l0.B (d : Disk_) (r : List Int) (n_ : Int) (i_ : Int) (out_ : List Put_) : Option ((Int × List Put_) ⊕ (((Bool × List Put_) ⊕ (List Put_)))) :=
  cond (decide (i_ < n_)) (cond (inB (w64 ((3 : Int) + i_)) r.length) ((spec_l1In (r.getD (w64 ((3 : Int) + i_)).toNat 0) 17 26).bind fun r4 => cond (!r4) (some (.inr (.inl (false, [])))) (cond (inB (w64 ((3 : Int) + i_)) r.length) ((spec_l1At d (w64 ((2 : Int) + i_))).bind fun r5 => (spec_l1Ints r5).bind fun r6 => (some (out_ ++ ([(r.getD (w64 ((3 : Int) + i_)).toNat 0, r6, ())]))).bind fun v3 => cond (decide (v3.length ≤ 2147483648)) (some (.inl (w64 (i_ + 1), v3))) (none)) (none))) (none)) (some (.inr (.inr out_)))
def spec_l13Found_l0 (d : Disk_) (r : List Int) (n_ : Int) : (Int × List Put_) → Option (((Bool × List Put_) ⊕ (List Put_))) :=
  loopL fun s => spec_l13Found_l0.B d r n_ s.1 s.2
def spec_l13Found_l1.B (d : Disk_) (r : List Int) (n_2 : Int) (i_2 : Int) (out_2 : List Put_) : Option ((Int × List Put_) ⊕ (((Bool × List Put_) ⊕ (List Put_)))) :=
  cond (decide (i_2 < n_2)) (cond (inB (w64 ((3 : Int) + i_2)) r.length) ((spec_l1In (r.getD (w64 ((3 : Int) + i_2)).toNat 0) 17 26).bind fun r10 => cond (!r10) (some (.inr (.inl (false, [])))) (cond (inB (w64 ((3 : Int) + i_2)) r.length) ((spec_l1At d (w64 ((2 : Int) + i_2))).bind fun r11 => (spec_l1Ints r11).bind fun r12 => (some (out_2 ++ ([(r.getD (w64 ((3 : Int) + i_2)).toNat 0, r12, ())]))).bind fun v5 => cond (decide (v5.length ≤ 2147483648)) (some (.inl (w64 (i_2 + 1), v5))) (none)) (none))) (none)) (some (.inr (.inr out_2)))
def spec_l13Found_l1 (d : Disk_) (r : List Int) (n_2 : Int) : (Int × List Put_) → Option (((Bool × List Put_) ⊕ (List Put_))) :=
  loopL fun s => spec_l13Found_l1.B d r n_2 s.1 s.2
def spec_l13Found (d : Disk_) (seq : Int) : Option ((List Put_) × Bool) :=
  (spec_l1At d 1).bind fun r => cond (cond (!(decide ((r.length : Int) < 3))) (inB 0 r.length) true) ((some (cond (decide ((r.length : Int) < 3)) true ((r.getD (0 : Int).toNat 0) != 1))).bind fun v => cond (cond (!v) (inB 1 r.length) true) (cond (cond v true ((r.getD (1 : Int).toNat 0) != seq)) (cond (cond (!true) (inB 2 r.length) true) ((some (cond true true ((r.length : Int) != (w64 ((3 : Int) + (r.getD (2 : Int).toNat 0)))))).bind fun v2 => cond v2 (some ([], false)) (cond (inB 2 r.length) ((spec_l1At d (w64 ((2 : Int) + (r.getD (2 : Int).toNat 0)))).bind fun r2 => (spec_l4Ints r2 ([2, seq, r.getD (2 : Int).toNat 0])).bind fun r3 => cond (!r3) (some ([], false)) ((spec_l13Found_l0 d r (r.getD (2 : Int).toNat 0) (0, [])).bind fun o => sel o (fun b => some (b.2, b.1)) (fun c => some (c, true)))) (none))) (none)) (cond (inB 2 r.length) ((spec_l1In (r.getD (2 : Int).toNat 0) 0 10).bind fun r7 => cond (cond (!(!r7)) (inB 2 r.length) true) ((some (cond (!r7) true ((r.length : Int) != (w64 ((3 : Int) + (r.getD (2 : Int).toNat 0)))))).bind fun v4 => cond v4 (some ([], false)) (cond (inB 2 r.length) ((spec_l1At d (w64 ((2 : Int) + (r.getD (2 : Int).toNat 0)))).bind fun r8 => (spec_l4Ints r8 ([2, seq, r.getD (2 : Int).toNat 0])).bind fun r9 => cond (!r9) (some ([], false)) ((spec_l13Found_l1 d r (r.getD (2 : Int).toNat 0) (0, [])).bind fun o2 => sel o2 (fun b2 => some (b2.2, b2.1)) (fun c2 => some (c2, true)))) (none))) (none)) (none))) (none)) (none)
namespace spec_l13Found
def G : Gam := mkG [(98, spec_l1At.FS), (141, spec_l4Ints.FS), (74, spec_l1In.FS), (142, spec_l1Ints.FS)]
theorem Gok : GOk PR G := .cons spec_l1At.ok (.cons spec_l4Ints.ok (.cons spec_l1In.ok (.cons spec_l1Ints.ok .nil)))
end spec_l13Found
namespace spec_l13Found_l0
def c := codeAt (bodyOf Proofs.Try.f116) [1, 1, 1, 1, 1, 1, 0, 1, 0, 0]
def sp : SP := ⟨[(0, .pt tDisk_), (6, .cs SI), (7, .cs I64), (8, .seg 8 []), (9, .cs I64)], [(8, .reg, .cd (.sl tPut_))]⟩
def out (d : Disk_) (r : List Int) (n_ : Int) : FOut (((Bool × List Put_) ⊕ (List Put_))) := fun o _ k => sel o (fun b => k (.rt) ⟨[(4, .seg 4 []), (5, .cs .bool b.1)], [sr 4 (.cd (.sl tPut_) b.2)]⟩) (fun c => k (.ex 0) ⟨[(8, .seg 8 [])], [sr 8 (.cd (.sl tPut_) c)]⟩)
def fr := lfrag sp (fun x => spec_l13Found_l0 x.1.1 x.1.2.1 x.1.2.2.1 (x.1.2.2.2.2.1, x.2.1)) fun x => out x.1.1 x.1.2.1 x.1.2.2.1
theorem ok : CodeOk PR 84 2 (.loop c) fr :=
  lp_ok tbok hmix h0 .no (G := spec_l13Found.G) spec_l13Found.Gok (L := mkL []) (l := []) hT [0, 6, 7, 8, 9] [8] [(0, ([8], [8]))] ([4, 5], [4]) (fun x s => B x.1.1 x.1.2.1 x.1.2.2.1 s.1 s.2) (fun x s => ⟨[(0, .pt tDisk_ x.1.1), (6, .cs SI x.1.2.1), (7, .cs I64 x.1.2.2.1), (8, .seg 8 []), (9, .cs I64 s.1)], [sr 8 (.cd (.sl tPut_) s.2)]⟩) (fun x => (x.1.2.2.2.2.1, x.2.1))
    (fun x s => by simp only [B, mC, mB, mS, mO, mN]; kernel_rfl)
end spec_l13Found_l0
namespace spec_l13Found_l1
def c := codeAt (bodyOf Proofs.Try.f116) [1, 1, 1, 1, 1, 1, 0, 1, 0, 0]
def sp : SP := ⟨[(0, .pt tDisk_), (6, .cs SI), (7, .cs I64), (8, .seg 8 []), (9, .cs I64)], [(8, .reg, .cd (.sl tPut_))]⟩
def out (d : Disk_) (r : List Int) (n_2 : Int) : FOut (((Bool × List Put_) ⊕ (List Put_))) := fun o _ k => sel o (fun b => k (.rt) ⟨[(4, .seg 4 []), (5, .cs .bool b.1)], [sr 4 (.cd (.sl tPut_) b.2)]⟩) (fun c => k (.ex 0) ⟨[(8, .seg 8 [])], [sr 8 (.cd (.sl tPut_) c)]⟩)
def fr := lfrag sp (fun x => spec_l13Found_l1 x.1.1 x.1.2.1 x.1.2.2.1 (x.1.2.2.2.2.1, x.2.1)) fun x => out x.1.1 x.1.2.1 x.1.2.2.1
theorem ok : CodeOk PR 84 2 (.loop c) fr :=
  lp_ok tbok hmix h0 .no (G := spec_l13Found.G) spec_l13Found.Gok (L := mkL []) (l := []) hT [0, 6, 7, 8, 9] [8] [(0, ([8], [8]))] ([4, 5], [4]) (fun x s => B x.1.1 x.1.2.1 x.1.2.2.1 s.1 s.2) (fun x s => ⟨[(0, .pt tDisk_ x.1.1), (6, .cs SI x.1.2.1), (7, .cs I64 x.1.2.2.1), (8, .seg 8 []), (9, .cs I64 s.1)], [sr 8 (.cd (.sl tPut_) s.2)]⟩) (fun x => (x.1.2.2.2.2.1, x.2.1))
    (fun x s => by simp only [B, mC, mB, mS, mO, mN]; kernel_rfl)
end spec_l13Found_l1
namespace spec_l13Found
def pts : List PT := [.pt tDisk_, .cs I64]
def FS : FS := mkFS [.sh, .sh] pts (fun x => spec_l13Found x.1 x.2.1) fun t => ⟨[.cd (.sl tPut_) t.1, .cs .bool t.2], []⟩
theorem ok : FsOk PR 116 FS :=
  fn_ok tbok hmix Proofs.Try.f116 h0 (.R (.R (.R (.R (.R (.R (.L (.R (.one (.fr 1)))))))))) (G := G) Gok (L := mkL [(0, spec_l13Found_l0.fr), (1, spec_l13Found_l1.fr)]) (l := [(1, .loop spec_l13Found_l1.c)]) ⟨Lam.skip rfl (Lam.cons spec_l13Found_l1.ok), trivial⟩
    (fun x => by simp only [spec_l13Found, mC, mB, mS, mO, mN]; kernel_rfl)
end spec_l13Found
def spec_l13Puts_l0.B (list : List Put_) (i_ : Int) (out_ : List Step_) : Option ((Int × List Step_) ⊕ (List Step_)) :=
  cond (decide (i_ < (list.length : Int))) (cond (inB i_ list.length) (cond (inB i_ list.length) ((spec_l1Ints (((list.getD i_.toNat zPut_).2).1)).bind fun r => (some (out_ ++ ([(false, (list.getD i_.toNat zPut_).1, r, ())]))).bind fun v => cond (decide (v.length ≤ 2147483648)) (some (.inl (w64 (i_ + 1), v))) (none)) (none)) (none)) (some (.inr out_))
def spec_l13Puts_l0 (list : List Put_) : (Int × List Step_) → Option (List Step_) :=
  loopL fun s => spec_l13Puts_l0.B list s.1 s.2
def spec_l13Puts (list : List Put_) : Option (List Step_) :=
  (spec_l13Puts_l0 list (0, [])).bind fun o => some o
namespace spec_l13Puts
def G : Gam := mkG [(142, spec_l1Ints.FS)]
theorem Gok : GOk PR G := .cons spec_l1Ints.ok .nil
end spec_l13Puts
namespace spec_l13Puts_l0
def c := codeAt (bodyOf Proofs.Try.f118) [1, 1, 0, 1, 0, 0]
def sp : SP := ⟨[(0, .cs (.sl tPut_)), (3, .seg 3 []), (4, .cs I64)], [(3, .reg, .cd (.sl tStep_))]⟩
def out (list : List Put_) : FOut (List Step_) := fun b _ k => k (.ex 0) ⟨[(3, .seg 3 [])], [sr 3 (.cd (.sl tStep_) b)]⟩
def fr := lfrag sp (fun x => spec_l13Puts_l0 x.1.1 (x.1.2.2.1, x.2.1)) fun x => out x.1.1
theorem ok : CodeOk PR 28 1 (.loop c) fr :=
  lp_ok tbok hmix h0 .no (G := spec_l13Puts.G) spec_l13Puts.Gok (L := mkL []) (l := []) hT [0, 3, 4] [3] [(0, ([3], [3]))] ([], []) (fun x s => B x.1.1 s.1 s.2) (fun x s => ⟨[(0, .cs (.sl tPut_) x.1.1), (3, .seg 3 []), (4, .cs I64 s.1)], [sr 3 (.cd (.sl tStep_) s.2)]⟩) (fun x => (x.1.2.2.1, x.2.1))
    (fun x s => by simp only [B, mC, mB, mS, mO, mN]; kernel_rfl)
end spec_l13Puts_l0
namespace spec_l13Puts
def pts : List PT := [.cs (.sl tPut_)]
def FS : FS := mkFS [.sh] pts (fun x => spec_l13Puts x.1) fun t => ⟨[.cd (.sl tStep_) t], []⟩
theorem ok : FsOk PR 118 FS :=
  fn_ok tbok hmix Proofs.Try.f118 h0 (.R (.R (.L (.R (.one (.fr 0)))))) (G := G) Gok (L := mkL [(0, spec_l13Puts_l0.fr)]) (l := [(0, .loop spec_l13Puts_l0.c)]) ⟨Lam.cons spec_l13Puts_l0.ok, trivial⟩
    (fun x => by simp only [spec_l13Puts, mC, mB, mS, mO, mN]; kernel_rfl)
end spec_l13Puts
def spec_l13Super (seq : Int) : Option (List Step_) :=
  some ([(true, 0, [], ()), (false, 0, [7, w64 (seq + 1)], ()), (true, 0, [], ())])
namespace spec_l13Super
def pts : List PT := [.cs I64]
def FS : FS := mkFS [.sh] pts (fun x => spec_l13Super x.1) fun t => ⟨[.cd (.sl tStep_) t], []⟩
theorem ok : FsOk PR 119 FS :=
  fn_ok tbok hmix Proofs.Try.f119 h0 .no (G := (mkG [])) .nil (L := mkL []) (l := []) hT
    (fun x => by simp only [spec_l13Super, mC, mB, mS, mO, mN]; kernel_rfl)
end spec_l13Super
def spec_PlanMount (d : Disk_) : Option (StepsResult_) :=
  (spec_SeqOf d).bind fun r => cond (r.1 != 0) (some (r.1, [], ())) ((spec_l13Found d r.2.1).bind fun r2 => cond (cond (!r2.2) true (decide (r.2.1 ≥ 60000))) (some (0, [], ())) ((spec_l13Puts r2.1).bind fun r3 => (spec_l13Super r.2.1).bind fun r4 => cond (decide ((r3 ++ r4).length ≤ 2147483648)) (some (0, r3 ++ r4, ())) (none)))
namespace spec_PlanMount
def G : Gam := mkG [(36, spec_SeqOf.FS), (116, spec_l13Found.FS), (118, spec_l13Puts.FS), (119, spec_l13Super.FS)]
def pts : List PT := [.cs tDisk_]
def FS : FS := mkFS [.sh] pts (fun x => spec_PlanMount x.1) fun t => ⟨[.cd tStepsResult_ t], []⟩
theorem ok : FsOk PR 55 FS :=
  fn_ok tbok hmix Proofs.Try.f55 ⟨[1], [], [], 0⟩ .no (G := G) (show GOk PR G from .cons spec_SeqOf.ok (.cons spec_l13Found.ok (.cons spec_l13Puts.ok (.cons spec_l13Super.ok .nil)))) (L := mkL []) (l := []) hT
    (fun x => by simp only [spec_PlanMount, mC, mB, mS, mO, mN]; kernel_rfl)
end spec_PlanMount
def spec_StepFault (x : Step_) : Option (Int) :=
  (some (cond x.1 (cond (x.2.1 != 0) true (decide ((x.2.2.1.length : Int) > 0))) false)).bind fun v => cond v (some 1) ((spec_l1In x.2.1 0 46).bind fun r => cond (!r) (some 3) ((spec_l1Words x.2.2.1).bind fun r2 => some r2))
namespace spec_StepFault
def G : Gam := mkG [(74, spec_l1In.FS), (80, spec_l1Words.FS)]
def pts : List PT := [.cs tStep_]
def FS : FS := mkFS [.sh] pts (fun x => spec_StepFault x.1) fun t => ⟨[.cs I64 t], []⟩
theorem ok : FsOk PR 20 FS :=
  fn_ok tbok hmix Proofs.Try.f20 ⟨[1], [], [], 0⟩ .no (G := G) (show GOk PR G from .cons spec_l1In.ok (.cons spec_l1Words.ok .nil)) (L := mkL []) (l := []) hT
    (fun x => by simp only [spec_StepFault, mC, mB, mS, mO, mN]; kernel_rfl)
end spec_StepFault
def spec_l13Steps_l0.B (list : List Step_) (i_ : Int) : Option ((Int) ⊕ (((Int) ⊕ (Unit)))) :=
  cond (decide (i_ < (list.length : Int))) (cond (inB i_ list.length) ((spec_StepFault (list.getD i_.toNat zStep_)).bind fun r => cond (r != 0) (some (.inr (.inl r))) (some (.inl (w64 (i_ + 1))))) (none)) (some (.inr (.inr ())))
def spec_l13Steps_l0 (list : List Step_) : (Int) → Option (((Int) ⊕ (Unit))) :=
  loopL fun s => spec_l13Steps_l0.B list s
def spec_l13Steps (list : List Step_) : Option (Int) :=
  cond (decide ((list.length : Int) > 120)) (some 2) ((spec_l13Steps_l0 list 0).bind fun o => sel o (fun b => some b) (fun c => some 0))
namespace spec_l13Steps
def G : Gam := mkG [(20, spec_StepFault.FS)]
theorem Gok : GOk PR G := .cons spec_StepFault.ok .nil
end spec_l13Steps
namespace spec_l13Steps_l0
def c := codeAt (bodyOf Proofs.Try.f90) [1, 1, 0, 1, 0, 0]
def sp : SP := ⟨[(0, .cs (.sl tStep_)), (3, .cs I64)], []⟩
def out (list : List Step_) : FOut (((Int) ⊕ (Unit))) := fun o _ k => sel o (fun b => k (.rt) ⟨[(2, .cs I64 b)], []⟩) (fun c => k (.ex 0) ⟨[], []⟩)
def fr := lfrag sp (fun x => spec_l13Steps_l0 x.1.1 x.1.2.1) fun x => out x.1.1
theorem ok : CodeOk PR 22 1 (.loop c) fr :=
  lp_ok tbok hmix h0 .no (G := spec_l13Steps.G) spec_l13Steps.Gok (L := mkL []) (l := []) hT [0, 3] [] [(0, ([], []))] ([2], []) (fun x s => B x.1.1 s) (fun x s => ⟨[(0, .cs (.sl tStep_) x.1.1), (3, .cs I64 s)], []⟩) (fun x => x.1.2.1)
    (fun x s => by simp only [B, mC, mB, mS, mO, mN]; kernel_rfl)
end spec_l13Steps_l0
namespace spec_l13Steps
def pts : List PT := [.cs (.sl tStep_)]
def FS : FS := mkFS [.sh] pts (fun x => spec_l13Steps x.1) fun t => ⟨[.cs I64 t], []⟩
theorem ok : FsOk PR 90 FS :=
  fn_ok tbok hmix Proofs.Try.f90 h0 (.R (.R (.L (.R (.one (.fr 0)))))) (G := G) Gok (L := mkL [(0, spec_l13Steps_l0.fr)]) (l := [(0, .loop spec_l13Steps_l0.c)]) ⟨Lam.cons spec_l13Steps_l0.ok, trivial⟩
    (fun x => by simp only [spec_l13Steps, mC, mB, mS, mO, mN]; kernel_rfl)
end spec_l13Steps
def spec_l1Copy_l0.B (d : Disk_) (v : Disk_) (i_ : Int) (out_ : Disk_) : Option ((Int × Disk_) ⊕ (Disk_)) :=
  cond (decide (i_ < (d.1.length : Int))) (cond (inB i_ d.1.length) ((spec_l1Ints (d.1.getD i_.toNat [])).bind fun r => cond (decide ((out_.1 ++ ([r])).length ≤ 2147483648)) (some (.inl (w64 (i_ + 1), (out_.1 ++ ([r]), out_.2)))) (none)) (none)) (some (.inr out_))
def spec_l1Copy_l0 (d : Disk_) (v : Disk_) : (Int × Disk_) → Option (Disk_) :=
  loopL fun s => spec_l1Copy_l0.B d v s.1 s.2
def spec_l1Copy_l1.B (d : Disk_) (v2 : Disk_) (i_2 : Int) (out_2 : Disk_) : Option ((Int × Disk_) ⊕ (Disk_)) :=
  cond (decide (i_2 < (d.2.1.length : Int))) (cond (inB i_2 d.2.1.length) (cond (inB i_2 d.2.1.length) ((spec_l1Ints (((d.2.1.getD i_2.toNat zPut_).2).1)).bind fun r2 => (some (out_2.2.1 ++ ([((d.2.1.getD i_2.toNat zPut_).1, r2, ())]))).bind fun v3 => cond (decide (v3.length ≤ 2147483648)) (some (.inl (w64 (i_2 + 1), (out_2.1, v3, out_2.2.2)))) (none)) (none)) (none)) (some (.inr out_2))
def spec_l1Copy_l1 (d : Disk_) (v2 : Disk_) : (Int × Disk_) → Option (Disk_) :=
  loopL fun s => spec_l1Copy_l1.B d v2 s.1 s.2
def spec_l1Copy (d : Disk_) : Option (Disk_) :=
  (spec_l1Copy_l0 d ([], [], ()) (0, ([], [], ()))).bind fun o => (spec_l1Copy_l1 d ([], [], ()) (0, o)).bind fun o2 => some (o2.1, o2.2.1, o2.2.2)
namespace spec_l1Copy
def G : Gam := mkG [(142, spec_l1Ints.FS)]
theorem Gok : GOk PR G := .cons spec_l1Ints.ok .nil
end spec_l1Copy
namespace spec_l1Copy_l0
def c := codeAt (bodyOf Proofs.Try.f152) [1, 1, 0, 1, 0, 0]
def sp : SP := ⟨[(1, .pt tDisk_), (2, .loc 2 []), (3, .loc 3 []), (4, .cs I64)], [(2, .mem, .cd tDisk_), (3, .mem, .cd tDisk_)]⟩
def out (d : Disk_) (v : Disk_) : FOut (Disk_) := fun b _ k => k (.ex 0) ⟨[(1, .pt tDisk_ d), (2, .loc 2 []), (3, .loc 3 [])], [(2, some ⟨.mem, .cd tDisk_ v⟩), (3, some ⟨.mem, .cd tDisk_ b⟩)]⟩
def fr := lfrag sp (fun x => spec_l1Copy_l0 x.1.1 x.2.1 (x.1.2.2.2.1, x.2.2.1)) fun x => out x.1.1 x.2.1
theorem ok : CodeOk PR 52 1 (.loop c) fr :=
  lp_ok tbok hmix ⟨[1], [], [], 0⟩ .no (G := spec_l1Copy.G) spec_l1Copy.Gok (L := mkL []) (l := []) hT [1, 2, 3, 4] [2, 3] [(0, ([1, 2, 3], [2, 3]))] ([], []) (fun x s => B x.1.1 x.2.1 s.1 s.2) (fun x s => ⟨[(1, .pt tDisk_ x.1.1), (2, .loc 2 []), (3, .loc 3 []), (4, .cs I64 s.1)], [(2, some ⟨.mem, .cd tDisk_ x.2.1⟩), (3, some ⟨.mem, .cd tDisk_ s.2⟩)]⟩) (fun x => (x.1.2.2.2.1, x.2.2.1))
    (fun x s => by simp only [B, mC, mB, mS, mO, mN]; kernel_rfl)
end spec_l1Copy_l0
namespace spec_l1Copy_l1
def c := codeAt (bodyOf Proofs.Try.f152) [1, 1, 1, 0, 1, 0, 0]
def sp : SP := ⟨[(1, .pt tDisk_), (2, .loc 2 []), (3, .loc 3 []), (5, .cs I64)], [(2, .mem, .cd tDisk_), (3, .mem, .cd tDisk_)]⟩
def out (d : Disk_) (v2 : Disk_) : FOut (Disk_) := fun b _ k => k (.ex 2) ⟨[(2, .loc 2 []), (3, .loc 3 [])], [(2, some ⟨.mem, .cd tDisk_ v2⟩), (3, some ⟨.mem, .cd tDisk_ b⟩)]⟩
def fr := lfrag sp (fun x => spec_l1Copy_l1 x.1.1 x.2.1 (x.1.2.2.2.1, x.2.2.1)) fun x => out x.1.1 x.2.1
theorem ok : CodeOk PR 52 1 (.loop c) fr :=
  lp_ok tbok hmix ⟨[1], [], [], 0⟩ .no (G := spec_l1Copy.G) spec_l1Copy.Gok (L := mkL []) (l := []) hT [1, 2, 3, 5] [2, 3] [(2, ([2, 3], [2, 3]))] ([], []) (fun x s => B x.1.1 x.2.1 s.1 s.2) (fun x s => ⟨[(1, .pt tDisk_ x.1.1), (2, .loc 2 []), (3, .loc 3 []), (5, .cs I64 s.1)], [(2, some ⟨.mem, .cd tDisk_ x.2.1⟩), (3, some ⟨.mem, .cd tDisk_ s.2⟩)]⟩) (fun x => (x.1.2.2.2.1, x.2.2.1))
    (fun x s => by simp only [B, mC, mB, mS, mO, mN]; kernel_rfl)
end spec_l1Copy_l1
namespace spec_l1Copy
def pts : List PT := [.cs tDisk_]
def FS : FS := mkFS [.sh] pts (fun x => spec_l1Copy x.1) fun t => ⟨[.cd tDisk_ t], []⟩
theorem ok : FsOk PR 152 FS :=
  fn_ok tbok hmix Proofs.Try.f152 ⟨[1], [], [], 0⟩ (.R (.R (.two (.R (.one (.fr 0))) (.L (.R (.one (.fr 1))))))) (G := G) Gok (L := mkL [(0, spec_l1Copy_l0.fr), (1, spec_l1Copy_l1.fr)]) (l := [(0, .loop spec_l1Copy_l0.c), (1, .loop spec_l1Copy_l1.c)]) ⟨Lam.cons spec_l1Copy_l0.ok, Lam.skip rfl (Lam.cons spec_l1Copy_l1.ok), trivial⟩
    (fun x => by simp only [spec_l1Copy, mC, mB, mS, mO, mN]; kernel_rfl)
end spec_l1Copy
def spec_l1Keep_l0.B (picks : List Bool) (all : Bool) (d : Disk_) (v : Disk_) (i_ : Int) (out_ : Disk_) : Option ((Int × Disk_) ⊕ (Disk_)) :=
  cond (decide (i_ < (d.2.1.length : Int))) (cond (cond ((!all) && (decide (i_ < (picks.length : Int)))) (inB i_ picks.length) true) ((some (cond all true (cond (decide (i_ < (picks.length : Int))) (picks.getD i_.toNat false) false))).bind fun v2 => cond v2 (cond (inB i_ d.2.1.length) (cond (inB i_ d.2.1.length) ((spec_l1Ints (((d.2.1.getD i_.toNat zPut_).2).1)).bind fun r2 => cond (inB ((d.2.1.getD i_.toNat zPut_).1) out_.1.length) ((some (out_.1.set (((d.2.1.getD i_.toNat zPut_).1).toNat) r2)).bind fun out_2 => some (.inl (w64 (i_ + 1), (out_2, out_.2)))) (none)) (none)) (none)) (some (.inl (w64 (i_ + 1), out_)))) (none)) (some (.inr out_))
def spec_l1Keep_l0 (picks : List Bool) (all : Bool) (d : Disk_) (v : Disk_) : (Int × Disk_) → Option (Disk_) :=
  loopL fun s => spec_l1Keep_l0.B picks all d v s.1 s.2
def spec_l1Keep (d : Disk_) (picks : List Bool) (all : Bool) : Option (Disk_) :=
  (spec_l1Copy d).bind fun r => (spec_l1Keep_l0 picks all d ([], [], ()) (0, (r.1, [], r.2.2))).bind fun o => some (o.1, o.2.1, o.2.2)
namespace spec_l1Keep
def G : Gam := mkG [(152, spec_l1Copy.FS), (142, spec_l1Ints.FS)]
theorem Gok : GOk PR G := .cons spec_l1Copy.ok (.cons spec_l1Ints.ok .nil)
end spec_l1Keep
namespace spec_l1Keep_l0
def c := codeAt (bodyOf Proofs.Try.f153) [1, 1, 1, 0, 1, 0, 0]
def sp : SP := ⟨[(1, .cs (.sl .bool)), (2, .cs .bool), (3, .pt tDisk_), (6, .loc 6 []), (7, .loc 7 []), (8, .cs I64)], [(6, .mem, .cd tDisk_), (7, .mem, .cd tDisk_)]⟩
def out (picks : List Bool) (all : Bool) (d : Disk_) (v : Disk_) : FOut (Disk_) := fun b _ k => k (.ex 0) ⟨[(6, .loc 6 []), (7, .loc 7 [])], [(6, some ⟨.mem, .cd tDisk_ v⟩), (7, some ⟨.mem, .cd tDisk_ b⟩)]⟩
def fr := lfrag sp (fun x => spec_l1Keep_l0 x.1.1 x.1.2.1 x.1.2.2.1 x.2.1 (x.1.2.2.2.2.2.1, x.2.2.1)) fun x => out x.1.1 x.1.2.1 x.1.2.2.1 x.2.1
theorem ok : CodeOk PR 49 3 (.loop c) fr :=
  lp_ok tbok hmix ⟨[3], [], [], 0⟩ .no (G := spec_l1Keep.G) spec_l1Keep.Gok (L := mkL []) (l := []) hT [1, 2, 3, 6, 7, 8] [6, 7] [(0, ([6, 7], [6, 7]))] ([], []) (fun x s => B x.1.1 x.1.2.1 x.1.2.2.1 x.2.1 s.1 s.2) (fun x s => ⟨[(1, .cs (.sl .bool) x.1.1), (2, .cs .bool x.1.2.1), (3, .pt tDisk_ x.1.2.2.1), (6, .loc 6 []), (7, .loc 7 []), (8, .cs I64 s.1)], [(6, some ⟨.mem, .cd tDisk_ x.2.1⟩), (7, some ⟨.mem, .cd tDisk_ s.2⟩)]⟩) (fun x => (x.1.2.2.2.2.2.1, x.2.2.1))
    (fun x s => by simp only [B, mC, mB, mS, mO, mN]; kernel_rfl)
end spec_l1Keep_l0
namespace spec_l1Keep
def pts : List PT := [.cs tDisk_, .cs (.sl .bool), .cs .bool]
def FS : FS := mkFS [.sh, .sh, .sh] pts (fun x => spec_l1Keep x.1 x.2.1 x.2.2.1) fun t => ⟨[.cd tDisk_ t], []⟩
theorem ok : FsOk PR 153 FS :=
  fn_ok tbok hmix Proofs.Try.f153 ⟨[3], [], [], 0⟩ (.R (.R (.R (.L (.R (.one (.fr 0))))))) (G := G) Gok (L := mkL [(0, spec_l1Keep_l0.fr)]) (l := [(0, .loop spec_l1Keep_l0.c)]) ⟨Lam.cons spec_l1Keep_l0.ok, trivial⟩
    (fun x => by simp only [spec_l1Keep, mC, mB, mS, mO, mN]; kernel_rfl)
end spec_l1Keep
def spec_l1Place (d : Disk_) (at_ : Int) : Option (Bool) :=
  (spec_l1In at_ 0 (w64 ((d.1.length : Int) - 1))).bind fun r => some r
namespace spec_l1Place
def G : Gam := mkG [(74, spec_l1In.FS)]
def pts : List PT := [.pt tDisk_, .cs I64]
def FS : FS := mkFS [.sh, .sh] pts (fun x => spec_l1Place x.1 x.2.1) fun t => ⟨[.cs .bool t], []⟩
theorem ok : FsOk PR 103 FS :=
  fn_ok tbok hmix Proofs.Try.f103 h0 .no (G := G) (show GOk PR G from .cons spec_l1In.ok .nil) (L := mkL []) (l := []) hT
    (fun x => by simp only [spec_l1Place, mC, mB, mS, mO, mN]; kernel_rfl)
end spec_l1Place
def spec_PutBlock (d : Disk_) (at_ : Int) (words : List Int) : Option (DiskResult_) :=
  (spec_l1Fault d).bind fun r => cond (r != 0) (some (r, ([], [], ()), ())) ((spec_l1Place d at_).bind fun r2 => cond (!r2) (some (3, ([], [], ()), ())) ((spec_l1Words words).bind fun r3 => cond (r3 != 0) (some (r3, ([], [], ()), ())) (cond (decide ((d.2.1.length : Int) ≥ 200)) (some (2, ([], [], ()), ())) ((spec_l1Copy d).bind fun r4 => (spec_l1Ints words).bind fun r5 => cond (decide ((r4.2.1 ++ ([(at_, r5, ())])).length ≤ 2147483648)) (some (0, (r4.1, r4.2.1 ++ ([(at_, r5, ())]), r4.2.2), ())) (none)))))
namespace spec_PutBlock
def G : Gam := mkG [(97, spec_l1Fault.FS), (103, spec_l1Place.FS), (80, spec_l1Words.FS), (152, spec_l1Copy.FS), (142, spec_l1Ints.FS)]
def pts : List PT := [.cs tDisk_, .cs I64, .cs SI]
def FS : FS := mkFS [.sh, .sh, .sh] pts (fun x => spec_PutBlock x.1 x.2.1 x.2.2.1) fun t => ⟨[.cd tDiskResult_ t], []⟩
theorem ok : FsOk PR 154 FS :=
  fn_ok tbok hmix Proofs.Try.f154 ⟨[3], [], [], 0⟩ .no (G := G) (show GOk PR G from .cons spec_l1Fault.ok (.cons spec_l1Place.ok (.cons spec_l1Words.ok (.cons spec_l1Copy.ok (.cons spec_l1Ints.ok .nil))))) (L := mkL []) (l := []) hT
    (fun x => by simp only [spec_PutBlock, mC, mB, mS, mO, mN]; kernel_rfl)
end spec_PutBlock
def spec_l13Run_l0.B (list : List Step_) (v : DiskResult_) (i_ : Int) (out_ : DiskResult_) : Option ((Int × DiskResult_) ⊕ (((DiskResult_) ⊕ (DiskResult_)))) :=
  cond (decide (i_ < (list.length : Int))) (cond (inB i_ list.length) (cond ((list.getD i_.toNat zStep_).1) ((spec_l1Keep (out_.2.1.1, out_.2.1.2.1, out_.2.1.2.2) [] true).bind fun r2 => some (.inl (w64 (i_ + 1), (out_.1, (r2.1, r2.2.1, r2.2.2), out_.2.2)))) (cond (inB i_ list.length) (cond (inB i_ list.length) ((spec_PutBlock (out_.2.1.1, out_.2.1.2.1, out_.2.1.2.2) (((list.getD i_.toNat zStep_).2).1) ((((list.getD i_.toNat zStep_).2).2).1)).bind fun r3 => cond (r3.1 != 0) (some (.inr (.inl (r3.1, (r3.2.1.1, r3.2.1.2.1, r3.2.1.2.2), r3.2.2)))) (some (.inl (w64 (i_ + 1), (r3.1, (r3.2.1.1, r3.2.1.2.1, r3.2.1.2.2), r3.2.2))))) (none)) (none))) (none)) (some (.inr (.inr out_)))
def spec_l13Run_l0 (list : List Step_) (v : DiskResult_) : (Int × DiskResult_) → Option (((DiskResult_) ⊕ (DiskResult_))) :=
  loopL fun s => spec_l13Run_l0.B list v s.1 s.2
def spec_l13Run (d : Disk_) (list : List Step_) : Option (DiskResult_) :=
  (spec_l1Copy d).bind fun r => (spec_l13Run_l0 list (0, ([], [], ()), ()) (0, (0, (r.1, r.2.1, r.2.2), ()))).bind fun o => sel o (fun b => some (b.1, (b.2.1.1, b.2.1.2.1, b.2.1.2.2), b.2.2)) (fun c => some (c.1, (c.2.1.1, c.2.1.2.1, c.2.1.2.2), c.2.2))
namespace spec_l13Run
def G : Gam := mkG [(152, spec_l1Copy.FS), (153, spec_l1Keep.FS), (154, spec_PutBlock.FS)]
theorem Gok : GOk PR G := .cons spec_l1Copy.ok (.cons spec_l1Keep.ok (.cons spec_PutBlock.ok .nil))
end spec_l13Run
namespace spec_l13Run_l0
def c := codeAt (bodyOf Proofs.Try.f122) [1, 1, 0, 1, 0, 0]
def sp : SP := ⟨[(1, .cs (.sl tStep_)), (4, .loc 4 []), (5, .loc 5 []), (6, .cs I64)], [(4, .mem, .cd tDiskResult_), (5, .mem, .cd tDiskResult_)]⟩
def out (list : List Step_) (v : DiskResult_) : FOut (((DiskResult_) ⊕ (DiskResult_))) := fun o _ k => sel o (fun b => k (.rt) ⟨[(4, .loc 4 [])], [(4, some ⟨.mem, .cd tDiskResult_ b⟩)]⟩) (fun c => k (.ex 0) ⟨[(4, .loc 4 []), (5, .loc 5 [])], [(4, some ⟨.mem, .cd tDiskResult_ v⟩), (5, some ⟨.mem, .cd tDiskResult_ c⟩)]⟩)
def fr := lfrag sp (fun x => spec_l13Run_l0 x.1.1 x.2.1 (x.1.2.2.2.1, x.2.2.1)) fun x => out x.1.1 x.2.1
theorem ok : CodeOk PR 43 2 (.loop c) fr :=
  lp_ok tbok hmix ⟨[2], [], [], 0⟩ .no (G := spec_l13Run.G) spec_l13Run.Gok (L := mkL []) (l := []) hT [1, 4, 5, 6] [4, 5] [(0, ([4, 5], [4, 5]))] ([4], [4]) (fun x s => B x.1.1 x.2.1 s.1 s.2) (fun x s => ⟨[(1, .cs (.sl tStep_) x.1.1), (4, .loc 4 []), (5, .loc 5 []), (6, .cs I64 s.1)], [(4, some ⟨.mem, .cd tDiskResult_ x.2.1⟩), (5, some ⟨.mem, .cd tDiskResult_ s.2⟩)]⟩) (fun x => (x.1.2.2.2.1, x.2.2.1))
    (fun x s => by simp only [B, mC, mB, mS, mO, mN]; kernel_rfl)
end spec_l13Run_l0
namespace spec_l13Run
def pts : List PT := [.cs tDisk_, .cs (.sl tStep_)]
def FS : FS := mkFS [.sh, .sh] pts (fun x => spec_l13Run x.1 x.2.1) fun t => ⟨[.cd tDiskResult_ t], []⟩
theorem ok : FsOk PR 122 FS :=
  fn_ok tbok hmix Proofs.Try.f122 ⟨[2], [], [], 0⟩ (.R (.R (.L (.R (.one (.fr 0)))))) (G := G) Gok (L := mkL [(0, spec_l13Run_l0.fr)]) (l := [(0, .loop spec_l13Run_l0.c)]) ⟨Lam.cons spec_l13Run_l0.ok, trivial⟩
    (fun x => by simp only [spec_l13Run, mC, mB, mS, mO, mN]; kernel_rfl)
end spec_l13Run
def spec_RunSteps (d : Disk_) (list : List Step_) : Option (DiskResult_) :=
  (spec_l1Fault d).bind fun r => cond (r != 0) (some (r, ([], [], ()), ())) (cond ((d.1.length : Int) != 47) (some (1, ([], [], ()), ())) ((spec_l13Steps list).bind fun r2 => cond (r2 != 0) (some (r2, ([], [], ()), ())) ((spec_l13Run d list).bind fun r3 => some (r3.1, (r3.2.1.1, r3.2.1.2.1, r3.2.1.2.2), r3.2.2))))
namespace spec_RunSteps
def G : Gam := mkG [(97, spec_l1Fault.FS), (90, spec_l13Steps.FS), (122, spec_l13Run.FS)]
def pts : List PT := [.cs tDisk_, .cs (.sl tStep_)]
def FS : FS := mkFS [.sh, .sh] pts (fun x => spec_RunSteps x.1 x.2.1) fun t => ⟨[.cd tDiskResult_ t], []⟩
theorem ok : FsOk PR 60 FS :=
  fn_ok tbok hmix Proofs.Try.f60 ⟨[2], [], [], 0⟩ .no (G := G) (show GOk PR G from .cons spec_l1Fault.ok (.cons spec_l13Steps.ok (.cons spec_l13Run.ok .nil))) (L := mkL []) (l := []) hT
    (fun x => by simp only [spec_RunSteps, mC, mB, mS, mO, mN]; kernel_rfl)
end spec_RunSteps
def spec_CrashDisk (d : Disk_) (picks : List Bool) : Option (DiskResult_) :=
  (spec_l1Fault d).bind fun r => cond (r != 0) (some (r, ([], [], ()), ())) ((spec_l1Keep d picks false).bind fun r2 => some (0, (r2.1, r2.2.1, r2.2.2), ()))
namespace spec_CrashDisk
def G : Gam := mkG [(97, spec_l1Fault.FS), (153, spec_l1Keep.FS)]
def pts : List PT := [.cs tDisk_, .cs (.sl .bool)]
def FS : FS := mkFS [.sh, .sh] pts (fun x => spec_CrashDisk x.1 x.2.1) fun t => ⟨[.cd tDiskResult_ t], []⟩
theorem ok : FsOk PR 167 FS :=
  fn_ok tbok hmix Proofs.Try.f167 ⟨[2], [], [], 0⟩ .no (G := G) (show GOk PR G from .cons spec_l1Fault.ok (.cons spec_l1Keep.ok .nil)) (L := mkL []) (l := []) hT
    (fun x => by simp only [spec_CrashDisk, mC, mB, mS, mO, mN]; kernel_rfl)
end spec_CrashDisk
def spec_l14Cut (d : Disk_) (p : StepsResult_) (steps : Int) (picks : List Bool) : Option (DiskResult_) :=
  cond (p.1 != 0) (some (p.1, ([], [], ()), ())) ((spec_l1In steps 0 (p.2.1.length : Int)).bind fun r => cond (!r) (some (3, ([], [], ()), ())) (cond (decide ((0 : Int) ≤ steps) && decide (steps ≤ (p.2.1.length : Int))) ((spec_RunSteps d ((p.2.1.take steps.toNat).drop 0)).bind fun r2 => cond (r2.1 != 0) (some (r2.1, (r2.2.1.1, r2.2.1.2.1, r2.2.1.2.2), r2.2.2)) ((spec_CrashDisk (r2.2.1.1, r2.2.1.2.1, r2.2.1.2.2) picks).bind fun r3 => some (r3.1, (r3.2.1.1, r3.2.1.2.1, r3.2.1.2.2), r3.2.2))) (none)))
namespace spec_l14Cut
def G : Gam := mkG [(74, spec_l1In.FS), (60, spec_RunSteps.FS), (167, spec_CrashDisk.FS)]
def pts : List PT := [.cs tDisk_, .cs tStepsResult_, .cs I64, .cs (.sl .bool)]
def FS : FS := mkFS [.sh, .sh, .sh, .sh] pts (fun x => spec_l14Cut x.1 x.2.1 x.2.2.1 x.2.2.2.1) fun t => ⟨[.cd tDiskResult_ t], []⟩
theorem ok : FsOk PR 133 FS :=
  fn_ok tbok hmix Proofs.Try.f133 ⟨[4, 5], [], [], 0⟩ .no (G := G) (show GOk PR G from .cons spec_l1In.ok (.cons spec_RunSteps.ok (.cons spec_CrashDisk.ok .nil))) (L := mkL []) (l := []) hT
    (fun x => by simp only [spec_l14Cut, mC, mB, mS, mO, mN]; kernel_rfl)
end spec_l14Cut
def spec_CrashMount (d : Disk_) (steps : Int) (picks : List Bool) : Option (DiskResult_) :=
  (spec_PlanMount d).bind fun r => (spec_l14Cut d (r.1, r.2.1, r.2.2) steps picks).bind fun r2 => some (r2.1, (r2.2.1.1, r2.2.1.2.1, r2.2.1.2.2), r2.2.2)
namespace spec_CrashMount
def G : Gam := mkG [(55, spec_PlanMount.FS), (133, spec_l14Cut.FS)]
def pts : List PT := [.cs tDisk_, .cs I64, .cs (.sl .bool)]
def FS : FS := mkFS [.sh, .sh, .sh] pts (fun x => spec_CrashMount x.1 x.2.1 x.2.2.1) fun t => ⟨[.cd tDiskResult_ t], []⟩
theorem ok : FsOk PR 68 FS :=
  fn_ok tbok hmix Proofs.Try.f68 ⟨[3], [], [], 0⟩ .no (G := G) (show GOk PR G from .cons spec_PlanMount.ok (.cons spec_l14Cut.ok .nil)) (L := mkL []) (l := []) hT
    (fun x => by simp only [spec_CrashMount, mC, mB, mS, mO, mN]; kernel_rfl)
end spec_CrashMount
def impl_within (n : Int) (low : Int) (high : Int) : Option (Bool) :=
  (some (cond (decide (n ≥ low)) (decide (n ≤ high)) false)).bind fun v => some v
namespace impl_within
def pts : List PT := [.cs I64, .cs I64, .cs I64]
def FS : FS := mkFS [.sh, .sh, .sh] pts (fun x => impl_within x.1 x.2.1 x.2.2.1) fun t => ⟨[.cs .bool t], []⟩
theorem ok : FsOk PR 95 FS :=
  fn_ok tbok hmix Proofs.Try.f95 h0 .no (G := (mkG [])) .nil (L := mkL []) (l := []) hT
    (fun x => by simp only [impl_within, mC, mB, mS, mO, mN]; kernel_rfl)
end impl_within
def impl_wordsFault_c1 (w : Int) : Option (Bool) :=
  (impl_within w 0 65535).bind fun r => some (!r)
namespace impl_wordsFault_c1
def G : Gam := mkG [(95, impl_within.FS)]
def pts : List PT := [.cs I64]
def FS : FS := mkFS [.sh] pts (fun x => impl_wordsFault_c1 x.1) fun t => ⟨[.cs .bool t], []⟩
theorem ok : FsOk PR 170 FS :=
  fn_ok tbok hmix Proofs.Try.f170 h0 .no (G := G) (show GOk PR G from .cons impl_within.ok .nil) (L := mkL []) (l := []) hT
    (fun x => by simp only [impl_wordsFault_c1, mC, mB, mS, mO, mN]; kernel_rfl)
end impl_wordsFault_c1
def slices_IndexFunc_int64_wordsFault_c1_l0.B (s_ : List Int) (f : Unit) (v : Int) (v2 : Int) : Option ((Int) ⊕ (((Int) ⊕ (Unit)))) :=
  cond (decide (v2 < v)) (cond (inB v2 s_.length) ((impl_wordsFault_c1 (s_.getD v2.toNat 0)).bind fun r => cond r (some (.inr (.inl v2))) (some (.inl (w64 (v2 + 1))))) (none)) (some (.inr (.inr ())))
def slices_IndexFunc_int64_wordsFault_c1_l0 (s_ : List Int) (f : Unit) (v : Int) : (Int) → Option (((Int) ⊕ (Unit))) :=
  loopL fun s => slices_IndexFunc_int64_wordsFault_c1_l0.B s_ f v s
def slices_IndexFunc_int64_wordsFault_c1 (s_ : List Int) (f : Unit) : Option (Int) :=
  (slices_IndexFunc_int64_wordsFault_c1_l0 s_ f (s_.length : Int) 0).bind fun o => sel o (fun b => some b) (fun c => some (-1))
namespace slices_IndexFunc_int64_wordsFault_c1
def G : Gam := mkG [(170, impl_wordsFault_c1.FS)]
theorem Gok : GOk PR G := .cons impl_wordsFault_c1.ok .nil
end slices_IndexFunc_int64_wordsFault_c1
namespace slices_IndexFunc_int64_wordsFault_c1_l0
def c := codeAt (bodyOf Proofs.Try.f172) [1, 0, 1, 0, 0]
def sp : SP := ⟨[(0, .cs SI), (1, .clo 170 (.cs .unit)), (7, .cs I64), (8, .cs I64)], []⟩
def out (s_ : List Int) (f : Unit) (v : Int) : FOut (((Int) ⊕ (Unit))) := fun o _ k => sel o (fun b => k (.rt) ⟨[(4, .cs I64 b)], []⟩) (fun c => k (.ex 0) ⟨[], []⟩)
def fr := lfrag sp (fun x => slices_IndexFunc_int64_wordsFault_c1_l0 x.1.1 x.1.2.1 x.1.2.2.1 x.1.2.2.2.1) fun x => out x.1.1 x.1.2.1 x.1.2.2.1
theorem ok : CodeOk PR 19 2 (.loop c) fr :=
  lp_ok tbok hmix h0 .no (G := slices_IndexFunc_int64_wordsFault_c1.G) slices_IndexFunc_int64_wordsFault_c1.Gok (L := mkL []) (l := []) hT [0, 1, 7, 8] [] [(0, ([], []))] ([4], []) (fun x s => B x.1.1 x.1.2.1 x.1.2.2.1 s) (fun x s => ⟨[(0, .cs SI x.1.1), (1, .clo 170 (.cs .unit x.1.2.1)), (7, .cs I64 x.1.2.2.1), (8, .cs I64 s)], []⟩) (fun x => x.1.2.2.2.1)
    (fun x s => by simp only [B, mC, mB, mS, mO, mN]; kernel_rfl)
end slices_IndexFunc_int64_wordsFault_c1_l0
namespace slices_IndexFunc_int64_wordsFault_c1
def pts : List PT := [.cs SI, .clo 170 (.cs .unit)]
def FS : FS := mkFS [.sh, .sh] pts (fun x => slices_IndexFunc_int64_wordsFault_c1 x.1 x.2.1) fun t => ⟨[.cs I64 t], []⟩
theorem ok : FsOk PR 172 FS :=
  fn_ok tbok hmix Proofs.Try.f172 h0 (.R (.L (.R (.one (.fr 0))))) (G := G) Gok (L := mkL [(0, slices_IndexFunc_int64_wordsFault_c1_l0.fr)]) (l := [(0, .loop slices_IndexFunc_int64_wordsFault_c1_l0.c)]) ⟨Lam.cons slices_IndexFunc_int64_wordsFault_c1_l0.ok, trivial⟩
    (fun x => by simp only [slices_IndexFunc_int64_wordsFault_c1, mC, mB, mS, mO, mN]; kernel_rfl)
end slices_IndexFunc_int64_wordsFault_c1
def slices_ContainsFunc_int64_wordsFault_c1 (s_ : List Int) (f : Unit) : Option (Bool) :=
  (slices_IndexFunc_int64_wordsFault_c1 s_ f).bind fun r => some (decide (r ≥ 0))
namespace slices_ContainsFunc_int64_wordsFault_c1
def G : Gam := mkG [(172, slices_IndexFunc_int64_wordsFault_c1.FS)]
def pts : List PT := [.cs SI, .clo 170 (.cs .unit)]
def FS : FS := mkFS [.sh, .sh] pts (fun x => slices_ContainsFunc_int64_wordsFault_c1 x.1 x.2.1) fun t => ⟨[.cs .bool t], []⟩
theorem ok : FsOk PR 149 FS :=
  fn_ok tbok hmix Proofs.Try.f149 h0 .no (G := G) (show GOk PR G from .cons slices_IndexFunc_int64_wordsFault_c1.ok .nil) (L := mkL []) (l := []) hT
    (fun x => by simp only [slices_ContainsFunc_int64_wordsFault_c1, mC, mB, mS, mO, mN]; kernel_rfl)
end slices_ContainsFunc_int64_wordsFault_c1
def impl_wordsFault (words : List Int) : Option (Int) :=
  cond (decide ((words.length : Int) > 64)) (some 2) ((slices_ContainsFunc_int64_wordsFault_c1 words ()).bind fun r => cond r (some 3) (some 0))
namespace impl_wordsFault
def G : Gam := mkG [(149, slices_ContainsFunc_int64_wordsFault_c1.FS)]
def pts : List PT := [.cs SI]
def FS : FS := mkFS [.sh] pts (fun x => impl_wordsFault x.1) fun t => ⟨[.cs I64 t], []⟩
theorem ok : FsOk PR 135 FS :=
  fn_ok tbok hmix Proofs.Try.f135 h0 .no (G := G) (show GOk PR G from .cons slices_ContainsFunc_int64_wordsFault_c1.ok .nil) (L := mkL []) (l := []) hT
    (fun x => by simp only [impl_wordsFault, mC, mB, mS, mO, mN]; kernel_rfl)
end impl_wordsFault
def impl_size_Sint64 (l : List (List Int)) : Option (Int) :=
  some (l.length : Int)
namespace impl_size_Sint64
def pts : List PT := [.cs (.sl SI)]
def FS : FS := mkFS [.sh] pts (fun x => impl_size_Sint64 x.1) fun t => ⟨[.cs I64 t], []⟩
theorem ok : FsOk PR 109 FS :=
  fn_ok tbok hmix Proofs.Try.f109 h0 .no (G := (mkG [])) .nil (L := mkL []) (l := []) hT
    (fun x => by simp only [impl_size_Sint64, mC, mB, mS, mO, mN]; kernel_rfl)
end impl_size_Sint64
def impl_diskFault_l0.B (d : Disk_) (v2 : List (List Int)) (v3 : Int) (v4 : Int) : Option ((Int) ⊕ (((Int) ⊕ (Unit)))) :=
  cond (decide (v4 < v3)) (cond (inB v4 v2.length) ((impl_wordsFault (v2.getD v4.toNat [])).bind fun r => cond (r != 0) (some (.inr (.inl r))) (some (.inl (w64 (v4 + 1))))) (none)) (some (.inr (.inr ())))
def impl_diskFault_l0 (d : Disk_) (v2 : List (List Int)) (v3 : Int) : (Int) → Option (((Int) ⊕ (Unit))) :=
  loopL fun s => impl_diskFault_l0.B d v2 v3 s
def impl_diskFault_l1.B (d : Disk_) (v5 : List Put_) (v6 : Int) (v7 : Int) : Option ((Int) ⊕ (((Int) ⊕ (Unit)))) :=
  cond (decide (v7 < v6)) (cond (inB v7 v5.length) ((impl_size_Sint64 d.1).bind fun r2 => (impl_within ((v5.getD v7.toNat zPut_).1) 0 (w64 (r2 - 1))).bind fun r3 => cond (!r3) (some (.inr (.inl 3))) ((impl_wordsFault (((v5.getD v7.toNat zPut_).2).1)).bind fun r4 => cond (r4 != 0) (some (.inr (.inl r4))) (some (.inl (w64 (v7 + 1)))))) (none)) (some (.inr (.inr ())))
def impl_diskFault_l1 (d : Disk_) (v5 : List Put_) (v6 : Int) : (Int) → Option (((Int) ⊕ (Unit))) :=
  loopL fun s => impl_diskFault_l1.B d v5 v6 s
def impl_diskFault (d : Disk_) : Option (Int) :=
  (some (cond (decide ((d.1.length : Int) > 60)) true (decide ((d.2.1.length : Int) > 200)))).bind fun v => cond v (some 2) ((impl_diskFault_l0 d d.1 (d.1.length : Int) 0).bind fun o => sel o (fun b => some b) (fun c => (impl_diskFault_l1 d d.2.1 (d.2.1.length : Int) 0).bind fun o2 => sel o2 (fun b2 => some b2) (fun c2 => some 0)))
namespace impl_diskFault
def G : Gam := mkG [(135, impl_wordsFault.FS), (109, impl_size_Sint64.FS), (95, impl_within.FS)]
theorem Gok : GOk PR G := .cons impl_wordsFault.ok (.cons impl_size_Sint64.ok (.cons impl_within.ok .nil))
end impl_diskFault
namespace impl_diskFault_l0
def c := codeAt (bodyOf Proofs.Try.f106) [1, 1, 0, 1, 0, 0]
def sp : SP := ⟨[(1, .pt tDisk_), (20, .cs (.sl SI)), (21, .cs I64), (22, .cs I64)], []⟩
def out (d : Disk_) (v2 : List (List Int)) (v3 : Int) : FOut (((Int) ⊕ (Unit))) := fun o _ k => sel o (fun b => k (.rt) ⟨[(2, .cs I64 b)], []⟩) (fun c => k (.ex 0) ⟨[(1, .pt tDisk_ d)], []⟩)
def fr := lfrag sp (fun x => impl_diskFault_l0 x.1.1 x.1.2.1 x.1.2.2.1 x.1.2.2.2.1) fun x => out x.1.1 x.1.2.1 x.1.2.2.1
theorem ok : CodeOk PR 54 1 (.loop c) fr :=
  lp_ok tbok hmix ⟨[1], [], [], 0⟩ .no (G := impl_diskFault.G) impl_diskFault.Gok (L := mkL []) (l := []) hT [1, 20, 21, 22] [] [(0, ([1], []))] ([2], []) (fun x s => B x.1.1 x.1.2.1 x.1.2.2.1 s) (fun x s => ⟨[(1, .pt tDisk_ x.1.1), (20, .cs (.sl SI) x.1.2.1), (21, .cs I64 x.1.2.2.1), (22, .cs I64 s)], []⟩) (fun x => x.1.2.2.2.1)
    (fun x s => by simp only [B, mC, mB, mS, mO, mN]; kernel_rfl)
end impl_diskFault_l0
namespace impl_diskFault_l1
def c := codeAt (bodyOf Proofs.Try.f106) [1, 1, 1, 0, 1, 0, 0]
def sp : SP := ⟨[(1, .pt tDisk_), (33, .cs (.sl tPut_)), (34, .cs I64), (35, .cs I64)], []⟩
def out (d : Disk_) (v5 : List Put_) (v6 : Int) : FOut (((Int) ⊕ (Unit))) := fun o _ k => sel o (fun b => k (.rt) ⟨[(2, .cs I64 b)], []⟩) (fun c => k (.ex 2) ⟨[], []⟩)
def fr := lfrag sp (fun x => impl_diskFault_l1 x.1.1 x.1.2.1 x.1.2.2.1 x.1.2.2.2.1) fun x => out x.1.1 x.1.2.1 x.1.2.2.1
theorem ok : CodeOk PR 54 1 (.loop c) fr :=
  lp_ok tbok hmix ⟨[1], [], [], 0⟩ .no (G := impl_diskFault.G) impl_diskFault.Gok (L := mkL []) (l := []) hT [1, 33, 34, 35] [] [(2, ([], []))] ([2], []) (fun x s => B x.1.1 x.1.2.1 x.1.2.2.1 s) (fun x s => ⟨[(1, .pt tDisk_ x.1.1), (33, .cs (.sl tPut_) x.1.2.1), (34, .cs I64 x.1.2.2.1), (35, .cs I64 s)], []⟩) (fun x => x.1.2.2.2.1)
    (fun x s => by simp only [B, mC, mB, mS, mO, mN]; kernel_rfl)
end impl_diskFault_l1
namespace impl_diskFault
def pts : List PT := [.cs tDisk_]
def FS : FS := mkFS [.sh] pts (fun x => impl_diskFault x.1) fun t => ⟨[.cs I64 t], []⟩
theorem ok : FsOk PR 106 FS :=
  fn_ok tbok hmix Proofs.Try.f106 ⟨[1], [], [], 0⟩ (.R (.R (.two (.R (.one (.fr 0))) (.L (.R (.one (.fr 1))))))) (G := G) Gok (L := mkL [(0, impl_diskFault_l0.fr), (1, impl_diskFault_l1.fr)]) (l := [(0, .loop impl_diskFault_l0.c), (1, .loop impl_diskFault_l1.c)]) ⟨Lam.cons impl_diskFault_l0.ok, Lam.skip rfl (Lam.cons impl_diskFault_l1.ok), trivial⟩
    (fun x => by simp only [impl_diskFault, mC, mB, mS, mO, mN]; kernel_rfl)
end impl_diskFault
noncomputable def impl_Disk_block (d : Disk_) (at_ : Int) : Option (List Int) := blockP d at_
def impl_Disk_block.FS : FS := mkFS [.sh, .sh] [.pt tDiskB, .cl .sh (.int .i64)] (fun x => blockP x.1 x.2.1) fun y => ⟨[.cl .sh (.sl (.int .i64)) y], []⟩
theorem impl_Disk_block.ok : FsOk Go.Proofs.Try.prog 140 impl_Disk_block.FS :=
  block_fs ⟨Go.Proofs.Try.f140, by kernel_rfl, by kernel_rfl, by kernel_rfl⟩ (fun bd od at_ A C nB cB nC cC hd w v h1 h2 h3 h4 h5 h6 => callsIn_wide.1 (Go.Proofs.Bk.block_in Fence.wide 3 trivial trivial trivial rfl (by omega) bd od at_ A C nB cB nC cC hd w v h1 h2 h3 h4 h5 h6))
def impl_isSeq (seq : Int) : Option (Bool) :=
  (impl_within seq 1 60000).bind fun r => some r
namespace impl_isSeq
def G : Gam := mkG [(95, impl_within.FS)]
def pts : List PT := [.cs I64]
def FS : FS := mkFS [.sh] pts (fun x => impl_isSeq x.1) fun t => ⟨[.cs .bool t], []⟩
theorem ok : FsOk PR 86 FS :=
  fn_ok tbok hmix Proofs.Try.f86 h0 .no (G := G) (show GOk PR G from .cons impl_within.ok .nil) (L := mkL []) (l := []) hT
    (fun x => by simp only [impl_isSeq, mC, mB, mS, mO, mN]; kernel_rfl)
end impl_isSeq
def impl_seqOf (d : Disk_) : Option (Int × Int) :=
  (impl_diskFault d).bind fun r => cond (r != 0) (some (0, r)) (cond ((d.1.length : Int) != 47) (some (0, 1)) ((impl_Disk_block d 0).bind fun r2 => cond (cond (!((r2.length : Int) != 2)) (inB 0 r2.length) true) ((some (cond ((r2.length : Int) != 2) true ((r2.getD (0 : Int).toNat 0) != 7))).bind fun v => cond v (some (0, 5)) (cond (inB 1 r2.length) ((impl_isSeq (r2.getD (1 : Int).toNat 0)).bind fun r3 => cond (!r3) (some (0, 5)) (cond (inB 1 r2.length) (some (r2.getD (1 : Int).toNat 0, 0)) (none))) (none))) (none)))
namespace impl_seqOf
def G : Gam := mkG [(106, impl_diskFault.FS), (140, impl_Disk_block.FS), (86, impl_isSeq.FS)]
def pts : List PT := [.cs tDisk_]
def FS : FS := mkFS [.sh] pts (fun x => impl_seqOf x.1) fun t => ⟨[.cs I64 t.1, .cs I64 t.2], []⟩
theorem ok : FsOk PR 100 FS :=
  fn_ok tbok hmix Proofs.Try.f100 ⟨[1], [], [], 0⟩ .no (G := G) (show GOk PR G from .cons impl_diskFault.ok (.cons impl_Disk_block.ok (.cons impl_isSeq.ok .nil))) (L := mkL []) (l := []) hT
    (fun x => by simp only [impl_seqOf, mC, mB, mS, mO, mN]; kernel_rfl)
end impl_seqOf
def impl_size_int64 (l : List Int) : Option (Int) :=
  some (l.length : Int)
namespace impl_size_int64
def pts : List PT := [.cs SI]
def FS : FS := mkFS [.sh] pts (fun x => impl_size_int64 x.1) fun t => ⟨[.cs I64 t], []⟩
theorem ok : FsOk PR 148 FS :=
  fn_ok tbok hmix Proofs.Try.f148 h0 .no (G := (mkG [])) .nil (L := mkL []) (l := []) hT
    (fun x => by simp only [impl_size_int64, mC, mB, mS, mO, mN]; kernel_rfl)
end impl_size_int64
def impl_scanJournal_c1 (at_ : Int) : Option (Bool) :=
  (impl_within at_ 17 26).bind fun r => some (!r)
namespace impl_scanJournal_c1
def G : Gam := mkG [(95, impl_within.FS)]
def pts : List PT := [.cs I64]
def FS : FS := mkFS [.sh] pts (fun x => impl_scanJournal_c1 x.1) fun t => ⟨[.cs .bool t], []⟩
theorem ok : FsOk PR 150 FS :=
  fn_ok tbok hmix Proofs.Try.f150 h0 .no (G := G) (show GOk PR G from .cons impl_within.ok .nil) (L := mkL []) (l := []) hT
    (fun x => by simp only [impl_scanJournal_c1, mC, mB, mS, mO, mN]; kernel_rfl)
end impl_scanJournal_c1
def slices_IndexFunc_int64_scanJournal_c1_l0.B (s_ : List Int) (f : Unit) (v : Int) (v2 : Int) : Option ((Int) ⊕ (((Int) ⊕ (Unit)))) :=
  cond (decide (v2 < v)) (cond (inB v2 s_.length) ((impl_scanJournal_c1 (s_.getD v2.toNat 0)).bind fun r => cond r (some (.inr (.inl v2))) (some (.inl (w64 (v2 + 1))))) (none)) (some (.inr (.inr ())))
def slices_IndexFunc_int64_scanJournal_c1_l0 (s_ : List Int) (f : Unit) (v : Int) : (Int) → Option (((Int) ⊕ (Unit))) :=
  loopL fun s => slices_IndexFunc_int64_scanJournal_c1_l0.B s_ f v s
def slices_IndexFunc_int64_scanJournal_c1 (s_ : List Int) (f : Unit) : Option (Int) :=
  (slices_IndexFunc_int64_scanJournal_c1_l0 s_ f (s_.length : Int) 0).bind fun o => sel o (fun b => some b) (fun c => some (-1))
namespace slices_IndexFunc_int64_scanJournal_c1
def G : Gam := mkG [(150, impl_scanJournal_c1.FS)]
theorem Gok : GOk PR G := .cons impl_scanJournal_c1.ok .nil
end slices_IndexFunc_int64_scanJournal_c1
namespace slices_IndexFunc_int64_scanJournal_c1_l0
def c := codeAt (bodyOf Proofs.Try.f172) [1, 0, 1, 0, 0]
def sp : SP := ⟨[(0, .cs SI), (1, .clo 150 (.cs .unit)), (7, .cs I64), (8, .cs I64)], []⟩
def out (s_ : List Int) (f : Unit) (v : Int) : FOut (((Int) ⊕ (Unit))) := fun o _ k => sel o (fun b => k (.rt) ⟨[(4, .cs I64 b)], []⟩) (fun c => k (.ex 0) ⟨[], []⟩)
def fr := lfrag sp (fun x => slices_IndexFunc_int64_scanJournal_c1_l0 x.1.1 x.1.2.1 x.1.2.2.1 x.1.2.2.2.1) fun x => out x.1.1 x.1.2.1 x.1.2.2.1
theorem ok : CodeOk PR 19 2 (.loop c) fr :=
  lp_ok tbok hmix h0 .no (G := slices_IndexFunc_int64_scanJournal_c1.G) slices_IndexFunc_int64_scanJournal_c1.Gok (L := mkL []) (l := []) hT [0, 1, 7, 8] [] [(0, ([], []))] ([4], []) (fun x s => B x.1.1 x.1.2.1 x.1.2.2.1 s) (fun x s => ⟨[(0, .cs SI x.1.1), (1, .clo 150 (.cs .unit x.1.2.1)), (7, .cs I64 x.1.2.2.1), (8, .cs I64 s)], []⟩) (fun x => x.1.2.2.2.1)
    (fun x s => by simp only [B, mC, mB, mS, mO, mN]; kernel_rfl)
end slices_IndexFunc_int64_scanJournal_c1_l0
namespace slices_IndexFunc_int64_scanJournal_c1
def pts : List PT := [.cs SI, .clo 150 (.cs .unit)]
def FS : FS := mkFS [.sh, .sh] pts (fun x => slices_IndexFunc_int64_scanJournal_c1 x.1 x.2.1) fun t => ⟨[.cs I64 t], []⟩
theorem ok : FsOk PR 172 FS :=
  fn_ok tbok hmix Proofs.Try.f172 h0 (.R (.L (.R (.one (.fr 0))))) (G := G) Gok (L := mkL [(0, slices_IndexFunc_int64_scanJournal_c1_l0.fr)]) (l := [(0, .loop slices_IndexFunc_int64_scanJournal_c1_l0.c)]) ⟨Lam.cons slices_IndexFunc_int64_scanJournal_c1_l0.ok, trivial⟩
    (fun x => by simp only [slices_IndexFunc_int64_scanJournal_c1, mC, mB, mS, mO, mN]; kernel_rfl)
end slices_IndexFunc_int64_scanJournal_c1
def slices_ContainsFunc_int64_scanJournal_c1 (s_ : List Int) (f : Unit) : Option (Bool) :=
  (slices_IndexFunc_int64_scanJournal_c1 s_ f).bind fun r => some (decide (r ≥ 0))
namespace slices_ContainsFunc_int64_scanJournal_c1
def G : Gam := mkG [(172, slices_IndexFunc_int64_scanJournal_c1.FS)]
def pts : List PT := [.cs SI, .clo 150 (.cs .unit)]
def FS : FS := mkFS [.sh, .sh] pts (fun x => slices_ContainsFunc_int64_scanJournal_c1 x.1 x.2.1) fun t => ⟨[.cs .bool t], []⟩
theorem ok : FsOk PR 149 FS :=
  fn_ok tbok hmix Proofs.Try.f149 h0 .no (G := G) (show GOk PR G from .cons slices_IndexFunc_int64_scanJournal_c1.ok .nil) (L := mkL []) (l := []) hT
    (fun x => by simp only [slices_ContainsFunc_int64_scanJournal_c1, mC, mB, mS, mO, mN]; kernel_rfl)
end slices_ContainsFunc_int64_scanJournal_c1
def slices_Equal_int64_l0.B (s1 : List Int) (s2 : List Int) (v : Int) (v2 : Int) : Option ((Int) ⊕ (((Bool) ⊕ (Unit)))) :=
  cond (decide (v2 < v)) (cond (inB v2 s1.length) (cond (inB v2 s2.length) (cond ((s1.getD v2.toNat 0) != (s2.getD v2.toNat 0)) (some (.inr (.inl false))) (some (.inl (w64 (v2 + 1))))) (none)) (none)) (some (.inr (.inr ())))
def slices_Equal_int64_l0 (s1 : List Int) (s2 : List Int) (v : Int) : (Int) → Option (((Bool) ⊕ (Unit))) :=
  loopL fun s => slices_Equal_int64_l0.B s1 s2 v s
def slices_Equal_int64 (s1 : List Int) (s2 : List Int) : Option (Bool) :=
  cond ((s1.length : Int) != (s2.length : Int)) (some false) ((slices_Equal_int64_l0 s1 s2 (s1.length : Int) 0).bind fun o => sel o (fun b => some b) (fun c => some true))
namespace slices_Equal_int64_l0
def c := codeAt (bodyOf Proofs.Try.f146) [1, 1, 0, 1, 0, 0]
def sp : SP := ⟨[(0, .cs SI), (1, .cs SI), (12, .cs I64), (13, .cs I64)], []⟩
def out (s1 : List Int) (s2 : List Int) (v : Int) : FOut (((Bool) ⊕ (Unit))) := fun o _ k => sel o (fun b => k (.rt) ⟨[(4, .cs .bool b)], []⟩) (fun c => k (.ex 0) ⟨[], []⟩)
def fr := lfrag sp (fun x => slices_Equal_int64_l0 x.1.1 x.1.2.1 x.1.2.2.1 x.1.2.2.2.1) fun x => out x.1.1 x.1.2.1 x.1.2.2.1
theorem ok : CodeOk PR 26 2 (.loop c) fr :=
  lp_ok tbok hmix h0 .no (G := (mkG [])) .nil (L := mkL []) (l := []) hT [0, 1, 12, 13] [] [(0, ([], []))] ([4], []) (fun x s => B x.1.1 x.1.2.1 x.1.2.2.1 s) (fun x s => ⟨[(0, .cs SI x.1.1), (1, .cs SI x.1.2.1), (12, .cs I64 x.1.2.2.1), (13, .cs I64 s)], []⟩) (fun x => x.1.2.2.2.1)
    (fun x s => by simp only [B, mC, mB, mS, mO, mN]; kernel_rfl)
end slices_Equal_int64_l0
namespace slices_Equal_int64
def pts : List PT := [.cs SI, .cs SI]
def FS : FS := mkFS [.sh, .sh] pts (fun x => slices_Equal_int64 x.1 x.2.1) fun t => ⟨[.cs .bool t], []⟩
theorem ok : FsOk PR 146 FS :=
  fn_ok tbok hmix Proofs.Try.f146 h0 (.R (.R (.L (.R (.one (.fr 0)))))) (G := (mkG [])) .nil (L := mkL [(0, slices_Equal_int64_l0.fr)]) (l := [(0, .loop slices_Equal_int64_l0.c)]) ⟨Lam.cons slices_Equal_int64_l0.ok, trivial⟩
    (fun x => by simp only [slices_Equal_int64, mC, mB, mS, mO, mN]; kernel_rfl)
end slices_Equal_int64
def impl_scanJournal_l0.B (d : Disk_) (v4 : List Int) (v3 : Int) (v5 : Int) (puts_ : List Put_) : Option ((Int × List Put_) ⊕ (List Put_)) :=
  cond (decide (v5 < v3)) (cond (inB v5 v4.length) ((impl_Disk_block d (w64 ((2 : Int) + v5))).bind fun r7 => cond (decide ((puts_ ++ ([(v4.getD v5.toNat 0, r7, ())])).length ≤ 2147483648)) (some (.inl (w64 (v5 + 1), puts_ ++ ([(v4.getD v5.toNat 0, r7, ())])))) (none)) (none)) (some (.inr puts_))
def impl_scanJournal_l0 (d : Disk_) (v4 : List Int) (v3 : Int) : (Int × List Put_) → Option (List Put_) :=
  loopL fun s => impl_scanJournal_l0.B d v4 v3 s.1 s.2
def impl_scanJournal (d : Disk_) (seq : Int) : Option ((List Put_) × Bool) :=
  (impl_Disk_block d 1).bind fun r => cond (cond (!(decide ((r.length : Int) < 3))) (inB 0 r.length) true) ((some (cond (decide ((r.length : Int) < 3)) true ((r.getD (0 : Int).toNat 0) != 1))).bind fun v => cond (cond (!v) (inB 1 r.length) true) (cond (cond v true ((r.getD (1 : Int).toNat 0) != seq)) (some ([], false)) (cond (inB 2 r.length) ((impl_within (r.getD (2 : Int).toNat 0) 0 10).bind fun r2 => cond (!r2) (some ([], false)) ((impl_size_int64 r).bind fun r3 => cond (inB 2 r.length) ((some (r3 != (w64 ((3 : Int) + (r.getD (2 : Int).toNat 0))))).bind fun v2 => cond v2 (some ([], false)) (cond (inB 2 r.length) (cond (decide ((0 : Int) ≤ (3 : Int)) && decide ((3 : Int) ≤ (r.length : Int))) ((slices_ContainsFunc_int64_scanJournal_c1 ((r.take r.length).drop ((3 : Int).toNat)) ()).bind fun r4 => cond r4 (some ([], false)) ((impl_Disk_block d (w64 ((2 : Int) + (r.getD (2 : Int).toNat 0)))).bind fun r5 => (slices_Equal_int64 r5 ([2, seq, r.getD (2 : Int).toNat 0])).bind fun r6 => cond (!r6) (some ([], false)) (cond (decide ((0 : Int) ≤ (3 : Int)) && decide ((3 : Int) ≤ (r.length : Int))) ((some (((r.take r.length).drop ((3 : Int).toNat)).length : Int)).bind fun v3 => (impl_scanJournal_l0 d ((r.take r.length).drop ((3 : Int).toNat)) v3 (0, [])).bind fun o => some (o, true)) (none)))) (none)) (none))) (none))) (none))) (none)) (none)
namespace impl_scanJournal
def G : Gam := mkG [(140, impl_Disk_block.FS), (95, impl_within.FS), (148, impl_size_int64.FS), (149, slices_ContainsFunc_int64_scanJournal_c1.FS), (146, slices_Equal_int64.FS)]
theorem Gok : GOk PR G := .cons impl_Disk_block.ok (.cons impl_within.ok (.cons impl_size_int64.ok (.cons slices_ContainsFunc_int64_scanJournal_c1.ok (.cons slices_Equal_int64.ok .nil))))
end impl_scanJournal
namespace impl_scanJournal_l0
def c := codeAt (bodyOf Proofs.Try.f117) [1, 1, 1, 1, 1, 1, 0, 1, 0, 0]
def sp : SP := ⟨[(2, .pt tDisk_), (8, .seg 8 []), (61, .cs SI), (62, .cs I64), (63, .cs I64)], [(8, .reg, .cl .top (.sl tPut_))]⟩
def out (d : Disk_) (v4 : List Int) (v3 : Int) : FOut (List Put_) := fun b _ k => k (.ex 0) ⟨[(8, .seg 8 [])], [(8, some ⟨.reg, .cl .top (.sl tPut_) b⟩)]⟩
def fr := lfrag sp (fun x => impl_scanJournal_l0 x.1.1 x.1.2.2.1 x.1.2.2.2.1 (x.1.2.2.2.2.1, x.2.1)) fun x => out x.1.1 x.1.2.2.1 x.1.2.2.2.1
theorem ok : CodeOk PR 78 2 (.loop c) fr :=
  lp_ok tbok hmix ⟨[2], [8], [], 1⟩ .no (G := impl_scanJournal.G) impl_scanJournal.Gok (L := mkL []) (l := []) hT [2, 8, 61, 62, 63] [8] [(0, ([8], [8]))] ([], []) (fun x s => B x.1.1 x.1.2.2.1 x.1.2.2.2.1 s.1 s.2) (fun x s => ⟨[(2, .pt tDisk_ x.1.1), (8, .seg 8 []), (61, .cs SI x.1.2.2.1), (62, .cs I64 x.1.2.2.2.1), (63, .cs I64 s.1)], [(8, some ⟨.reg, .cl .top (.sl tPut_) s.2⟩)]⟩) (fun x => (x.1.2.2.2.2.1, x.2.1))
    (fun x s => by simp only [B, mC, mB, mS, mO, mN]; kernel_rfl)
end impl_scanJournal_l0
namespace impl_scanJournal
def pts : List PT := [.cs tDisk_, .cs I64]
def FS : FS := mkFS [.sh, .sh] pts (fun x => impl_scanJournal x.1 x.2.1) fun t => ⟨[.cl .top (.sl tPut_) t.1, .cs .bool t.2], []⟩
theorem ok : FsOk PR 117 FS :=
  fn_ok tbok hmix Proofs.Try.f117 ⟨[2], [8], [], 1⟩ (.R (.R (.R (.R (.R (.R (.L (.R (.one (.fr 0)))))))))) (G := G) Gok (L := mkL [(0, impl_scanJournal_l0.fr)]) (l := [(0, .loop impl_scanJournal_l0.c)]) ⟨Lam.cons impl_scanJournal_l0.ok, trivial⟩
    (fun x => by simp only [impl_scanJournal, mC, mB, mS, mO, mN]; kernel_rfl)
end impl_scanJournal
noncomputable def impl_putSteps (l : List Put_) : Option (List Step_) := putStepsP l
noncomputable def impl_putSteps.FS : FS := mkFS [.sh] [.cl .sh (.sl tPutB)] (fun x => putStepsP x.1) fun y => ⟨[.cl .deep (.sl tStepB) y], []⟩
theorem impl_putSteps.okA : FsOk Go.Proofs.Try.prog 144 (mkFS [.sh] [.cl .sh (.sl tPutB)] (fun x => cloneP x.1) fun y => ⟨[.cl .top (.sl tPutB) y], []⟩) :=
  clone_fs (hn := ⟨[], [], [], 1⟩) tbok hmix (fn := Go.Proofs.Try.f144) (by kernel_rfl) (body_some (by kernel_rfl)) (by kernel_rfl) (by kernel_rfl) .top tPut_ 41 41 141 (by kernel_rfl) (by kernel_rfl) (by kernel_rfl) (by kernel_rfl) (by kernel_rfl) (by kernel_rfl) (by kernel_rfl) (by kernel_rfl) (fun xs => by kernel_rfl) (fun xs => by kernel_rfl) (fun xs => by kernel_rfl) (fun xs => by kernel_rfl)
theorem impl_putSteps.okB : FsOk Go.Proofs.Try.prog 145 (mkFS [.sh] [.cl .sh (.sl (.int .i64))] (fun x => cloneP x.1) fun y => ⟨[.cl .deep (.sl (.int .i64)) y], []⟩) :=
  clone_fs (hn := ⟨[], [], [], 0⟩) tbok hmix (fn := Go.Proofs.Try.f145) (by kernel_rfl) (body_some (by kernel_rfl)) (by kernel_rfl) (by kernel_rfl) .deep (.int .i64) 31 31 2 (by kernel_rfl) (by kernel_rfl) (by kernel_rfl) (by kernel_rfl) (by kernel_rfl) (by kernel_rfl) (by kernel_rfl) (by kernel_rfl) (fun xs => by kernel_rfl) (fun xs => by kernel_rfl) (fun xs => by kernel_rfl) (fun xs => by kernel_rfl)
theorem impl_putSteps.ok : FsOk Go.Proofs.Try.prog 151 impl_putSteps.FS :=
  putSteps_fs ⟨Go.Proofs.Try.f151, by kernel_rfl, by kernel_rfl, by kernel_rfl⟩ (fun w A c l hr hl hls => callsIn_wide.1 (Go.Proofs.Ps.putSteps_in Fence.wide 1 trivial trivial (Nat.le_refl _) rfl (fun m w A c l hr hl hls => callsIn_wide.2 (callsIn_wide.1 (Go.Proofs.Cp.clonePuts_in Fence.wide 1 trivial trivial trivial (Nat.le_refl _) rfl (fun m w A c xs hr hl => callsIn_wide.2 (clone_calls impl_putSteps.okA (by decide) rd_puts w A c xs hr hl)) (fun m w A c xs hr hl => callsIn_wide.2 (clone_calls impl_putSteps.okB (by decide) rd_ints w A c xs hr hl)) w A c l hr hl hls))) (by kernel_rfl) w A c l hr hl hls))
def impl_superWords (seq : Int) : Option (List Int) :=
  some ([7, seq])
namespace impl_superWords
def pts : List PT := [.cs I64]
def FS : FS := mkFS [.sh] pts (fun x => impl_superWords x.1) fun t => ⟨[.cd SI t], []⟩
theorem ok : FsOk PR 87 FS :=
  fn_ok tbok hmix Proofs.Try.f87 h0 .no (G := (mkG [])) .nil (L := mkL []) (l := []) hT
    (fun x => by simp only [impl_superWords, mC, mB, mS, mO, mN]; kernel_rfl)
end impl_superWords
def impl_planMount (d : Disk_) (seq : Int) : Option (List Step_) :=
  (impl_scanJournal d seq).bind fun r => cond (cond (!r.2) true (seq == 60000)) (some []) ((impl_putSteps r.1).bind fun r2 => (impl_superWords (w64 (seq + 1))).bind fun r3 => (some (r2 ++ ([(true, 0, [], ()), (false, 0, r3, ()), (true, 0, [], ())]))).bind fun v => cond (decide (v.length ≤ 2147483648)) (some v) (none))
namespace impl_planMount
def G : Gam := mkG [(117, impl_scanJournal.FS), (151, impl_putSteps.FS), (87, impl_superWords.FS)]
def pts : List PT := [.cs tDisk_, .cs I64]
def FS : FS := mkFS [.sh, .sh] pts (fun x => impl_planMount x.1 x.2.1) fun t => ⟨[.cd (.sl tStep_) t], []⟩
theorem ok : FsOk PR 120 FS :=
  fn_ok tbok hmix Proofs.Try.f120 ⟨[2], [], [7], 0⟩ .no (G := G) (show GOk PR G from .cons impl_scanJournal.ok (.cons impl_putSteps.ok (.cons impl_superWords.ok .nil))) (L := mkL []) (l := []) hT
    (fun x => by simp only [impl_planMount, mC, mB, mS, mO, mN]; kernel_rfl)
end impl_planMount
def impl_size_Step (l : List Step_) : Option (Int) :=
  some (l.length : Int)
namespace impl_size_Step
def pts : List PT := [.cs (.sl tStep_)]
def FS : FS := mkFS [.sh] pts (fun x => impl_size_Step x.1) fun t => ⟨[.cs I64 t], []⟩
theorem ok : FsOk PR 168 FS :=
  fn_ok tbok hmix Proofs.Try.f168 h0 .no (G := (mkG [])) .nil (L := mkL []) (l := []) hT
    (fun x => by simp only [impl_size_Step, mC, mB, mS, mO, mN]; kernel_rfl)
end impl_size_Step
noncomputable def slices_Clone_int64 (s : List Int) : Option (List Int) := cloneP s
noncomputable def slices_Clone_int64.FS : FS := mkFS [.sh] [.cl .sh (.sl (.int .i64))] (fun x => slices_Clone_int64 x.1) fun y => ⟨[.cl .deep (.sl (.int .i64)) y], []⟩
theorem slices_Clone_int64.ok : FsOk Go.Proofs.Try.prog 145 slices_Clone_int64.FS :=
  clone_fs (hn := ⟨[], [], [], 0⟩) tbok hmix (fn := Go.Proofs.Try.f145) (by kernel_rfl) (body_some (by kernel_rfl)) (by kernel_rfl) (by kernel_rfl) .deep (.int .i64) 31 31 2 (by kernel_rfl) (by kernel_rfl) (by kernel_rfl) (by kernel_rfl) (by kernel_rfl) (by kernel_rfl) (by kernel_rfl) (by kernel_rfl) (fun xs => by kernel_rfl) (fun xs => by kernel_rfl) (fun xs => by kernel_rfl) (fun xs => by kernel_rfl)
noncomputable def impl_clonePuts (l : List Put_) : Option (List Put_) := clonePutsP l
noncomputable def impl_clonePuts.FS : FS := mkFS [.sh] [.cl .sh (.sl tPutB)] (fun x => clonePutsP x.1) fun y => ⟨[.cl .deep (.sl tPutB) y], []⟩
theorem impl_clonePuts.okA : FsOk Go.Proofs.Try.prog 144 (mkFS [.sh] [.cl .sh (.sl tPutB)] (fun x => cloneP x.1) fun y => ⟨[.cl .top (.sl tPutB) y], []⟩) :=
  clone_fs (hn := ⟨[], [], [], 1⟩) tbok hmix (fn := Go.Proofs.Try.f144) (by kernel_rfl) (body_some (by kernel_rfl)) (by kernel_rfl) (by kernel_rfl) .top tPut_ 41 41 141 (by kernel_rfl) (by kernel_rfl) (by kernel_rfl) (by kernel_rfl) (by kernel_rfl) (by kernel_rfl) (by kernel_rfl) (by kernel_rfl) (fun xs => by kernel_rfl) (fun xs => by kernel_rfl) (fun xs => by kernel_rfl) (fun xs => by kernel_rfl)
theorem impl_clonePuts.okB : FsOk Go.Proofs.Try.prog 145 (mkFS [.sh] [.cl .sh (.sl (.int .i64))] (fun x => cloneP x.1) fun y => ⟨[.cl .deep (.sl (.int .i64)) y], []⟩) :=
  clone_fs (hn := ⟨[], [], [], 0⟩) tbok hmix (fn := Go.Proofs.Try.f145) (by kernel_rfl) (body_some (by kernel_rfl)) (by kernel_rfl) (by kernel_rfl) .deep (.int .i64) 31 31 2 (by kernel_rfl) (by kernel_rfl) (by kernel_rfl) (by kernel_rfl) (by kernel_rfl) (by kernel_rfl) (by kernel_rfl) (by kernel_rfl) (fun xs => by kernel_rfl) (fun xs => by kernel_rfl) (fun xs => by kernel_rfl) (fun xs => by kernel_rfl)
theorem impl_clonePuts.ok : FsOk Go.Proofs.Try.prog 110 impl_clonePuts.FS :=
  clonePuts_fs ⟨Go.Proofs.Try.f110, by kernel_rfl, by kernel_rfl, by kernel_rfl⟩ (fun w A c l hr hl hls => callsIn_wide.1 (Go.Proofs.Cp.clonePuts_in Fence.wide 1 trivial trivial trivial (Nat.le_refl _) rfl (fun m w A c xs hr hl => callsIn_wide.2 (clone_calls impl_clonePuts.okA (by decide) rd_puts w A c xs hr hl)) (fun m w A c xs hr hl => callsIn_wide.2 (clone_calls impl_clonePuts.okB (by decide) rd_ints w A c xs hr hl)) w A c l hr hl hls))
def impl_cloneDisk_l0.B (d : Disk_) (v : List (List Int)) (v2 : Int) (v4 : Disk_) (v3 : Int) (out_ : Disk_) : Option ((Int × Disk_) ⊕ (Disk_)) :=
  cond (decide (v3 < v2)) (cond (inB v3 v.length) ((slices_Clone_int64 (v.getD v3.toNat [])).bind fun r => cond (decide ((out_.1 ++ ([r])).length ≤ 2147483648)) (some (.inl (w64 (v3 + 1), (out_.1 ++ ([r]), out_.2)))) (none)) (none)) (some (.inr out_))
def impl_cloneDisk_l0 (d : Disk_) (v : List (List Int)) (v2 : Int) (v4 : Disk_) : (Int × Disk_) → Option (Disk_) :=
  loopL fun s => impl_cloneDisk_l0.B d v v2 v4 s.1 s.2
def impl_cloneDisk (d : Disk_) : Option (Disk_) :=
  (impl_cloneDisk_l0 d d.1 (d.1.length : Int) ([], [], ()) (0, ([], [], ()))).bind fun o => (impl_clonePuts d.2.1).bind fun r2 => some (o.1, r2, ())
namespace impl_cloneDisk
def G : Gam := mkG [(145, slices_Clone_int64.FS), (110, impl_clonePuts.FS)]
theorem Gok : GOk PR G := .cons slices_Clone_int64.ok (.cons impl_clonePuts.ok .nil)
end impl_cloneDisk
namespace impl_cloneDisk_l0
def c := codeAt (bodyOf Proofs.Try.f123) [1, 1, 0, 1, 0, 0]
def sp : SP := ⟨[(1, .pt tDisk_), (2, .loc 2 []), (3, .loc 3 []), (7, .cs (.sl SI)), (8, .cs I64), (9, .cs I64)], [(2, .mem, .cd tDisk_), (3, .mem, .cd tDisk_)]⟩
def out (d : Disk_) (v : List (List Int)) (v2 : Int) (v4 : Disk_) : FOut (Disk_) := fun b _ k => k (.ex 0) ⟨[(1, .pt tDisk_ d), (2, .loc 2 []), (3, .loc 3 [])], [(2, some ⟨.mem, .cd tDisk_ v4⟩), (3, some ⟨.mem, .cd tDisk_ b⟩)]⟩
def fr := lfrag sp (fun x => impl_cloneDisk_l0 x.1.1 x.1.2.2.2.1 x.1.2.2.2.2.1 x.2.1 (x.1.2.2.2.2.2.1, x.2.2.1)) fun x => out x.1.1 x.1.2.2.2.1 x.1.2.2.2.2.1 x.2.1
theorem ok : CodeOk PR 27 1 (.loop c) fr :=
  lp_ok tbok hmix ⟨[1], [], [], 0⟩ .no (G := impl_cloneDisk.G) impl_cloneDisk.Gok (L := mkL []) (l := []) hT [1, 2, 3, 7, 8, 9] [2, 3] [(0, ([1, 2, 3], [2, 3]))] ([], []) (fun x s => B x.1.1 x.1.2.2.2.1 x.1.2.2.2.2.1 x.2.1 s.1 s.2) (fun x s => ⟨[(1, .pt tDisk_ x.1.1), (2, .loc 2 []), (3, .loc 3 []), (7, .cs (.sl SI) x.1.2.2.2.1), (8, .cs I64 x.1.2.2.2.2.1), (9, .cs I64 s.1)], [(2, some ⟨.mem, .cd tDisk_ x.2.1⟩), (3, some ⟨.mem, .cd tDisk_ s.2⟩)]⟩) (fun x => (x.1.2.2.2.2.2.1, x.2.2.1))
    (fun x s => by simp only [B, mC, mB, mS, mO, mN]; kernel_rfl)
end impl_cloneDisk_l0
namespace impl_cloneDisk
def pts : List PT := [.cs tDisk_]
def FS : FS := mkFS [.sh] pts (fun x => impl_cloneDisk x.1) fun t => ⟨[.cd tDisk_ t], []⟩
theorem ok : FsOk PR 123 FS :=
  fn_ok tbok hmix Proofs.Try.f123 ⟨[1], [], [], 0⟩ (.R (.R (.L (.R (.one (.fr 0)))))) (G := G) Gok (L := mkL [(0, impl_cloneDisk_l0.fr)]) (l := [(0, .loop impl_cloneDisk_l0.c)]) ⟨Lam.cons impl_cloneDisk_l0.ok, trivial⟩
    (fun x => by simp only [impl_cloneDisk, mC, mB, mS, mO, mN]; kernel_rfl)
end impl_cloneDisk
noncomputable def impl_Disk_flush (d : Disk_) : Option (Disk_) := flushP d
noncomputable def impl_Disk_flush.FS : FS := mkFS [.mu] [.op (.cl .deep tDiskB)] (fun x => flushP x.1) fun y => ⟨[], [.op (.cl .deep tDiskB y)]⟩
theorem impl_Disk_flush.ok : FsOk Go.Proofs.Try.prog 155 impl_Disk_flush.FS :=
  flush_fs ⟨Go.Proofs.Try.f155, by kernel_rfl, by kernel_rfl, by kernel_rfl⟩ (fun w A C bd od bB oB bC oC nB cB nC cC at_ hc hb h1 h2 h3 h4 h5 h6 h7 h8 h9 => Go.Proofs.Fl.flush_in w A C bd od bB oB bC oC nB cB nC cC at_ hc hb h1 h2 h3 h4 h5 h6 h7 h8 h9)
def impl_Disk_put (d : Disk_) (at_ : Int) (words : List Int) : Option (Disk_) :=
  (slices_Clone_int64 words).bind fun r => cond (decide ((d.2.1 ++ ([(at_, r, ())])).length ≤ 2147483648)) (some (d.1, d.2.1 ++ ([(at_, r, ())]), d.2.2)) (none)
namespace impl_Disk_put
def G : Gam := mkG [(145, slices_Clone_int64.FS)]
def pts : List PT := [.op (.cd tDisk_), .cs I64, .cs SI]
def FS : FS := mkFS [.mu, .sh, .sh] pts (fun x => impl_Disk_put x.1 x.2.1 x.2.2.1) fun t => ⟨[], [.op (.cd tDisk_ t)]⟩
theorem ok : FsOk PR 156 FS :=
  fn_ok tbok hmix Proofs.Try.f156 h0 .no (G := G) (show GOk PR G from .cons slices_Clone_int64.ok .nil) (L := mkL []) (l := []) hT
    (fun x => by simp only [impl_Disk_put, mC, mB, mS, mO, mN]; kernel_rfl)
end impl_Disk_put
def impl_Disk_run_l0.B (list : List Step_) (v : Int) (v2 : Int) (d_ : Disk_) : Option ((Int × Disk_) ⊕ (((Int × Disk_) ⊕ (Disk_)))) :=
  cond (decide (v2 < v)) (cond (inB v2 list.length) (cond ((list.getD v2.toNat zStep_).1) ((impl_Disk_flush d_).bind fun r => some (.inl (w64 (v2 + 1), r))) (cond ((d_.2.1.length : Int) == 200) (some (.inr (.inl (2, d_)))) ((impl_Disk_put d_ (((list.getD v2.toNat zStep_).2).1) ((((list.getD v2.toNat zStep_).2).2).1)).bind fun r2 => some (.inl (w64 (v2 + 1), r2))))) (none)) (some (.inr (.inr d_)))
def impl_Disk_run_l0 (list : List Step_) (v : Int) : (Int × Disk_) → Option (((Int × Disk_) ⊕ (Disk_))) :=
  loopL fun s => impl_Disk_run_l0.B list v s.1 s.2
def impl_Disk_run (d : Disk_) (list : List Step_) : Option (Int × Disk_) :=
  (impl_Disk_run_l0 list (list.length : Int) (0, d)).bind fun o => sel o (fun b => some (b.1, b.2)) (fun c => some (0, c))
namespace impl_Disk_run
def G : Gam := mkG [(155, impl_Disk_flush.FS), (156, impl_Disk_put.FS)]
theorem Gok : GOk PR G := .cons impl_Disk_flush.ok (.cons impl_Disk_put.ok .nil)
end impl_Disk_run
namespace impl_Disk_run_l0
def c := codeAt (bodyOf Proofs.Try.f124) [1, 0, 1, 0, 0]
def sp : SP := ⟨[(0, .loc 0 []), (7, .cs (.sl tStep_)), (8, .cs I64), (9, .cs I64)], [(0, .mem, .cd tDisk_)]⟩
def out (list : List Step_) (v : Int) : FOut (((Int × Disk_) ⊕ (Disk_))) := fun o _ k => sel o (fun b => k (.rt) ⟨[(4, .cs I64 b.1)], [(0, some ⟨.mem, .cd tDisk_ b.2⟩)]⟩) (fun c => k (.ex 0) ⟨[], [(0, some ⟨.mem, .cd tDisk_ c⟩)]⟩)
def fr := lfrag sp (fun x => impl_Disk_run_l0 x.1.2.1 x.1.2.2.1 (x.1.2.2.2.1, x.2.1)) fun x => out x.1.2.1 x.1.2.2.1
theorem ok : CodeOk PR 32 2 (.loop c) fr :=
  lp_ok tbok hmix h0 .no (G := impl_Disk_run.G) impl_Disk_run.Gok (L := mkL []) (l := []) hT [0, 7, 8, 9] [0] [(0, ([], [0]))] ([4], [0]) (fun x s => B x.1.2.1 x.1.2.2.1 s.1 s.2) (fun x s => ⟨[(0, .loc 0 []), (7, .cs (.sl tStep_) x.1.2.1), (8, .cs I64 x.1.2.2.1), (9, .cs I64 s.1)], [(0, some ⟨.mem, .cd tDisk_ s.2⟩)]⟩) (fun x => (x.1.2.2.2.1, x.2.1))
    (fun x s => by simp only [B, mC, mB, mS, mO, mN]; kernel_rfl)
end impl_Disk_run_l0
namespace impl_Disk_run
def pts : List PT := [.op (.cd tDisk_), .cs (.sl tStep_)]
def FS : FS := mkFS [.mu, .sh] pts (fun x => impl_Disk_run x.1 x.2.1) fun t => ⟨[.cs I64 t.1], [.op (.cd tDisk_ t.2)]⟩
theorem ok : FsOk PR 124 FS :=
  fn_ok tbok hmix Proofs.Try.f124 h0 (.R (.L (.R (.one (.fr 0))))) (G := G) Gok (L := mkL [(0, impl_Disk_run_l0.fr)]) (l := [(0, .loop impl_Disk_run_l0.c)]) ⟨Lam.cons impl_Disk_run_l0.ok, trivial⟩
    (fun x => by simp only [impl_Disk_run, mC, mB, mS, mO, mN]; kernel_rfl)
end impl_Disk_run
noncomputable def impl_Disk_crash (d : Disk_) (picks : List Bool) : Option (Disk_) := crashP d picks
noncomputable def impl_Disk_crash.FS : FS := mkFS [.mu, .sh] [.op (.cl .deep tDiskB), .cl .sh (.sl .bool)] (fun x => crashP x.1 x.2.1) fun y => ⟨[], [.op (.cl .deep tDiskB y)]⟩
theorem impl_Disk_crash.ok : FsOk Go.Proofs.Try.prog 169 impl_Disk_crash.FS :=
  crash_fs ⟨Go.Proofs.Try.f169, by kernel_rfl, by kernel_rfl, by kernel_rfl⟩ (fun w A C bd od bB oB bC oC nB cB nC cC at_ hc hb Pk nP cP bP oP pick h1 h2 h3 h4 h5 h6 h7 h8 h9 h10 h11 => Go.Proofs.Cr.crash_in w A C bd od bB oB bC oC nB cB nC cC at_ hc hb Pk nP cP bP oP pick h1 h2 h3 h4 h5 h6 h7 h8 h9 h10 h11)
def impl_crashSteps (d : Disk_) (list : List Step_) (steps : Int) (picks : List Bool) : Option (DiskResult_) :=
  (impl_size_Step list).bind fun r => (impl_within steps 0 r).bind fun r2 => cond (!r2) (some (3, ([], [], ()), ())) ((impl_cloneDisk d).bind fun r3 => cond (decide ((0 : Int) ≤ steps) && decide (steps ≤ (list.length : Int))) ((impl_Disk_run (r3.1, r3.2.1, r3.2.2) ((list.take steps.toNat).drop 0)).bind fun r4 => cond (r4.1 != 0) (some (r4.1, ([], [], ()), ())) ((impl_Disk_crash r4.2 picks).bind fun r5 => some (0, (r5.1, r5.2.1, r5.2.2), ()))) (none))
namespace impl_crashSteps
def G : Gam := mkG [(168, impl_size_Step.FS), (95, impl_within.FS), (123, impl_cloneDisk.FS), (124, impl_Disk_run.FS), (169, impl_Disk_crash.FS)]
def pts : List PT := [.cs tDisk_, .cs (.sl tStep_), .cs I64, .cs (.sl .bool)]
def FS : FS := mkFS [.sh, .sh, .sh, .sh] pts (fun x => impl_crashSteps x.1 x.2.1 x.2.2.1 x.2.2.2.1) fun t => ⟨[.cd tDiskResult_ t], []⟩
theorem ok : FsOk PR 134 FS :=
  fn_ok tbok hmix Proofs.Try.f134 ⟨[4], [], [], 0⟩ .no (G := G) (show GOk PR G from .cons impl_size_Step.ok (.cons impl_within.ok (.cons impl_cloneDisk.ok (.cons impl_Disk_run.ok (.cons impl_Disk_crash.ok .nil))))) (L := mkL []) (l := []) hT
    (fun x => by simp only [impl_crashSteps, mC, mB, mS, mO, mN]; kernel_rfl)
end impl_crashSteps
def impl_CrashMount (d : Disk_) (steps : Int) (picks : List Bool) : Option (DiskResult_) :=
  (impl_seqOf d).bind fun r => cond (r.2 != 0) (some (r.2, ([], [], ()), ())) ((impl_planMount d r.1).bind fun r2 => (impl_crashSteps d r2 steps picks).bind fun r3 => some (r3.1, (r3.2.1.1, r3.2.1.2.1, r3.2.1.2.2), r3.2.2))
namespace impl_CrashMount
def G : Gam := mkG [(100, impl_seqOf.FS), (120, impl_planMount.FS), (134, impl_crashSteps.FS)]
def pts : List PT := [.cs tDisk_, .cs I64, .cs (.sl .bool)]
def FS : FS := mkFS [.sh, .sh, .sh] pts (fun x => impl_CrashMount x.1 x.2.1 x.2.2.1) fun t => ⟨[.cd tDiskResult_ t], []⟩
theorem ok : FsOk PR 70 FS :=
  fn_ok tbok hmix Proofs.Try.f70 ⟨[3], [], [], 0⟩ .no (G := G) (show GOk PR G from .cons impl_seqOf.ok (.cons impl_planMount.ok (.cons impl_crashSteps.ok .nil))) (L := mkL []) (l := []) hT
    (fun x => by simp only [impl_CrashMount, mC, mB, mS, mO, mN]; kernel_rfl)
end impl_CrashMount
def laws_eqInt64S_l0.B (a : List Int) (b : List Int) (i_ : Int) : Option ((Int) ⊕ (((Bool) ⊕ (Unit)))) :=
  cond (decide (i_ < (a.length : Int))) (cond (inB i_ a.length) (cond (inB i_ b.length) (cond ((a.getD i_.toNat 0) != (b.getD i_.toNat 0)) (some (.inr (.inl false))) (some (.inl (w64 (i_ + 1))))) (none)) (none)) (some (.inr (.inr ())))
def laws_eqInt64S_l0 (a : List Int) (b : List Int) : (Int) → Option (((Bool) ⊕ (Unit))) :=
  loopL fun s => laws_eqInt64S_l0.B a b s
def laws_eqInt64S (a : List Int) (b : List Int) : Option (Bool) :=
  cond ((a.length : Int) != (b.length : Int)) (some false) ((laws_eqInt64S_l0 a b 0).bind fun o => sel o (fun b2 => some b2) (fun c => some true))
namespace laws_eqInt64S_l0
def c := codeAt (bodyOf Proofs.Try.f83) [1, 1, 0, 1, 0, 0]
def sp : SP := ⟨[(0, .cs SI), (1, .cs SI), (5, .cs I64)], []⟩
def out (a : List Int) (b : List Int) : FOut (((Bool) ⊕ (Unit))) := fun o _ k => sel o (fun b => k (.rt) ⟨[(4, .cs .bool b)], []⟩) (fun c => k (.ex 0) ⟨[], []⟩)
def fr := lfrag sp (fun x => laws_eqInt64S_l0 x.1.1 x.1.2.1 x.1.2.2.1) fun x => out x.1.1 x.1.2.1
theorem ok : CodeOk PR 26 2 (.loop c) fr :=
  lp_ok tbok hmix h0 .no (G := (mkG [])) .nil (L := mkL []) (l := []) hT [0, 1, 5] [] [(0, ([], []))] ([4], []) (fun x s => B x.1.1 x.1.2.1 s) (fun x s => ⟨[(0, .cs SI x.1.1), (1, .cs SI x.1.2.1), (5, .cs I64 s)], []⟩) (fun x => x.1.2.2.1)
    (fun x s => by simp only [B, mC, mB, mS, mO, mN]; kernel_rfl)
end laws_eqInt64S_l0
namespace laws_eqInt64S
def pts : List PT := [.cs SI, .cs SI]
def FS : FS := mkFS [.sh, .sh] pts (fun x => laws_eqInt64S x.1 x.2.1) fun t => ⟨[.cs .bool t], []⟩
theorem ok : FsOk PR 83 FS :=
  fn_ok tbok hmix Proofs.Try.f83 h0 (.R (.R (.L (.R (.one (.fr 0)))))) (G := (mkG [])) .nil (L := mkL [(0, laws_eqInt64S_l0.fr)]) (l := [(0, .loop laws_eqInt64S_l0.c)]) ⟨Lam.cons laws_eqInt64S_l0.ok, trivial⟩
    (fun x => by simp only [laws_eqInt64S, mC, mB, mS, mO, mN]; kernel_rfl)
end laws_eqInt64S
def laws_eqInt64SS_l0.B (a : List (List Int)) (b : List (List Int)) (i_ : Int) : Option ((Int) ⊕ (((Bool) ⊕ (Unit)))) :=
  cond (decide (i_ < (a.length : Int))) (cond (inB i_ a.length) (cond (inB i_ b.length) ((laws_eqInt64S (a.getD i_.toNat []) (b.getD i_.toNat [])).bind fun r => cond (!r) (some (.inr (.inl false))) (some (.inl (w64 (i_ + 1))))) (none)) (none)) (some (.inr (.inr ())))
def laws_eqInt64SS_l0 (a : List (List Int)) (b : List (List Int)) : (Int) → Option (((Bool) ⊕ (Unit))) :=
  loopL fun s => laws_eqInt64SS_l0.B a b s
def laws_eqInt64SS (a : List (List Int)) (b : List (List Int)) : Option (Bool) :=
  cond ((a.length : Int) != (b.length : Int)) (some false) ((laws_eqInt64SS_l0 a b 0).bind fun o => sel o (fun b2 => some b2) (fun c => some true))
namespace laws_eqInt64SS
def G : Gam := mkG [(83, laws_eqInt64S.FS)]
theorem Gok : GOk PR G := .cons laws_eqInt64S.ok .nil
end laws_eqInt64SS
namespace laws_eqInt64SS_l0
def c := codeAt (bodyOf Proofs.Try.f101) [1, 1, 0, 1, 0, 0]
def sp : SP := ⟨[(0, .cs (.sl SI)), (1, .cs (.sl SI)), (5, .cs I64)], []⟩
def out (a : List (List Int)) (b : List (List Int)) : FOut (((Bool) ⊕ (Unit))) := fun o _ k => sel o (fun b => k (.rt) ⟨[(4, .cs .bool b)], []⟩) (fun c => k (.ex 0) ⟨[], []⟩)
def fr := lfrag sp (fun x => laws_eqInt64SS_l0 x.1.1 x.1.2.1 x.1.2.2.1) fun x => out x.1.1 x.1.2.1
theorem ok : CodeOk PR 27 2 (.loop c) fr :=
  lp_ok tbok hmix h0 .no (G := laws_eqInt64SS.G) laws_eqInt64SS.Gok (L := mkL []) (l := []) hT [0, 1, 5] [] [(0, ([], []))] ([4], []) (fun x s => B x.1.1 x.1.2.1 s) (fun x s => ⟨[(0, .cs (.sl SI) x.1.1), (1, .cs (.sl SI) x.1.2.1), (5, .cs I64 s)], []⟩) (fun x => x.1.2.2.1)
    (fun x s => by simp only [B, mC, mB, mS, mO, mN]; kernel_rfl)
end laws_eqInt64SS_l0
namespace laws_eqInt64SS
def pts : List PT := [.cs (.sl SI), .cs (.sl SI)]
def FS : FS := mkFS [.sh, .sh] pts (fun x => laws_eqInt64SS x.1 x.2.1) fun t => ⟨[.cs .bool t], []⟩
theorem ok : FsOk PR 101 FS :=
  fn_ok tbok hmix Proofs.Try.f101 h0 (.R (.R (.L (.R (.one (.fr 0)))))) (G := G) Gok (L := mkL [(0, laws_eqInt64SS_l0.fr)]) (l := [(0, .loop laws_eqInt64SS_l0.c)]) ⟨Lam.cons laws_eqInt64SS_l0.ok, trivial⟩
    (fun x => by simp only [laws_eqInt64SS, mC, mB, mS, mO, mN]; kernel_rfl)
end laws_eqInt64SS
def laws_eqPut (a : Put_) (b : Put_) : Option (Bool) :=
  cond (a.1 != b.1) (some false) ((laws_eqInt64S a.2.1 b.2.1).bind fun r => cond (!r) (some false) (some true))
namespace laws_eqPut
def G : Gam := mkG [(83, laws_eqInt64S.FS)]
def pts : List PT := [.cs tPut_, .cs tPut_]
def FS : FS := mkFS [.sh, .sh] pts (fun x => laws_eqPut x.1 x.2.1) fun t => ⟨[.cs .bool t], []⟩
theorem ok : FsOk PR 112 FS :=
  fn_ok tbok hmix Proofs.Try.f112 ⟨[2, 3], [], [], 0⟩ .no (G := G) (show GOk PR G from .cons laws_eqInt64S.ok .nil) (L := mkL []) (l := []) hT
    (fun x => by simp only [laws_eqPut, mC, mB, mS, mO, mN]; kernel_rfl)
end laws_eqPut
def laws_eqPutS_l0.B (a : List Put_) (b : List Put_) (i_ : Int) : Option ((Int) ⊕ (((Bool) ⊕ (Unit)))) :=
  cond (decide (i_ < (a.length : Int))) (cond (inB i_ a.length) (cond (inB i_ b.length) ((laws_eqPut (a.getD i_.toNat zPut_) (b.getD i_.toNat zPut_)).bind fun r => cond (!r) (some (.inr (.inl false))) (some (.inl (w64 (i_ + 1))))) (none)) (none)) (some (.inr (.inr ())))
def laws_eqPutS_l0 (a : List Put_) (b : List Put_) : (Int) → Option (((Bool) ⊕ (Unit))) :=
  loopL fun s => laws_eqPutS_l0.B a b s
def laws_eqPutS (a : List Put_) (b : List Put_) : Option (Bool) :=
  cond ((a.length : Int) != (b.length : Int)) (some false) ((laws_eqPutS_l0 a b 0).bind fun o => sel o (fun b2 => some b2) (fun c => some true))
namespace laws_eqPutS
def G : Gam := mkG [(112, laws_eqPut.FS)]
theorem Gok : GOk PR G := .cons laws_eqPut.ok .nil
end laws_eqPutS
namespace laws_eqPutS_l0
def c := codeAt (bodyOf Proofs.Try.f45) [1, 1, 0, 1, 0, 0]
def sp : SP := ⟨[(0, .cs (.sl tPut_)), (1, .cs (.sl tPut_)), (5, .cs I64)], []⟩
def out (a : List Put_) (b : List Put_) : FOut (((Bool) ⊕ (Unit))) := fun o _ k => sel o (fun b => k (.rt) ⟨[(4, .cs .bool b)], []⟩) (fun c => k (.ex 0) ⟨[], []⟩)
def fr := lfrag sp (fun x => laws_eqPutS_l0 x.1.1 x.1.2.1 x.1.2.2.1) fun x => out x.1.1 x.1.2.1
theorem ok : CodeOk PR 27 2 (.loop c) fr :=
  lp_ok tbok hmix h0 .no (G := laws_eqPutS.G) laws_eqPutS.Gok (L := mkL []) (l := []) hT [0, 1, 5] [] [(0, ([], []))] ([4], []) (fun x s => B x.1.1 x.1.2.1 s) (fun x s => ⟨[(0, .cs (.sl tPut_) x.1.1), (1, .cs (.sl tPut_) x.1.2.1), (5, .cs I64 s)], []⟩) (fun x => x.1.2.2.1)
    (fun x s => by simp only [B, mC, mB, mS, mO, mN]; kernel_rfl)
end laws_eqPutS_l0
namespace laws_eqPutS
def pts : List PT := [.cs (.sl tPut_), .cs (.sl tPut_)]
def FS : FS := mkFS [.sh, .sh] pts (fun x => laws_eqPutS x.1 x.2.1) fun t => ⟨[.cs .bool t], []⟩
theorem ok : FsOk PR 45 FS :=
  fn_ok tbok hmix Proofs.Try.f45 h0 (.R (.R (.L (.R (.one (.fr 0)))))) (G := G) Gok (L := mkL [(0, laws_eqPutS_l0.fr)]) (l := [(0, .loop laws_eqPutS_l0.c)]) ⟨Lam.cons laws_eqPutS_l0.ok, trivial⟩
    (fun x => by simp only [laws_eqPutS, mC, mB, mS, mO, mN]; kernel_rfl)
end laws_eqPutS
def laws_eqDisk (a : Disk_) (b : Disk_) : Option (Bool) :=
  (laws_eqInt64SS a.1 b.1).bind fun r => cond (!r) (some false) ((laws_eqPutS a.2.1 b.2.1).bind fun r2 => cond (!r2) (some false) (some true))
namespace laws_eqDisk
def G : Gam := mkG [(101, laws_eqInt64SS.FS), (45, laws_eqPutS.FS)]
def pts : List PT := [.cs tDisk_, .cs tDisk_]
def FS : FS := mkFS [.sh, .sh] pts (fun x => laws_eqDisk x.1 x.2.1) fun t => ⟨[.cs .bool t], []⟩
theorem ok : FsOk PR 39 FS :=
  fn_ok tbok hmix Proofs.Try.f39 ⟨[2, 3], [], [], 0⟩ .no (G := G) (show GOk PR G from .cons laws_eqInt64SS.ok (.cons laws_eqPutS.ok .nil)) (L := mkL []) (l := []) hT
    (fun x => by simp only [laws_eqDisk, mC, mB, mS, mO, mN]; kernel_rfl)
end laws_eqDisk
def laws_eqDiskResult (a : DiskResult_) (b : DiskResult_) : Option (Bool) :=
  cond (a.1 != b.1) (some false) ((laws_eqDisk a.2.1 b.2.1).bind fun r => cond (!r) (some false) (some true))
namespace laws_eqDiskResult
def G : Gam := mkG [(39, laws_eqDisk.FS)]
def pts : List PT := [.cs tDiskResult_, .cs tDiskResult_]
def FS : FS := mkFS [.sh, .sh] pts (fun x => laws_eqDiskResult x.1 x.2.1) fun t => ⟨[.cs .bool t], []⟩
theorem ok : FsOk PR 26 FS :=
  fn_ok tbok hmix Proofs.Try.f26 ⟨[2, 3], [], [], 0⟩ .no (G := G) (show GOk PR G from .cons laws_eqDisk.ok .nil) (L := mkL []) (l := []) hT
    (fun x => by simp only [laws_eqDiskResult, mC, mB, mS, mO, mN]; kernel_rfl)
end laws_eqDiskResult
def laws_eqBoolS_l0.B (a : List Bool) (b : List Bool) (i_ : Int) : Option ((Int) ⊕ (((Bool) ⊕ (Unit)))) :=
  cond (decide (i_ < (a.length : Int))) (cond (inB i_ a.length) (cond (inB i_ b.length) ((some (!((a.getD i_.toNat false) == (b.getD i_.toNat false)))).bind fun v => cond v (some (.inr (.inl false))) (some (.inl (w64 (i_ + 1))))) (none)) (none)) (some (.inr (.inr ())))
def laws_eqBoolS_l0 (a : List Bool) (b : List Bool) : (Int) → Option (((Bool) ⊕ (Unit))) :=
  loopL fun s => laws_eqBoolS_l0.B a b s
def laws_eqBoolS (a : List Bool) (b : List Bool) : Option (Bool) :=
  cond ((a.length : Int) != (b.length : Int)) (some false) ((laws_eqBoolS_l0 a b 0).bind fun o => sel o (fun b2 => some b2) (fun c => some true))
namespace laws_eqBoolS_l0
def c := codeAt (bodyOf Proofs.Try.f71) [1, 1, 0, 1, 0, 0]
def sp : SP := ⟨[(0, .cs (.sl .bool)), (1, .cs (.sl .bool)), (5, .cs I64)], []⟩
def out (a : List Bool) (b : List Bool) : FOut (((Bool) ⊕ (Unit))) := fun o _ k => sel o (fun b => k (.rt) ⟨[(4, .cs .bool b)], []⟩) (fun c => k (.ex 0) ⟨[], []⟩)
def fr := lfrag sp (fun x => laws_eqBoolS_l0 x.1.1 x.1.2.1 x.1.2.2.1) fun x => out x.1.1 x.1.2.1
theorem ok : CodeOk PR 26 2 (.loop c) fr :=
  lp_ok tbok hmix h0 .no (G := (mkG [])) .nil (L := mkL []) (l := []) hT [0, 1, 5] [] [(0, ([], []))] ([4], []) (fun x s => B x.1.1 x.1.2.1 s) (fun x s => ⟨[(0, .cs (.sl .bool) x.1.1), (1, .cs (.sl .bool) x.1.2.1), (5, .cs I64 s)], []⟩) (fun x => x.1.2.2.1)
    (fun x s => by simp only [B, mC, mB, mS, mO, mN]; kernel_rfl)
end laws_eqBoolS_l0
namespace laws_eqBoolS
def pts : List PT := [.cs (.sl .bool), .cs (.sl .bool)]
def FS : FS := mkFS [.sh, .sh] pts (fun x => laws_eqBoolS x.1 x.2.1) fun t => ⟨[.cs .bool t], []⟩
theorem ok : FsOk PR 71 FS :=
  fn_ok tbok hmix Proofs.Try.f71 h0 (.R (.R (.L (.R (.one (.fr 0)))))) (G := (mkG [])) .nil (L := mkL [(0, laws_eqBoolS_l0.fr)]) (l := [(0, .loop laws_eqBoolS_l0.c)]) ⟨Lam.cons laws_eqBoolS_l0.ok, trivial⟩
    (fun x => by simp only [laws_eqBoolS, mC, mB, mS, mO, mN]; kernel_rfl)
end laws_eqBoolS
def laws_markInt64S_l0.B (k_ : Int) (i_ : Int) (a_ : List Int) : Option ((Int × Int × List Int) ⊕ (Int × List Int)) :=
  cond (decide (i_ < (a_.length : Int))) (cond (inB i_ a_.length) (some (.inl (w64 (k_ + 1), w64 (i_ + 1), a_.set i_.toNat k_))) (none)) (some (.inr (k_, a_)))
def laws_markInt64S_l0  : (Int × Int × List Int) → Option (Int × List Int) :=
  loopL fun s => laws_markInt64S_l0.B s.1 s.2.1 s.2.2
def laws_markInt64S (a : List Int) (k : Int) : Option (Int × List Int) :=
  (laws_markInt64S_l0 (k, 0, a)).bind fun o => some (o.1, o.2)
namespace laws_markInt64S_l0
def c := codeAt (bodyOf Proofs.Try.f114) [1, 0, 1, 0, 0]
def sp : SP := ⟨[(0, .seg 0 []), (1, .cs I64), (5, .cs I64)], [(0, .reg, .cd SI)]⟩
def out  : FOut (Int × List Int) := fun b _ k => k (.ex 0) ⟨[(1, .cs I64 b.1)], [sr 0 (.cd SI b.2)]⟩
def fr := lfrag sp (fun x => laws_markInt64S_l0  (x.1.2.1, x.1.2.2.1, x.2.1)) fun x => out 
theorem ok : CodeOk PR 19 2 (.loop c) fr :=
  lp_ok tbok hmix h0 .no (G := (mkG [])) .nil (L := mkL []) (l := []) hT [0, 1, 5] [0] [(0, ([1], [0]))] ([], []) (fun x s => B  s.1 s.2.1 s.2.2) (fun x s => ⟨[(0, .seg 0 []), (1, .cs I64 s.1), (5, .cs I64 s.2.1)], [sr 0 (.cd SI s.2.2)]⟩) (fun x => (x.1.2.1, x.1.2.2.1, x.2.1))
    (fun x s => by simp only [B, mC, mB, mS, mO, mN]; kernel_rfl)
end laws_markInt64S_l0
namespace laws_markInt64S
def pts : List PT := [.cd SI, .cs I64]
def FS : FS := mkFS [.mu, .sh] pts (fun x => laws_markInt64S x.1 x.2.1) fun t => ⟨[.cs I64 t.1], [.cd SI t.2]⟩
theorem ok : FsOk PR 114 FS :=
  fn_ok tbok hmix Proofs.Try.f114 h0 (.R (.L (.R (.one (.fr 0))))) (G := (mkG [])) .nil (L := mkL [(0, laws_markInt64S_l0.fr)]) (l := [(0, .loop laws_markInt64S_l0.c)]) ⟨Lam.cons laws_markInt64S_l0.ok, trivial⟩
    (fun x => by simp only [laws_markInt64S, mC, mB, mS, mO, mN]; kernel_rfl)
end laws_markInt64S
def laws_markInt64SS_l0.B (k_ : Int) (i_ : Int) (a_ : List (List Int)) : Option ((Int × Int × List (List Int)) ⊕ (Int × List (List Int))) :=
  cond (decide (i_ < (a_.length : Int))) (cond (inB i_ a_.length) ((laws_markInt64S (a_.getD i_.toNat []) k_).bind fun r => some (.inl (r.1, w64 (i_ + 1), a_.set i_.toNat r.2))) (none)) (some (.inr (k_, a_)))
def laws_markInt64SS_l0  : (Int × Int × List (List Int)) → Option (Int × List (List Int)) :=
  loopL fun s => laws_markInt64SS_l0.B s.1 s.2.1 s.2.2
def laws_markInt64SS (a : List (List Int)) (k : Int) : Option (Int × List (List Int)) :=
  (laws_markInt64SS_l0 (k, 0, a)).bind fun o => some (o.1, o.2)
namespace laws_markInt64SS
def G : Gam := mkG [(114, laws_markInt64S.FS)]
theorem Gok : GOk PR G := .cons laws_markInt64S.ok .nil
end laws_markInt64SS
namespace laws_markInt64SS_l0
def c := codeAt (bodyOf Proofs.Try.f113) [1, 0, 1, 0, 0]
def sp : SP := ⟨[(0, .seg 0 []), (1, .cs I64), (5, .cs I64)], [(0, .reg, .cd (.sl SI))]⟩
def out  : FOut (Int × List (List Int)) := fun b _ k => k (.ex 0) ⟨[(1, .cs I64 b.1)], [sr 0 (.cd (.sl SI) b.2)]⟩
def fr := lfrag sp (fun x => laws_markInt64SS_l0  (x.1.2.1, x.1.2.2.1, x.2.1)) fun x => out 
theorem ok : CodeOk PR 19 2 (.loop c) fr :=
  lp_ok tbok hmix h0 .no (G := laws_markInt64SS.G) laws_markInt64SS.Gok (L := mkL []) (l := []) hT [0, 1, 5] [0] [(0, ([1], [0]))] ([], []) (fun x s => B  s.1 s.2.1 s.2.2) (fun x s => ⟨[(0, .seg 0 []), (1, .cs I64 s.1), (5, .cs I64 s.2.1)], [sr 0 (.cd (.sl SI) s.2.2)]⟩) (fun x => (x.1.2.1, x.1.2.2.1, x.2.1))
    (fun x s => by simp only [B, mC, mB, mS, mO, mN]; kernel_rfl)
end laws_markInt64SS_l0
namespace laws_markInt64SS
def pts : List PT := [.cd (.sl SI), .cs I64]
def FS : FS := mkFS [.mu, .sh] pts (fun x => laws_markInt64SS x.1 x.2.1) fun t => ⟨[.cs I64 t.1], [.cd (.sl SI) t.2]⟩
theorem ok : FsOk PR 113 FS :=
  fn_ok tbok hmix Proofs.Try.f113 h0 (.R (.L (.R (.one (.fr 0))))) (G := G) Gok (L := mkL [(0, laws_markInt64SS_l0.fr)]) (l := [(0, .loop laws_markInt64SS_l0.c)]) ⟨Lam.cons laws_markInt64SS_l0.ok, trivial⟩
    (fun x => by simp only [laws_markInt64SS, mC, mB, mS, mO, mN]; kernel_rfl)
end laws_markInt64SS
def laws_markPutS_l0.B (k_ : Int) (i_ : Int) (a_ : List Put_) : Option ((Int × Int × List Put_) ⊕ (Int × List Put_)) :=
  cond (decide (i_ < (a_.length : Int))) (cond (inB i_ a_.length) (cond (inB i_ ((a_.set i_.toNat (k_, (a_.getD i_.toNat zPut_).2)).length)) ((laws_markInt64S ((((a_.set i_.toNat (k_, (a_.getD i_.toNat zPut_).2)).getD i_.toNat zPut_).2).1) (w64 (k_ + 1))).bind fun r => some (.inl (r.1, w64 (i_ + 1), (a_.set i_.toNat (k_, (a_.getD i_.toNat zPut_).2)).set i_.toNat (((a_.set i_.toNat (k_, (a_.getD i_.toNat zPut_).2)).getD i_.toNat zPut_).1, r.2, (((a_.set i_.toNat (k_, (a_.getD i_.toNat zPut_).2)).getD i_.toNat zPut_).2).2)))) (none)) (none)) (some (.inr (k_, a_)))
def laws_markPutS_l0  : (Int × Int × List Put_) → Option (Int × List Put_) :=
  loopL fun s => laws_markPutS_l0.B s.1 s.2.1 s.2.2
def laws_markPutS (a : List Put_) (k : Int) : Option (Int × List Put_) :=
  (laws_markPutS_l0 (k, 0, a)).bind fun o => some (o.1, o.2)
namespace laws_markPutS
def G : Gam := mkG [(114, laws_markInt64S.FS)]
theorem Gok : GOk PR G := .cons laws_markInt64S.ok .nil
end laws_markPutS
namespace laws_markPutS_l0
def c := codeAt (bodyOf Proofs.Try.f47) [1, 0, 1, 0, 0]
def sp : SP := ⟨[(0, .seg 0 []), (1, .cs I64), (5, .cs I64)], [(0, .reg, .cd (.sl tPut_))]⟩
def out  : FOut (Int × List Put_) := fun b _ k => k (.ex 0) ⟨[(1, .cs I64 b.1)], [sr 0 (.cd (.sl tPut_) b.2)]⟩
def fr := lfrag sp (fun x => laws_markPutS_l0  (x.1.2.1, x.1.2.2.1, x.2.1)) fun x => out 
theorem ok : CodeOk PR 27 2 (.loop c) fr :=
  lp_ok tbok hmix h0 .no (G := laws_markPutS.G) laws_markPutS.Gok (L := mkL []) (l := []) hT [0, 1, 5] [0] [(0, ([1], [0]))] ([], []) (fun x s => B  s.1 s.2.1 s.2.2) (fun x s => ⟨[(0, .seg 0 []), (1, .cs I64 s.1), (5, .cs I64 s.2.1)], [sr 0 (.cd (.sl tPut_) s.2.2)]⟩) (fun x => (x.1.2.1, x.1.2.2.1, x.2.1))
    (fun x s => by simp only [B, mC, mB, mS, mO, mN]; kernel_rfl)
end laws_markPutS_l0
namespace laws_markPutS
def pts : List PT := [.cd (.sl tPut_), .cs I64]
def FS : FS := mkFS [.mu, .sh] pts (fun x => laws_markPutS x.1 x.2.1) fun t => ⟨[.cs I64 t.1], [.cd (.sl tPut_) t.2]⟩
theorem ok : FsOk PR 47 FS :=
  fn_ok tbok hmix Proofs.Try.f47 h0 (.R (.L (.R (.one (.fr 0))))) (G := G) Gok (L := mkL [(0, laws_markPutS_l0.fr)]) (l := [(0, .loop laws_markPutS_l0.c)]) ⟨Lam.cons laws_markPutS_l0.ok, trivial⟩
    (fun x => by simp only [laws_markPutS, mC, mB, mS, mO, mN]; kernel_rfl)
end laws_markPutS
def laws_markDisk (a : Disk_) (k : Int) : Option (Int × Disk_) :=
  (laws_markInt64SS a.1 k).bind fun r => (laws_markPutS a.2.1 r.1).bind fun r2 => some (r2.1, (r.2, r2.2, a.2.2))
namespace laws_markDisk
def G : Gam := mkG [(113, laws_markInt64SS.FS), (47, laws_markPutS.FS)]
def pts : List PT := [.cd tDisk_, .cs I64]
def FS : FS := mkFS [.mu, .sh] pts (fun x => laws_markDisk x.1 x.2.1) fun t => ⟨[.cs I64 t.1], [.cd tDisk_ t.2]⟩
theorem ok : FsOk PR 46 FS :=
  fn_ok tbok hmix Proofs.Try.f46 ⟨[2], [], [], 0⟩ .no (G := G) (show GOk PR G from .cons laws_markInt64SS.ok (.cons laws_markPutS.ok .nil)) (L := mkL []) (l := []) hT
    (fun x => by simp only [laws_markDisk, mC, mB, mS, mO, mN]; kernel_rfl)
end laws_markDisk
def laws_markBoolS_l0.B (k_ : Int) (i_ : Int) (a_ : List Bool) : Option ((Int × Int × List Bool) ⊕ (Int × List Bool)) :=
  cond (decide (i_ < (a_.length : Int))) (cond (!((3 : Int) == 0)) (cond (inB i_ a_.length) (some (.inl (w64 (k_ + 1), w64 (i_ + 1), a_.set i_.toNat ((k_.tmod 3) == 0)))) (none)) (none)) (some (.inr (k_, a_)))
def laws_markBoolS_l0  : (Int × Int × List Bool) → Option (Int × List Bool) :=
  loopL fun s => laws_markBoolS_l0.B s.1 s.2.1 s.2.2
def laws_markBoolS (a : List Bool) (k : Int) : Option (Int × List Bool) :=
  (laws_markBoolS_l0 (k, 0, a)).bind fun o => some (o.1, o.2)
namespace laws_markBoolS_l0
def c := codeAt (bodyOf Proofs.Try.f72) [1, 0, 1, 0, 0]
def sp : SP := ⟨[(0, .seg 0 []), (1, .cs I64), (5, .cs I64)], [(0, .reg, .cd (.sl .bool))]⟩
def out  : FOut (Int × List Bool) := fun b _ k => k (.ex 0) ⟨[(1, .cs I64 b.1)], [sr 0 (.cd (.sl .bool) b.2)]⟩
def fr := lfrag sp (fun x => laws_markBoolS_l0  (x.1.2.1, x.1.2.2.1, x.2.1)) fun x => out 
theorem ok : CodeOk PR 21 2 (.loop c) fr :=
  lp_ok tbok hmix h0 .no (G := (mkG [])) .nil (L := mkL []) (l := []) hT [0, 1, 5] [0] [(0, ([1], [0]))] ([], []) (fun x s => B  s.1 s.2.1 s.2.2) (fun x s => ⟨[(0, .seg 0 []), (1, .cs I64 s.1), (5, .cs I64 s.2.1)], [sr 0 (.cd (.sl .bool) s.2.2)]⟩) (fun x => (x.1.2.1, x.1.2.2.1, x.2.1))
    (fun x s => by simp only [B, mC, mB, mS, mO, mN]; kernel_rfl)
end laws_markBoolS_l0
namespace laws_markBoolS
def pts : List PT := [.cd (.sl .bool), .cs I64]
def FS : FS := mkFS [.mu, .sh] pts (fun x => laws_markBoolS x.1 x.2.1) fun t => ⟨[.cs I64 t.1], [.cd (.sl .bool) t.2]⟩
theorem ok : FsOk PR 72 FS :=
  fn_ok tbok hmix Proofs.Try.f72 h0 (.R (.L (.R (.one (.fr 0))))) (G := (mkG [])) .nil (L := mkL [(0, laws_markBoolS_l0.fr)]) (l := [(0, .loop laws_markBoolS_l0.c)]) ⟨Lam.cons laws_markBoolS_l0.ok, trivial⟩
    (fun x => by simp only [laws_markBoolS, mC, mB, mS, mO, mN]; kernel_rfl)
end laws_markBoolS
def laws_markDiskResult (a : DiskResult_) (k : Int) : Option (Int × DiskResult_) :=
  (laws_markDisk (a.2.1.1, a.2.1.2.1, a.2.1.2.2) k).bind fun r => some (r.1, (a.1, (r.2.1, r.2.2.1, a.2.1.2.2), a.2.2))
namespace laws_markDiskResult
def G : Gam := mkG [(46, laws_markDisk.FS)]
def pts : List PT := [.cd tDiskResult_, .cs I64]
def FS : FS := mkFS [.mu, .sh] pts (fun x => laws_markDiskResult x.1 x.2.1) fun t => ⟨[.cs I64 t.1], [.cd tDiskResult_ t.2]⟩
theorem ok : FsOk PR 27 FS :=
  fn_ok tbok hmix Proofs.Try.f27 ⟨[2], [], [], 0⟩ .no (G := G) (show GOk PR G from .cons laws_markDisk.ok .nil) (L := mkL []) (l := []) hT
    (fun x => by simp only [laws_markDiskResult, mC, mB, mS, mO, mN]; kernel_rfl)
end laws_markDiskResult
def laws_heldInt64S_l0.B (a : List Int) (k_ : Int) (i_ : Int) : Option ((Int × Int) ⊕ (((Int) ⊕ (Int)))) :=
  cond (decide (i_ < (a.length : Int))) (cond (inB i_ a.length) (cond ((a.getD i_.toNat 0) != k_) (some (.inr (.inl (-1)))) (some (.inl (w64 (k_ + 1), w64 (i_ + 1))))) (none)) (some (.inr (.inr k_)))
def laws_heldInt64S_l0 (a : List Int) : (Int × Int) → Option (((Int) ⊕ (Int))) :=
  loopL fun s => laws_heldInt64S_l0.B a s.1 s.2
def laws_heldInt64S (a : List Int) (k : Int) : Option (Int) :=
  (laws_heldInt64S_l0 a (k, 0)).bind fun o => sel o (fun b => some b) (fun c => some c)
namespace laws_heldInt64S_l0
def c := codeAt (bodyOf Proofs.Try.f147) [1, 0, 1, 0, 0]
def sp : SP := ⟨[(0, .cs SI), (1, .cs I64), (5, .cs I64)], []⟩
def out (a : List Int) : FOut (((Int) ⊕ (Int))) := fun o _ k => sel o (fun b => k (.rt) ⟨[(4, .cs I64 b)], []⟩) (fun c => k (.ex 0) ⟨[(1, .cs I64 c)], []⟩)
def fr := lfrag sp (fun x => laws_heldInt64S_l0 x.1.1 (x.1.2.1, x.1.2.2.1)) fun x => out x.1.1
theorem ok : CodeOk PR 21 2 (.loop c) fr :=
  lp_ok tbok hmix h0 .no (G := (mkG [])) .nil (L := mkL []) (l := []) hT [0, 1, 5] [] [(0, ([1], []))] ([4], []) (fun x s => B x.1.1 s.1 s.2) (fun x s => ⟨[(0, .cs SI x.1.1), (1, .cs I64 s.1), (5, .cs I64 s.2)], []⟩) (fun x => (x.1.2.1, x.1.2.2.1))
    (fun x s => by simp only [B, mC, mB, mS, mO, mN]; kernel_rfl)
end laws_heldInt64S_l0
namespace laws_heldInt64S
def pts : List PT := [.cs SI, .cs I64]
def FS : FS := mkFS [.sh, .sh] pts (fun x => laws_heldInt64S x.1 x.2.1) fun t => ⟨[.cs I64 t], []⟩
theorem ok : FsOk PR 147 FS :=
  fn_ok tbok hmix Proofs.Try.f147 h0 (.R (.L (.R (.one (.fr 0))))) (G := (mkG [])) .nil (L := mkL [(0, laws_heldInt64S_l0.fr)]) (l := [(0, .loop laws_heldInt64S_l0.c)]) ⟨Lam.cons laws_heldInt64S_l0.ok, trivial⟩
    (fun x => by simp only [laws_heldInt64S, mC, mB, mS, mO, mN]; kernel_rfl)
end laws_heldInt64S
def laws_heldInt64SS_l0.B (a : List (List Int)) (k_ : Int) (i_ : Int) : Option ((Int × Int) ⊕ (((Int) ⊕ (Int)))) :=
  cond (decide (i_ < (a.length : Int))) (cond (inB i_ a.length) ((laws_heldInt64S (a.getD i_.toNat []) k_).bind fun r => cond (decide (r < 0)) (some (.inr (.inl (-1)))) (some (.inl (r, w64 (i_ + 1))))) (none)) (some (.inr (.inr k_)))
def laws_heldInt64SS_l0 (a : List (List Int)) : (Int × Int) → Option (((Int) ⊕ (Int))) :=
  loopL fun s => laws_heldInt64SS_l0.B a s.1 s.2
def laws_heldInt64SS (a : List (List Int)) (k : Int) : Option (Int) :=
  (laws_heldInt64SS_l0 a (k, 0)).bind fun o => sel o (fun b => some b) (fun c => some c)
namespace laws_heldInt64SS
def G : Gam := mkG [(147, laws_heldInt64S.FS)]
theorem Gok : GOk PR G := .cons laws_heldInt64S.ok .nil
end laws_heldInt64SS
namespace laws_heldInt64SS_l0
def c := codeAt (bodyOf Proofs.Try.f139) [1, 0, 1, 0, 0]
def sp : SP := ⟨[(0, .cs (.sl SI)), (1, .cs I64), (5, .cs I64)], []⟩
def out (a : List (List Int)) : FOut (((Int) ⊕ (Int))) := fun o _ k => sel o (fun b => k (.rt) ⟨[(4, .cs I64 b)], []⟩) (fun c => k (.ex 0) ⟨[(1, .cs I64 c)], []⟩)
def fr := lfrag sp (fun x => laws_heldInt64SS_l0 x.1.1 (x.1.2.1, x.1.2.2.1)) fun x => out x.1.1
theorem ok : CodeOk PR 21 2 (.loop c) fr :=
  lp_ok tbok hmix h0 .no (G := laws_heldInt64SS.G) laws_heldInt64SS.Gok (L := mkL []) (l := []) hT [0, 1, 5] [] [(0, ([1], []))] ([4], []) (fun x s => B x.1.1 s.1 s.2) (fun x s => ⟨[(0, .cs (.sl SI) x.1.1), (1, .cs I64 s.1), (5, .cs I64 s.2)], []⟩) (fun x => (x.1.2.1, x.1.2.2.1))
    (fun x s => by simp only [B, mC, mB, mS, mO, mN]; kernel_rfl)
end laws_heldInt64SS_l0
namespace laws_heldInt64SS
def pts : List PT := [.cs (.sl SI), .cs I64]
def FS : FS := mkFS [.sh, .sh] pts (fun x => laws_heldInt64SS x.1 x.2.1) fun t => ⟨[.cs I64 t], []⟩
theorem ok : FsOk PR 139 FS :=
  fn_ok tbok hmix Proofs.Try.f139 h0 (.R (.L (.R (.one (.fr 0))))) (G := G) Gok (L := mkL [(0, laws_heldInt64SS_l0.fr)]) (l := [(0, .loop laws_heldInt64SS_l0.c)]) ⟨Lam.cons laws_heldInt64SS_l0.ok, trivial⟩
    (fun x => by simp only [laws_heldInt64SS, mC, mB, mS, mO, mN]; kernel_rfl)
end laws_heldInt64SS
def laws_heldPutS_l0.B (a : List Put_) (k_ : Int) (i_ : Int) : Option ((Int × Int) ⊕ (((Int) ⊕ (Int)))) :=
  cond (decide (i_ < (a.length : Int))) (cond (inB i_ a.length) (cond (((a.getD i_.toNat zPut_).1) != k_) (some (.inr (.inl (-1)))) (cond (inB i_ a.length) ((laws_heldInt64S (((a.getD i_.toNat zPut_).2).1) (w64 (k_ + 1))).bind fun r => cond (decide (r < 0)) (some (.inr (.inl (-1)))) (some (.inl (r, w64 (i_ + 1))))) (none))) (none)) (some (.inr (.inr k_)))
def laws_heldPutS_l0 (a : List Put_) : (Int × Int) → Option (((Int) ⊕ (Int))) :=
  loopL fun s => laws_heldPutS_l0.B a s.1 s.2
def laws_heldPutS (a : List Put_) (k : Int) : Option (Int) :=
  (laws_heldPutS_l0 a (k, 0)).bind fun o => sel o (fun b => some b) (fun c => some c)
namespace laws_heldPutS
def G : Gam := mkG [(147, laws_heldInt64S.FS)]
theorem Gok : GOk PR G := .cons laws_heldInt64S.ok .nil
end laws_heldPutS
namespace laws_heldPutS_l0
def c := codeAt (bodyOf Proofs.Try.f115) [1, 0, 1, 0, 0]
def sp : SP := ⟨[(0, .cs (.sl tPut_)), (1, .cs I64), (5, .cs I64)], []⟩
def out (a : List Put_) : FOut (((Int) ⊕ (Int))) := fun o _ k => sel o (fun b => k (.rt) ⟨[(4, .cs I64 b)], []⟩) (fun c => k (.ex 0) ⟨[(1, .cs I64 c)], []⟩)
def fr := lfrag sp (fun x => laws_heldPutS_l0 x.1.1 (x.1.2.1, x.1.2.2.1)) fun x => out x.1.1
theorem ok : CodeOk PR 31 2 (.loop c) fr :=
  lp_ok tbok hmix h0 .no (G := laws_heldPutS.G) laws_heldPutS.Gok (L := mkL []) (l := []) hT [0, 1, 5] [] [(0, ([1], []))] ([4], []) (fun x s => B x.1.1 s.1 s.2) (fun x s => ⟨[(0, .cs (.sl tPut_) x.1.1), (1, .cs I64 s.1), (5, .cs I64 s.2)], []⟩) (fun x => (x.1.2.1, x.1.2.2.1))
    (fun x s => by simp only [B, mC, mB, mS, mO, mN]; kernel_rfl)
end laws_heldPutS_l0
namespace laws_heldPutS
def pts : List PT := [.cs (.sl tPut_), .cs I64]
def FS : FS := mkFS [.sh, .sh] pts (fun x => laws_heldPutS x.1 x.2.1) fun t => ⟨[.cs I64 t], []⟩
theorem ok : FsOk PR 115 FS :=
  fn_ok tbok hmix Proofs.Try.f115 h0 (.R (.L (.R (.one (.fr 0))))) (G := G) Gok (L := mkL [(0, laws_heldPutS_l0.fr)]) (l := [(0, .loop laws_heldPutS_l0.c)]) ⟨Lam.cons laws_heldPutS_l0.ok, trivial⟩
    (fun x => by simp only [laws_heldPutS, mC, mB, mS, mO, mN]; kernel_rfl)
end laws_heldPutS
def laws_heldDisk (a : Disk_) (k : Int) : Option (Int) :=
  (laws_heldInt64SS a.1 k).bind fun r => cond (decide (r < 0)) (some (-1)) ((laws_heldPutS a.2.1 r).bind fun r2 => cond (decide (r2 < 0)) (some (-1)) (some r2))
namespace laws_heldDisk
def G : Gam := mkG [(139, laws_heldInt64SS.FS), (115, laws_heldPutS.FS)]
def pts : List PT := [.cs tDisk_, .cs I64]
def FS : FS := mkFS [.sh, .sh] pts (fun x => laws_heldDisk x.1 x.2.1) fun t => ⟨[.cs I64 t], []⟩
theorem ok : FsOk PR 89 FS :=
  fn_ok tbok hmix Proofs.Try.f89 ⟨[2], [], [], 0⟩ .no (G := G) (show GOk PR G from .cons laws_heldInt64SS.ok (.cons laws_heldPutS.ok .nil)) (L := mkL []) (l := []) hT
    (fun x => by simp only [laws_heldDisk, mC, mB, mS, mO, mN]; kernel_rfl)
end laws_heldDisk
def laws_heldDiskResult (a : DiskResult_) (k : Int) : Option (Int) :=
  (laws_heldDisk a.2.1 k).bind fun r => cond (decide (r < 0)) (some (-1)) (some r)
namespace laws_heldDiskResult
def G : Gam := mkG [(89, laws_heldDisk.FS)]
def pts : List PT := [.cs tDiskResult_, .cs I64]
def FS : FS := mkFS [.sh, .sh] pts (fun x => laws_heldDiskResult x.1 x.2.1) fun t => ⟨[.cs I64 t], []⟩
theorem ok : FsOk PR 28 FS :=
  fn_ok tbok hmix Proofs.Try.f28 ⟨[2], [], [], 0⟩ .no (G := G) (show GOk PR G from .cons laws_heldDisk.ok .nil) (L := mkL []) (l := []) hT
    (fun x => by simp only [laws_heldDiskResult, mC, mB, mS, mO, mN]; kernel_rfl)
end laws_heldDiskResult
def laws_FnExactCrashMount (aD : Disk_) (aSteps : Int) (aPicks : List Bool) : Option (Bool) :=
  cond (decide ((aPicks.length : Int) > 1048576)) (some true) ((laws_szDisk aD 1048576).bind fun r => cond (decide (r < 0)) (some true) ((laws_toDisk aD).bind fun r2 => (laws_toBoolS aPicks).bind fun r3 => (spec_CrashMount (r2.1, r2.2.1, r2.2.2) aSteps r3).bind fun r4 => (laws_toDisk aD).bind fun r5 => (laws_toBoolS aPicks).bind fun r6 => (impl_CrashMount (r5.1, r5.2.1, r5.2.2) aSteps r6).bind fun r7 => (laws_eqDiskResult (r7.1, (r7.2.1.1, r7.2.1.2.1, r7.2.1.2.2), r7.2.2) (r4.1, (r4.2.1.1, r4.2.1.2.1, r4.2.1.2.2), r4.2.2)).bind fun r8 => cond (!r8) (some false) ((laws_toDisk aD).bind fun r9 => (laws_eqDisk (r5.1, r5.2.1, r5.2.2) (r9.1, r9.2.1, r9.2.2)).bind fun r10 => cond (!r10) (some false) ((laws_toBoolS aPicks).bind fun r11 => (laws_eqBoolS r6 r11).bind fun r12 => cond (!r12) (some false) ((laws_markDisk (r5.1, r5.2.1, r5.2.2) 1).bind fun r13 => (laws_markBoolS r6 r13.1).bind fun r14 => cond (decide (r14.1 < 0)) (some false) ((laws_eqDiskResult (r7.1, (r7.2.1.1, r7.2.1.2.1, r7.2.1.2.2), r7.2.2) (r4.1, (r4.2.1.1, r4.2.1.2.1, r4.2.1.2.2), r4.2.2)).bind fun r15 => cond (!r15) (some false) ((laws_markDiskResult (r7.1, (r7.2.1.1, r7.2.1.2.1, r7.2.1.2.2), r7.2.2) 1).bind fun r16 => (laws_heldDiskResult (r7.1, (r16.2.2.1.1, r16.2.2.1.2.1, r7.2.1.2.2), r7.2.2) 1).bind fun r17 => cond (decide (r17 < 0)) (some false) (cond (r17 != r16.1) (some false) ((laws_toDisk aD).bind fun r18 => (laws_toBoolS aPicks).bind fun r19 => (impl_CrashMount (r18.1, r18.2.1, r18.2.2) aSteps r19).bind fun r20 => (laws_eqDiskResult (r20.1, (r20.2.1.1, r20.2.1.2.1, r20.2.1.2.2), r20.2.2) (r4.1, (r4.2.1.1, r4.2.1.2.1, r4.2.1.2.2), r4.2.2)).bind fun r21 => cond (!r21) (some false) ((laws_heldDiskResult (r7.1, (r16.2.2.1.1, r16.2.2.1.2.1, r7.2.1.2.2), r7.2.2) 1).bind fun r22 => cond (decide (r22 < 0)) (some false) (cond (r22 != r16.1) (some false) (some true))))))))))))
namespace laws_FnExactCrashMount
def G : Gam := mkG [(35, laws_szDisk.FS), (37, laws_toDisk.FS), (69, laws_toBoolS.FS), (68, spec_CrashMount.FS), (70, impl_CrashMount.FS), (26, laws_eqDiskResult.FS), (39, laws_eqDisk.FS), (71, laws_eqBoolS.FS), (46, laws_markDisk.FS), (72, laws_markBoolS.FS), (27, laws_markDiskResult.FS), (28, laws_heldDiskResult.FS)]
def pts : List PT := [.cs tDisk_, .cs I64, .cs (.sl .bool)]
def FS : FS := mkFS [.sh, .sh, .sh] pts (fun x => laws_FnExactCrashMount x.1 x.2.1 x.2.2.1) fun t => ⟨[.cs .bool t], []⟩
theorem ok : FsOk PR 13 FS :=
  fn_ok tbok hmix Proofs.Try.f13 ⟨[3], [], [], 0⟩ .no (G := G) (show GOk PR G from .cons laws_szDisk.ok (.cons laws_toDisk.ok (.cons laws_toBoolS.ok (.cons spec_CrashMount.ok (.cons impl_CrashMount.ok (.cons laws_eqDiskResult.ok (.cons laws_eqDisk.ok (.cons laws_eqBoolS.ok (.cons laws_markDisk.ok (.cons laws_markBoolS.ok (.cons laws_markDiskResult.ok (.cons laws_heldDiskResult.ok .nil)))))))))))) (L := mkL []) (l := []) hT
    (fun x => by simp only [laws_FnExactCrashMount, mC, mB, mS, mO, mN]; kernel_rfl)
end laws_FnExactCrashMount
end Mf
