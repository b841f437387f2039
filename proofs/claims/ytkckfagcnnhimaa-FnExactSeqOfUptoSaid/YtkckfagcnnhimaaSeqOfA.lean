/- The functions that FnExactSeqOf reaches: what each computes, and that it does. -/
import Derived.Test.YtkckfagcnnhimaaSeqOfH
import Derived.Test.YtkckfagcnnhimaaProg
import Derived.KernelRfl
noncomputable section
namespace Mf
open Go
set_option linter.unusedVariables false
set_option linter.unusedSimpArgs false
set_option maxRecDepth 100000
abbrev tPut_ : Ty := (.pair (.int .i64) (.pair (.sl (.int .i64)) .unit))
abbrev Put_ : Type := Int × (List Int) × Unit
def zPut_ : Put_ := (0, [], ())
abbrev tDisk_ : Ty := (.pair (.sl (.sl (.int .i64))) (.pair (.sl tPut_) .unit))
abbrev Disk_ : Type := (List (List Int)) × (List Put_) × Unit
def zDisk_ : Disk_ := ([], [], ())
abbrev tStep_ : Ty := (.pair .bool tPut_)
abbrev Step_ : Type := Bool × Put_
def zStep_ : Step_ := (false, 0, [], ())
abbrev tEntry_ : Ty := (.pair .str (.pair (.int .i64) .unit))
abbrev Entry_ : Type := (List UInt8) × Int × Unit
def zEntry_ : Entry_ := ([], 0, ())
abbrev tInode_ : Ty := (.pair (.int .i64) (.pair (.int .i64) (.pair (.int .i64) (.pair (.sl (.int .i64)) (.pair (.sl tEntry_) .unit)))))
abbrev Inode_ : Type := Int × Int × Int × (List Int) × (List Entry_) × Unit
def zInode_ : Inode_ := (0, 0, 0, [], [], ())
abbrev tFs_ : Ty := (.pair (.sl tInode_) (.pair (.sl (.sl (.int .u8))) .unit))
abbrev Fs_ : Type := (List Inode_) × (List (List Int)) × Unit
def zFs_ : Fs_ := ([], [], ())
abbrev tWorld_ : Ty := (.pair tDisk_ (.pair tFs_ (.pair tFs_ .unit)))
abbrev World_ : Type := Disk_ × Fs_ × Fs_ × Unit
def zWorld_ : World_ := (([], [], ()), ([], [], ()), ([], [], ()), ())
abbrev tCall_ : Ty := (.pair (.int .i64) (.pair .str (.pair .str (.pair (.int .i64) (.pair (.int .i64) (.pair (.sl (.int .u8)) .unit))))))
abbrev Call_ : Type := Int × (List UInt8) × (List UInt8) × Int × Int × (List Int) × Unit
def zCall_ : Call_ := (0, [], [], 0, 0, [], ())
abbrev tCallResult_ : Ty := (.pair (.int .i64) (.pair (.int .i64) (.pair (.int .i64) (.pair (.sl (.int .u8)) (.pair (.sl .str) (.pair tFs_ .unit))))))
abbrev CallResult_ : Type := Int × Int × Int × (List Int) × (List (List UInt8)) × Fs_ × Unit
def zCallResult_ : CallResult_ := (0, 0, 0, [], [], ([], [], ()), ())
abbrev tDiskResult_ : Ty := (.pair (.int .i64) (.pair tDisk_ .unit))
abbrev DiskResult_ : Type := Int × Disk_ × Unit
def zDiskResult_ : DiskResult_ := (0, ([], [], ()), ())
abbrev tIntResult_ : Ty := (.pair (.int .i64) (.pair (.int .i64) .unit))
abbrev IntResult_ : Type := Int × Int × Unit
def zIntResult_ : IntResult_ := (0, 0, ())
abbrev tPutsResult_ : Ty := (.pair (.int .i64) (.pair (.sl tPut_) .unit))
abbrev PutsResult_ : Type := Int × (List Put_) × Unit
def zPutsResult_ : PutsResult_ := (0, [], ())
abbrev tStepsResult_ : Ty := (.pair (.int .i64) (.pair (.sl tStep_) .unit))
abbrev StepsResult_ : Type := Int × (List Step_) × Unit
def zStepsResult_ : StepsResult_ := (0, [], ())
abbrev tTxResult_ : Ty := (.pair (.int .i64) (.pair .bool (.pair (.sl tPut_) .unit)))
abbrev TxResult_ : Type := Int × Bool × (List Put_) × Unit
def zTxResult_ : TxResult_ := (0, false, [], ())
abbrev tWorldResult_ : Ty := (.pair (.int .i64) (.pair tCallResult_ (.pair tWorld_ .unit)))
abbrev WorldResult_ : Type := Int × CallResult_ × World_ × Unit
def zWorldResult_ : WorldResult_ := (0, (0, 0, 0, [], [], ([], [], ()), ()), (([], [], ()), ([], [], ()), ([], [], ()), ()), ())
abbrev tBoundsError_ : Ty := (.pair (.int .i64) (.pair (.int .i64) (.pair .bool (.pair (.int .u8) .unit))))
abbrev BoundsError_ : Type := Int × Int × Bool × Int × Unit
def zBoundsError_ : BoundsError_ := (0, 0, false, 0, ())
abbrev tErrorAddressString_ : Ty := (.pair .str (.pair (.int .u64) .unit))
abbrev ErrorAddressString_ : Type := (List UInt8) × Int × Unit
def zErrorAddressString_ : ErrorAddressString_ := ([], 0, ())
abbrev PR : Program := Go.Proofs.Try.prog
def tb : Tb := [(2, ⟨.int .i64, (.int .i64), 8⟩), (3, ⟨.int .i64, (.int .i64), 8⟩), (4, ⟨.bool, .bool, 1⟩), (5, ⟨.int .u8, (.int .u8), 1⟩), (6, ⟨.int .u8, (.int .u8), 1⟩), (7, ⟨.st [0, 1, 2, 3], tBoundsError_, 24⟩), (8, ⟨.st [0, 1, 2, 3], tBoundsError_, 24⟩), (9, ⟨.str, .str, 16⟩), (10, ⟨.str, .str, 16⟩), (11, ⟨.str, .str, 16⟩), (12, ⟨.int .u64, (.int .u64), 8⟩), (13, ⟨.st [0, 1], tErrorAddressString_, 24⟩), (14, ⟨.st [0, 1], tErrorAddressString_, 24⟩), (21, ⟨.int .i32, (.int .i32), 4⟩), (22, ⟨.sl 5, (.sl (.int .u8)), 24⟩), (23, ⟨.st [0, 1, 2, 3, 4, 5], tCall_, 80⟩), (24, ⟨.st [0, 1, 2, 3, 4, 5], tCall_, 80⟩), (27, ⟨.st [0, 1, 2, 3, 4, 5], tCall_, 80⟩), (31, ⟨.sl 2, (.sl (.int .i64)), 24⟩), (32, ⟨.st [0, 1, 2], tStep_, 40⟩), (33, ⟨.st [0, 1, 2], tStep_, 40⟩), (36, ⟨.st [0, 1, 2], tStep_, 40⟩), (40, ⟨.sl 31, (.sl (.sl (.int .i64))), 24⟩), (41, ⟨.sl 141, (.sl tPut_), 24⟩), (42, ⟨.st [0, 1], tDisk_, 48⟩), (43, ⟨.st [0, 1], tDisk_, 48⟩), (44, ⟨.st [0, 1], tDiskResult_, 56⟩), (45, ⟨.st [0, 1], tDiskResult_, 56⟩), (50, ⟨.sl 33, (.sl tStep_), 24⟩), (52, ⟨.st [0, 1], tIntResult_, 16⟩), (53, ⟨.st [0, 1], tIntResult_, 16⟩), (55, ⟨.sl 36, (.sl tStep_), 24⟩), (60, ⟨.sl 139, (.sl tPut_), 24⟩), (61, ⟨.st [0, 1], tDisk_, 48⟩), (62, ⟨.st [0, 1], tDisk_, 48⟩), (69, ⟨.st [0, 1], tPutsResult_, 32⟩), (70, ⟨.st [0, 1], tPutsResult_, 32⟩), (79, ⟨.st [0, 1, 2], tTxResult_, 40⟩), (80, ⟨.st [0, 1, 2], tTxResult_, 40⟩), (84, ⟨.st [0, 1], tStepsResult_, 32⟩), (85, ⟨.st [0, 1], tStepsResult_, 32⟩), (92, ⟨.sl 9, (.sl .str), 24⟩), (93, ⟨.sl 125, (.sl tInode_), 24⟩), (94, ⟨.sl 22, (.sl (.sl (.int .u8))), 24⟩), (95, ⟨.st [0, 1], tFs_, 48⟩), (96, ⟨.st [0, 1], tFs_, 48⟩), (97, ⟨.st [0, 1, 2, 3, 4, 5], tCallResult_, 120⟩), (98, ⟨.st [0, 1, 2, 3, 4, 5], tCallResult_, 120⟩), (99, ⟨.st [0, 2, 4], tWorld_, 144⟩), (100, ⟨.st [0, 2, 4], tWorld_, 144⟩), (101, ⟨.st [0, 1, 8], tWorldResult_, 272⟩), (102, ⟨.st [0, 1, 8], tWorldResult_, 272⟩), (106, ⟨.sl 4, (.sl .bool), 24⟩), (123, ⟨.sl 167, (.sl tEntry_), 24⟩), (124, ⟨.st [0, 1, 2, 3, 4], tInode_, 72⟩), (125, ⟨.st [0, 1, 2, 3, 4], tInode_, 72⟩), (138, ⟨.st [0, 1], tPut_, 32⟩), (139, ⟨.st [0, 1], tPut_, 32⟩), (141, ⟨.st [0, 1], tPut_, 32⟩), (166, ⟨.st [0, 1], tEntry_, 24⟩), (167, ⟨.st [0, 1], tEntry_, 24⟩), (202, ⟨.int .u32, (.int .u32), 4⟩), (203, ⟨.int .u8, (.int .u8), 1⟩), (204, ⟨.int .u8, (.int .u8), 1⟩), (207, ⟨.int .i32, (.int .i32), 4⟩), (208, ⟨.int .i32, (.int .i32), 4⟩)]
theorem tbok : TbOk Go.Proofs.Try.prog tb := tbB_ok (by kernel_rfl)
theorem hmix : Go.Proofs.Try.prog.follows .mixedOrders = true := by kernel_rfl
def laws_szInt64S (a : List Int) (left : Int) : Option (Int) :=
  cond (decide ((w64 (left - (a.length : Int))) < 0)) (some (-1)) (some (w64 (left - (a.length : Int))))
namespace laws_szInt64S
def pts : List PT := [.cs SI, .cs I64]
def FS : FS := mkFS [.sh, .sh] pts (fun x => laws_szInt64S x.1 x.2.1) fun t => ⟨[.cs I64 t], []⟩
theorem ok : FsOk PR 79 FS :=
  fn_ok tbok hmix Proofs.Try.f79 h0 .no (G := (mkG [])) .nil (L := mkL []) (l := []) hT
    (fun x => by simp only [laws_szInt64S, mC, mB, mS, mO, mN]; kernel_rfl)
end laws_szInt64S
def laws_szInt64SS_l0.B (a : List (List Int)) (left_ : Int) (i_ : Int) : Option ((Int × Int) ⊕ (((Int) ⊕ (Int)))) :=
  cond (decide (i_ < (a.length : Int))) (cond (inB i_ a.length) ((laws_szInt64S (a.getD i_.toNat []) left_).bind fun r => cond (decide (r < 0)) (some (.inr (.inl (-1)))) (some (.inl (r, w64 (i_ + 1))))) (none)) (some (.inr (.inr left_)))
def laws_szInt64SS_l0 (a : List (List Int)) : (Int × Int) → Option (((Int) ⊕ (Int))) :=
  loopL fun s => laws_szInt64SS_l0.B a s.1 s.2
def laws_szInt64SS (a : List (List Int)) (left : Int) : Option (Int) :=
  cond (decide ((w64 (left - (a.length : Int))) < 0)) (some (-1)) ((laws_szInt64SS_l0 a (w64 (left - (a.length : Int)), 0)).bind fun o => sel o (fun b => some b) (fun c => some c))
namespace laws_szInt64SS
def G : Gam := mkG [(79, laws_szInt64S.FS)]
theorem Gok : GOk PR G := .cons laws_szInt64S.ok .nil
end laws_szInt64SS
namespace laws_szInt64SS_l0
def c := codeAt (bodyOf Proofs.Try.f96) [1, 1, 1, 0, 1, 0, 0]
def sp : SP := ⟨[(0, .cs (.sl SI)), (1, .cs I64), (5, .cs I64)], []⟩
def out (a : List (List Int)) : FOut (((Int) ⊕ (Int))) := fun o _ k => sel o (fun b => k (.rt) ⟨[(4, .cs I64 b)], []⟩) (fun c => k (.ex 0) ⟨[(1, .cs I64 c)], []⟩)
def fr := lfrag sp (fun x => laws_szInt64SS_l0 x.1.1 (x.1.2.1, x.1.2.2.1)) fun x => out x.1.1
theorem ok : CodeOk PR 27 2 (.loop c) fr :=
  lp_ok tbok hmix h0 .no (G := laws_szInt64SS.G) laws_szInt64SS.Gok (L := mkL []) (l := []) hT [0, 1, 5] [] [(0, ([1], []))] ([4], []) (fun x s => B x.1.1 s.1 s.2) (fun x s => ⟨[(0, .cs (.sl SI) x.1.1), (1, .cs I64 s.1), (5, .cs I64 s.2)], []⟩) (fun x => (x.1.2.1, x.1.2.2.1))
    (fun x s => by simp only [B, mC, mB, mS, mO, mN]; kernel_rfl)
end laws_szInt64SS_l0
namespace laws_szInt64SS
def pts : List PT := [.cs (.sl SI), .cs I64]
def FS : FS := mkFS [.sh, .sh] pts (fun x => laws_szInt64SS x.1 x.2.1) fun t => ⟨[.cs I64 t], []⟩
theorem ok : FsOk PR 96 FS :=
  fn_ok tbok hmix Proofs.Try.f96 h0 (.R (.R (.R (.L (.R (.one (.fr 0))))))) (G := G) Gok (L := mkL [(0, laws_szInt64SS_l0.fr)]) (l := [(0, .loop laws_szInt64SS_l0.c)]) ⟨Lam.cons laws_szInt64SS_l0.ok, trivial⟩
    (fun x => by simp only [laws_szInt64SS, mC, mB, mS, mO, mN]; kernel_rfl)
end laws_szInt64SS
def laws_szPut (a : Put_) (left : Int) : Option (Int) :=
  (laws_szInt64S a.2.1 left).bind fun r => cond (decide (r < 0)) (some (-1)) (some r)
namespace laws_szPut
def G : Gam := mkG [(79, laws_szInt64S.FS)]
def pts : List PT := [.cs tPut_, .cs I64]
def FS : FS := mkFS [.sh, .sh] pts (fun x => laws_szPut x.1 x.2.1) fun t => ⟨[.cs I64 t], []⟩
theorem ok : FsOk PR 102 FS :=
  fn_ok tbok hmix Proofs.Try.f102 ⟨[2], [], [], 0⟩ .no (G := G) (show GOk PR G from .cons laws_szInt64S.ok .nil) (L := mkL []) (l := []) hT
    (fun x => by simp only [laws_szPut, mC, mB, mS, mO, mN]; kernel_rfl)
end laws_szPut
def laws_szPutS_l0.B (a : List Put_) (left_ : Int) (i_ : Int) : Option ((Int × Int) ⊕ (((Int) ⊕ (Int)))) :=
  cond (decide (i_ < (a.length : Int))) (cond (inB i_ a.length) ((laws_szPut (a.getD i_.toNat zPut_) left_).bind fun r => cond (decide (r < 0)) (some (.inr (.inl (-1)))) (some (.inl (r, w64 (i_ + 1))))) (none)) (some (.inr (.inr left_)))
def laws_szPutS_l0 (a : List Put_) : (Int × Int) → Option (((Int) ⊕ (Int))) :=
  loopL fun s => laws_szPutS_l0.B a s.1 s.2
def laws_szPutS (a : List Put_) (left : Int) : Option (Int) :=
  cond (decide ((w64 (left - (a.length : Int))) < 0)) (some (-1)) ((laws_szPutS_l0 a (w64 (left - (a.length : Int)), 0)).bind fun o => sel o (fun b => some b) (fun c => some c))
namespace laws_szPutS
def G : Gam := mkG [(102, laws_szPut.FS)]
theorem Gok : GOk PR G := .cons laws_szPut.ok .nil
end laws_szPutS
namespace laws_szPutS_l0
def c := codeAt (bodyOf Proofs.Try.f40) [1, 1, 1, 0, 1, 0, 0]
def sp : SP := ⟨[(0, .cs (.sl tPut_)), (1, .cs I64), (5, .cs I64)], []⟩
def out (a : List Put_) : FOut (((Int) ⊕ (Int))) := fun o _ k => sel o (fun b => k (.rt) ⟨[(4, .cs I64 b)], []⟩) (fun c => k (.ex 0) ⟨[(1, .cs I64 c)], []⟩)
def fr := lfrag sp (fun x => laws_szPutS_l0 x.1.1 (x.1.2.1, x.1.2.2.1)) fun x => out x.1.1
theorem ok : CodeOk PR 27 2 (.loop c) fr :=
  lp_ok tbok hmix h0 .no (G := laws_szPutS.G) laws_szPutS.Gok (L := mkL []) (l := []) hT [0, 1, 5] [] [(0, ([1], []))] ([4], []) (fun x s => B x.1.1 s.1 s.2) (fun x s => ⟨[(0, .cs (.sl tPut_) x.1.1), (1, .cs I64 s.1), (5, .cs I64 s.2)], []⟩) (fun x => (x.1.2.1, x.1.2.2.1))
    (fun x s => by simp only [B, mC, mB, mS, mO, mN]; kernel_rfl)
end laws_szPutS_l0
namespace laws_szPutS
def pts : List PT := [.cs (.sl tPut_), .cs I64]
def FS : FS := mkFS [.sh, .sh] pts (fun x => laws_szPutS x.1 x.2.1) fun t => ⟨[.cs I64 t], []⟩
theorem ok : FsOk PR 40 FS :=
  fn_ok tbok hmix Proofs.Try.f40 h0 (.R (.R (.R (.L (.R (.one (.fr 0))))))) (G := G) Gok (L := mkL [(0, laws_szPutS_l0.fr)]) (l := [(0, .loop laws_szPutS_l0.c)]) ⟨Lam.cons laws_szPutS_l0.ok, trivial⟩
    (fun x => by simp only [laws_szPutS, mC, mB, mS, mO, mN]; kernel_rfl)
end laws_szPutS
def laws_szDisk (a : Disk_) (left : Int) : Option (Int) :=
  (laws_szInt64SS a.1 left).bind fun r => cond (decide (r < 0)) (some (-1)) ((laws_szPutS a.2.1 r).bind fun r2 => cond (decide (r2 < 0)) (some (-1)) (some r2))
namespace laws_szDisk
def G : Gam := mkG [(96, laws_szInt64SS.FS), (40, laws_szPutS.FS)]
def pts : List PT := [.cs tDisk_, .cs I64]
def FS : FS := mkFS [.sh, .sh] pts (fun x => laws_szDisk x.1 x.2.1) fun t => ⟨[.cs I64 t], []⟩
theorem ok : FsOk PR 35 FS :=
  fn_ok tbok hmix Proofs.Try.f35 ⟨[2], [], [], 0⟩ .no (G := G) (show GOk PR G from .cons laws_szInt64SS.ok (.cons laws_szPutS.ok .nil)) (L := mkL []) (l := []) hT
    (fun x => by simp only [laws_szDisk, mC, mB, mS, mO, mN]; kernel_rfl)
end laws_szDisk
def laws_toInt64S_l0.B (a : List Int) (i_ : Int) (out_ : List Int) : Option ((Int × List Int) ⊕ (List Int)) :=
  cond (decide (i_ < (a.length : Int))) (cond (inB i_ a.length) (cond (inB i_ out_.length) (some (.inl (w64 (i_ + 1), out_.set i_.toNat (a.getD i_.toNat 0)))) (none)) (none)) (some (.inr out_))
def laws_toInt64S_l0 (a : List Int) : (Int × List Int) → Option (List Int) :=
  loopL fun s => laws_toInt64S_l0.B a s.1 s.2
def laws_toInt64S (a : List Int) : Option (List Int) :=
  cond (decide ((0 : Int) ≤ (a.length : Int)) && (decide ((a.length : Int) ≤ (a.length : Int)) && decide ((a.length : Int) ≤ 2147483648))) ((laws_toInt64S_l0 a (0, List.replicate (a.length : Int).toNat 0)).bind fun o => some o) (none)
namespace laws_toInt64S_l0
def c := codeAt (bodyOf Proofs.Try.f81) [1, 1, 0, 1, 0, 0]
def sp : SP := ⟨[(0, .cs SI), (3, .seg 3 []), (4, .cs I64)], [(3, .reg, .cd SI)]⟩
def out (a : List Int) : FOut (List Int) := fun b _ k => k (.ex 0) ⟨[(3, .seg 3 [])], [sr 3 (.cd SI b)]⟩
def fr := lfrag sp (fun x => laws_toInt64S_l0 x.1.1 (x.1.2.2.1, x.2.1)) fun x => out x.1.1
theorem ok : CodeOk PR 22 1 (.loop c) fr :=
  lp_ok tbok hmix h0 .no (G := (mkG [])) .nil (L := mkL []) (l := []) hT [0, 3, 4] [3] [(0, ([3], [3]))] ([], []) (fun x s => B x.1.1 s.1 s.2) (fun x s => ⟨[(0, .cs SI x.1.1), (3, .seg 3 []), (4, .cs I64 s.1)], [sr 3 (.cd SI s.2)]⟩) (fun x => (x.1.2.2.1, x.2.1))
    (fun x s => by simp only [B, mC, mB, mS, mO, mN]; kernel_rfl)
end laws_toInt64S_l0
namespace laws_toInt64S
def pts : List PT := [.cs SI]
def FS : FS := mkFS [.sh] pts (fun x => laws_toInt64S x.1) fun t => ⟨[.cd SI t], []⟩
theorem ok : FsOk PR 81 FS :=
  fn_ok tbok hmix Proofs.Try.f81 h0 (.R (.R (.L (.R (.one (.fr 0)))))) (G := (mkG [])) .nil (L := mkL [(0, laws_toInt64S_l0.fr)]) (l := [(0, .loop laws_toInt64S_l0.c)]) ⟨Lam.cons laws_toInt64S_l0.ok, trivial⟩
    (fun x => by simp only [laws_toInt64S, mC, mB, mS, mO, mN]; kernel_rfl)
end laws_toInt64S
def laws_toInt64SS_l0.B (a : List (List Int)) (i_ : Int) (out_ : List (List Int)) : Option ((Int × List (List Int)) ⊕ (List (List Int))) :=
  cond (decide (i_ < (a.length : Int))) (cond (inB i_ a.length) ((laws_toInt64S (a.getD i_.toNat [])).bind fun r => cond (inB i_ out_.length) (some (.inl (w64 (i_ + 1), out_.set i_.toNat r))) (none)) (none)) (some (.inr out_))
def laws_toInt64SS_l0 (a : List (List Int)) : (Int × List (List Int)) → Option (List (List Int)) :=
  loopL fun s => laws_toInt64SS_l0.B a s.1 s.2
def laws_toInt64SS (a : List (List Int)) : Option (List (List Int)) :=
  cond (decide ((0 : Int) ≤ (a.length : Int)) && (decide ((a.length : Int) ≤ (a.length : Int)) && decide ((a.length : Int) ≤ 2147483648))) ((some (List.replicate (a.length : Int).toNat ([] : List Int))).bind fun v => (laws_toInt64SS_l0 a (0, v)).bind fun o => some o) (none)
namespace laws_toInt64SS
def G : Gam := mkG [(81, laws_toInt64S.FS)]
theorem Gok : GOk PR G := .cons laws_toInt64S.ok .nil
end laws_toInt64SS
namespace laws_toInt64SS_l0
def c := codeAt (bodyOf Proofs.Try.f99) [1, 1, 0, 1, 0, 0]
def sp : SP := ⟨[(0, .cs (.sl SI)), (3, .seg 3 []), (4, .cs I64)], [(3, .reg, .cd (.sl SI))]⟩
def out (a : List (List Int)) : FOut (List (List Int)) := fun b _ k => k (.ex 0) ⟨[(3, .seg 3 [])], [sr 3 (.cd (.sl SI) b)]⟩
def fr := lfrag sp (fun x => laws_toInt64SS_l0 x.1.1 (x.1.2.2.1, x.2.1)) fun x => out x.1.1
theorem ok : CodeOk PR 23 1 (.loop c) fr :=
  lp_ok tbok hmix h0 .no (G := laws_toInt64SS.G) laws_toInt64SS.Gok (L := mkL []) (l := []) hT [0, 3, 4] [3] [(0, ([3], [3]))] ([], []) (fun x s => B x.1.1 s.1 s.2) (fun x s => ⟨[(0, .cs (.sl SI) x.1.1), (3, .seg 3 []), (4, .cs I64 s.1)], [sr 3 (.cd (.sl SI) s.2)]⟩) (fun x => (x.1.2.2.1, x.2.1))
    (fun x s => by simp only [B, mC, mB, mS, mO, mN]; kernel_rfl)
end laws_toInt64SS_l0
namespace laws_toInt64SS
def pts : List PT := [.cs (.sl SI)]
def FS : FS := mkFS [.sh] pts (fun x => laws_toInt64SS x.1) fun t => ⟨[.cd (.sl SI) t], []⟩
theorem ok : FsOk PR 99 FS :=
  fn_ok tbok hmix Proofs.Try.f99 h0 (.R (.R (.L (.R (.one (.fr 0)))))) (G := G) Gok (L := mkL [(0, laws_toInt64SS_l0.fr)]) (l := [(0, .loop laws_toInt64SS_l0.c)]) ⟨Lam.cons laws_toInt64SS_l0.ok, trivial⟩
    (fun x => by simp only [laws_toInt64SS, mC, mB, mS, mO, mN]; kernel_rfl)
end laws_toInt64SS
def laws_toPut (a : Put_) : Option (Put_) :=
  (laws_toInt64S a.2.1).bind fun r => some (a.1, r, ())
namespace laws_toPut
def G : Gam := mkG [(81, laws_toInt64S.FS)]
def pts : List PT := [.cs tPut_]
def FS : FS := mkFS [.sh] pts (fun x => laws_toPut x.1) fun t => ⟨[.cd tPut_ t], []⟩
theorem ok : FsOk PR 105 FS :=
  fn_ok tbok hmix Proofs.Try.f105 ⟨[1], [], [], 0⟩ .no (G := G) (show GOk PR G from .cons laws_toInt64S.ok .nil) (L := mkL []) (l := []) hT
    (fun x => by simp only [laws_toPut, mC, mB, mS, mO, mN]; kernel_rfl)
end laws_toPut
def laws_toPutS_l0.B (a : List Put_) (i_ : Int) (out_ : List Put_) : Option ((Int × List Put_) ⊕ (List Put_)) :=
  cond (decide (i_ < (a.length : Int))) (cond (inB i_ a.length) ((laws_toPut (a.getD i_.toNat zPut_)).bind fun r => cond (inB i_ out_.length) (some (.inl (w64 (i_ + 1), out_.set i_.toNat (r.1, r.2.1, r.2.2)))) (none)) (none)) (some (.inr out_))
def laws_toPutS_l0 (a : List Put_) : (Int × List Put_) → Option (List Put_) :=
  loopL fun s => laws_toPutS_l0.B a s.1 s.2
def laws_toPutS (a : List Put_) : Option (List Put_) :=
  cond (decide ((0 : Int) ≤ (a.length : Int)) && (decide ((a.length : Int) ≤ (a.length : Int)) && decide ((a.length : Int) ≤ 2147483648))) ((laws_toPutS_l0 a (0, List.replicate (a.length : Int).toNat zPut_)).bind fun o => some o) (none)
namespace laws_toPutS
def G : Gam := mkG [(105, laws_toPut.FS)]
theorem Gok : GOk PR G := .cons laws_toPut.ok .nil
end laws_toPutS
namespace laws_toPutS_l0
def c := codeAt (bodyOf Proofs.Try.f42) [1, 1, 0, 1, 0, 0]
def sp : SP := ⟨[(0, .cs (.sl tPut_)), (3, .seg 3 []), (4, .cs I64)], [(3, .reg, .cd (.sl tPut_))]⟩
def out (a : List Put_) : FOut (List Put_) := fun b _ k => k (.ex 0) ⟨[(3, .seg 3 [])], [sr 3 (.cd (.sl tPut_) b)]⟩
def fr := lfrag sp (fun x => laws_toPutS_l0 x.1.1 (x.1.2.2.1, x.2.1)) fun x => out x.1.1
theorem ok : CodeOk PR 23 1 (.loop c) fr :=
  lp_ok tbok hmix h0 .no (G := laws_toPutS.G) laws_toPutS.Gok (L := mkL []) (l := []) hT [0, 3, 4] [3] [(0, ([3], [3]))] ([], []) (fun x s => B x.1.1 s.1 s.2) (fun x s => ⟨[(0, .cs (.sl tPut_) x.1.1), (3, .seg 3 []), (4, .cs I64 s.1)], [sr 3 (.cd (.sl tPut_) s.2)]⟩) (fun x => (x.1.2.2.1, x.2.1))
    (fun x s => by simp only [B, mC, mB, mS, mO, mN]; kernel_rfl)
end laws_toPutS_l0
namespace laws_toPutS
def pts : List PT := [.cs (.sl tPut_)]
def FS : FS := mkFS [.sh] pts (fun x => laws_toPutS x.1) fun t => ⟨[.cd (.sl tPut_) t], []⟩
theorem ok : FsOk PR 42 FS :=
  fn_ok tbok hmix Proofs.Try.f42 h0 (.R (.R (.L (.R (.one (.fr 0)))))) (G := G) Gok (L := mkL [(0, laws_toPutS_l0.fr)]) (l := [(0, .loop laws_toPutS_l0.c)]) ⟨Lam.cons laws_toPutS_l0.ok, trivial⟩
    (fun x => by simp only [laws_toPutS, mC, mB, mS, mO, mN]; kernel_rfl)
end laws_toPutS
def laws_toDisk (a : Disk_) : Option (Disk_) :=
  (laws_toInt64SS a.1).bind fun r => (laws_toPutS a.2.1).bind fun r2 => some (r, r2, ())
namespace laws_toDisk
def G : Gam := mkG [(99, laws_toInt64SS.FS), (42, laws_toPutS.FS)]
def pts : List PT := [.cs tDisk_]
def FS : FS := mkFS [.sh] pts (fun x => laws_toDisk x.1) fun t => ⟨[.cd tDisk_ t], []⟩
theorem ok : FsOk PR 37 FS :=
  fn_ok tbok hmix Proofs.Try.f37 ⟨[1], [], [], 0⟩ .no (G := G) (show GOk PR G from .cons laws_toInt64SS.ok (.cons laws_toPutS.ok .nil)) (L := mkL []) (l := []) hT
    (fun x => by simp only [laws_toDisk, mC, mB, mS, mO, mN]; kernel_rfl)
end laws_toDisk
def spec_l1In (v : Int) (low : Int) (high : Int) : Option (Bool) :=
  (some (cond (decide (v ≥ low)) (decide (v ≤ high)) false)).bind fun v2 => some v2
namespace spec_l1In
def pts : List PT := [.cs I64, .cs I64, .cs I64]
def FS : FS := mkFS [.sh, .sh, .sh] pts (fun x => spec_l1In x.1 x.2.1 x.2.2.1) fun t => ⟨[.cs .bool t], []⟩
theorem ok : FsOk PR 74 FS :=
  fn_ok tbok hmix Proofs.Try.f74 h0 .no (G := (mkG [])) .nil (L := mkL []) (l := []) hT
    (fun x => by simp only [spec_l1In, mC, mB, mS, mO, mN]; kernel_rfl)
end spec_l1In
def spec_l1Words_l0.B (w : List Int) (i_ : Int) : Option ((Int) ⊕ (((Int) ⊕ (Unit)))) :=
  cond (decide (i_ < (w.length : Int))) (cond (inB i_ w.length) ((spec_l1In (w.getD i_.toNat 0) 0 65535).bind fun r => cond (!r) (some (.inr (.inl 3))) (some (.inl (w64 (i_ + 1))))) (none)) (some (.inr (.inr ())))
def spec_l1Words_l0 (w : List Int) : (Int) → Option (((Int) ⊕ (Unit))) :=
  loopL fun s => spec_l1Words_l0.B w s
def spec_l1Words (w : List Int) : Option (Int) :=
  cond (decide ((w.length : Int) > 64)) (some 2) ((spec_l1Words_l0 w 0).bind fun o => sel o (fun b => some b) (fun c => some 0))
namespace spec_l1Words
def G : Gam := mkG [(74, spec_l1In.FS)]
theorem Gok : GOk PR G := .cons spec_l1In.ok .nil
end spec_l1Words
namespace spec_l1Words_l0
def c := codeAt (bodyOf Proofs.Try.f80) [1, 1, 0, 1, 0, 0]
def sp : SP := ⟨[(0, .cs SI), (3, .cs I64)], []⟩
def out (w : List Int) : FOut (((Int) ⊕ (Unit))) := fun o _ k => sel o (fun b => k (.rt) ⟨[(2, .cs I64 b)], []⟩) (fun c => k (.ex 0) ⟨[], []⟩)
def fr := lfrag sp (fun x => spec_l1Words_l0 x.1.1 x.1.2.1) fun x => out x.1.1
theorem ok : CodeOk PR 19 1 (.loop c) fr :=
  lp_ok tbok hmix h0 .no (G := spec_l1Words.G) spec_l1Words.Gok (L := mkL []) (l := []) hT [0, 3] [] [(0, ([], []))] ([2], []) (fun x s => B x.1.1 s) (fun x s => ⟨[(0, .cs SI x.1.1), (3, .cs I64 s)], []⟩) (fun x => x.1.2.1)
    (fun x s => by simp only [B, mC, mB, mS, mO, mN]; kernel_rfl)
end spec_l1Words_l0
namespace spec_l1Words
def pts : List PT := [.cs SI]
def FS : FS := mkFS [.sh] pts (fun x => spec_l1Words x.1) fun t => ⟨[.cs I64 t], []⟩
theorem ok : FsOk PR 80 FS :=
  fn_ok tbok hmix Proofs.Try.f80 h0 (.R (.R (.L (.R (.one (.fr 0)))))) (G := G) Gok (L := mkL [(0, spec_l1Words_l0.fr)]) (l := [(0, .loop spec_l1Words_l0.c)]) ⟨Lam.cons spec_l1Words_l0.ok, trivial⟩
    (fun x => by simp only [spec_l1Words, mC, mB, mS, mO, mN]; kernel_rfl)
end spec_l1Words
def spec_l1Fault_l0.B (d : Disk_) (i_ : Int) : Option ((Int) ⊕ (((Int) ⊕ (Unit)))) :=
  cond (decide (i_ < (d.1.length : Int))) (cond (inB i_ d.1.length) ((spec_l1Words (d.1.getD i_.toNat [])).bind fun r => cond (r != 0) (some (.inr (.inl r))) (some (.inl (w64 (i_ + 1))))) (none)) (some (.inr (.inr ())))
def spec_l1Fault_l0 (d : Disk_) : (Int) → Option (((Int) ⊕ (Unit))) :=
  loopL fun s => spec_l1Fault_l0.B d s
def spec_l1Fault_l1.B (d : Disk_) (i_2 : Int) : Option ((Int) ⊕ (((Int) ⊕ (Unit)))) :=
  cond (decide (i_2 < (d.2.1.length : Int))) (cond (inB i_2 d.2.1.length) ((spec_l1In ((d.2.1.getD i_2.toNat zPut_).1) 0 (w64 ((d.1.length : Int) - 1))).bind fun r2 => cond (!r2) (some (.inr (.inl 3))) (cond (inB i_2 d.2.1.length) ((spec_l1Words (((d.2.1.getD i_2.toNat zPut_).2).1)).bind fun r3 => cond (r3 != 0) (some (.inr (.inl r3))) (some (.inl (w64 (i_2 + 1))))) (none))) (none)) (some (.inr (.inr ())))
def spec_l1Fault_l1 (d : Disk_) : (Int) → Option (((Int) ⊕ (Unit))) :=
  loopL fun s => spec_l1Fault_l1.B d s
def spec_l1Fault (d : Disk_) : Option (Int) :=
  (some (cond (decide ((d.1.length : Int) > 60)) true (decide ((d.2.1.length : Int) > 200)))).bind fun v => cond v (some 2) ((spec_l1Fault_l0 d 0).bind fun o => sel o (fun b => some b) (fun c => (spec_l1Fault_l1 d 0).bind fun o2 => sel o2 (fun b2 => some b2) (fun c2 => some 0)))
namespace spec_l1Fault
def G : Gam := mkG [(80, spec_l1Words.FS), (74, spec_l1In.FS)]
theorem Gok : GOk PR G := .cons spec_l1Words.ok (.cons spec_l1In.ok .nil)
end spec_l1Fault
namespace spec_l1Fault_l0
def c := codeAt (bodyOf Proofs.Try.f97) [1, 1, 0, 1, 0, 0]
def sp : SP := ⟨[(0, .pt tDisk_), (3, .cs I64)], []⟩
def out (d : Disk_) : FOut (((Int) ⊕ (Unit))) := fun o _ k => sel o (fun b => k (.rt) ⟨[(2, .cs I64 b)], []⟩) (fun c => k (.ex 0) ⟨[(0, .pt tDisk_ d)], []⟩)
def fr := lfrag sp (fun x => spec_l1Fault_l0 x.1.1 x.1.2.1) fun x => out x.1.1
theorem ok : CodeOk PR 78 1 (.loop c) fr :=
  lp_ok tbok hmix h0 .no (G := spec_l1Fault.G) spec_l1Fault.Gok (L := mkL []) (l := []) hT [0, 3] [] [(0, ([0], []))] ([2], []) (fun x s => B x.1.1 s) (fun x s => ⟨[(0, .pt tDisk_ x.1.1), (3, .cs I64 s)], []⟩) (fun x => x.1.2.1)
    (fun x s => by simp only [B, mC, mB, mS, mO, mN]; kernel_rfl)
end spec_l1Fault_l0
namespace spec_l1Fault_l1
def c := codeAt (bodyOf Proofs.Try.f97) [1, 1, 1, 0, 1, 0, 0]
def sp : SP := ⟨[(0, .pt tDisk_), (5, .cs I64)], []⟩
def out (d : Disk_) : FOut (((Int) ⊕ (Unit))) := fun o _ k => sel o (fun b => k (.rt) ⟨[(2, .cs I64 b)], []⟩) (fun c => k (.ex 2) ⟨[], []⟩)
def fr := lfrag sp (fun x => spec_l1Fault_l1 x.1.1 x.1.2.1) fun x => out x.1.1
theorem ok : CodeOk PR 78 1 (.loop c) fr :=
  lp_ok tbok hmix h0 .no (G := spec_l1Fault.G) spec_l1Fault.Gok (L := mkL []) (l := []) hT [0, 5] [] [(2, ([], []))] ([2], []) (fun x s => B x.1.1 s) (fun x s => ⟨[(0, .pt tDisk_ x.1.1), (5, .cs I64 s)], []⟩) (fun x => x.1.2.1)
    (fun x s => by simp only [B, mC, mB, mS, mO, mN]; kernel_rfl)
end spec_l1Fault_l1
namespace spec_l1Fault
def pts : List PT := [.pt tDisk_]
def FS : FS := mkFS [.sh] pts (fun x => spec_l1Fault x.1) fun t => ⟨[.cs I64 t], []⟩
theorem ok : FsOk PR 97 FS :=
  fn_ok tbok hmix Proofs.Try.f97 h0 (.R (.R (.two (.R (.one (.fr 0))) (.L (.R (.one (.fr 1))))))) (G := G) Gok (L := mkL [(0, spec_l1Fault_l0.fr), (1, spec_l1Fault_l1.fr)]) (l := [(0, .loop spec_l1Fault_l0.c), (1, .loop spec_l1Fault_l1.c)]) ⟨Lam.cons spec_l1Fault_l0.ok, Lam.skip rfl (Lam.cons spec_l1Fault_l1.ok), trivial⟩
    (fun x => by simp only [spec_l1Fault, mC, mB, mS, mO, mN]; kernel_rfl)
end spec_l1Fault
def spec_l1At_l0.B (d : Disk_) (at_ : Int) (i_ : Int) : Option ((Int) ⊕ (((List Int) ⊕ (Unit)))) :=
  cond (decide (i_ ≥ 0)) (cond (inB i_ d.2.1.length) (cond (((d.2.1.getD i_.toNat zPut_).1) == at_) (cond (inB i_ d.2.1.length) (some (.inr (.inl (((d.2.1.getD i_.toNat zPut_).2).1)))) (none)) (some (.inl (w64 (i_ - 1))))) (none)) (some (.inr (.inr ())))
def spec_l1At_l0 (d : Disk_) (at_ : Int) : (Int) → Option (((List Int) ⊕ (Unit))) :=
  loopL fun s => spec_l1At_l0.B d at_ s
def spec_l1At (d : Disk_) (at_ : Int) : Option (List Int) :=
  (spec_l1At_l0 d at_ (w64 ((d.2.1.length : Int) - 1))).bind fun o => sel o (fun b => some b) (fun c => cond (inB at_ d.1.length) (some (d.1.getD at_.toNat [])) (none))
namespace spec_l1At_l0
def c := codeAt (bodyOf Proofs.Try.f98) [1, 0, 1, 0, 0]
def sp : SP := ⟨[(0, .pt tDisk_), (1, .cs I64), (5, .cs I64)], []⟩
def out (d : Disk_) (at_ : Int) : FOut (((List Int) ⊕ (Unit))) := fun o _ k => sel o (fun b => k (.rt) ⟨[(4, .cs SI b)], []⟩) (fun c => k (.ex 0) ⟨[(0, .pt tDisk_ d), (1, .cs I64 at_)], []⟩)
def fr := lfrag sp (fun x => spec_l1At_l0 x.1.1 x.1.2.1 x.1.2.2.1) fun x => out x.1.1 x.1.2.1
theorem ok : CodeOk PR 41 2 (.loop c) fr :=
  lp_ok tbok hmix h0 .no (G := (mkG [])) .nil (L := mkL []) (l := []) hT [0, 1, 5] [] [(0, ([0, 1], []))] ([4], []) (fun x s => B x.1.1 x.1.2.1 s) (fun x s => ⟨[(0, .pt tDisk_ x.1.1), (1, .cs I64 x.1.2.1), (5, .cs I64 s)], []⟩) (fun x => x.1.2.2.1)
    (fun x s => by simp only [B, mC, mB, mS, mO, mN]; kernel_rfl)
end spec_l1At_l0
namespace spec_l1At
def pts : List PT := [.pt tDisk_, .cs I64]
def FS : FS := mkFS [.sh, .sh] pts (fun x => spec_l1At x.1 x.2.1) fun t => ⟨[.cs SI t], []⟩
theorem ok : FsOk PR 98 FS :=
  fn_ok tbok hmix Proofs.Try.f98 h0 (.R (.L (.R (.one (.fr 0))))) (G := (mkG [])) .nil (L := mkL [(0, spec_l1At_l0.fr)]) (l := [(0, .loop spec_l1At_l0.c)]) ⟨Lam.cons spec_l1At_l0.ok, trivial⟩
    (fun x => by simp only [spec_l1At, mC, mB, mS, mO, mN]; kernel_rfl)
end spec_l1At
def spec_l12Seq (n : Int) : Option (Bool) :=
  (spec_l1In n 1 60000).bind fun r => some r
namespace spec_l12Seq
def G : Gam := mkG [(74, spec_l1In.FS)]
def pts : List PT := [.cs I64]
def FS : FS := mkFS [.sh] pts (fun x => spec_l12Seq x.1) fun t => ⟨[.cs .bool t], []⟩
theorem ok : FsOk PR 84 FS :=
  fn_ok tbok hmix Proofs.Try.f84 h0 .no (G := G) (show GOk PR G from .cons spec_l1In.ok .nil) (L := mkL []) (l := []) hT
    (fun x => by simp only [spec_l12Seq, mC, mB, mS, mO, mN]; kernel_rfl)
end spec_l12Seq
def spec_SeqOf (d : Disk_) : Option (IntResult_) :=
  (spec_l1Fault d).bind fun r => cond (r != 0) (some (r, 0, ())) (cond ((d.1.length : Int) != 47) (some (1, 0, ())) ((spec_l1At d 0).bind fun r2 => cond (cond (!((r2.length : Int) != 2)) (inB 0 r2.length) true) ((some (cond ((r2.length : Int) != 2) true ((r2.getD (0 : Int).toNat 0) != 7))).bind fun v => cond v (some (5, 0, ())) (cond (inB 1 r2.length) ((spec_l12Seq (r2.getD (1 : Int).toNat 0)).bind fun r3 => cond (!r3) (some (5, 0, ())) (cond (inB 1 r2.length) (some (0, r2.getD (1 : Int).toNat 0, ())) (none))) (none))) (none)))
namespace spec_SeqOf
def G : Gam := mkG [(97, spec_l1Fault.FS), (98, spec_l1At.FS), (84, spec_l12Seq.FS)]
def pts : List PT := [.cs tDisk_]
def FS : FS := mkFS [.sh] pts (fun x => spec_SeqOf x.1) fun t => ⟨[.cs tIntResult_ t], []⟩
theorem ok : FsOk PR 36 FS :=
  fn_ok tbok hmix Proofs.Try.f36 ⟨[1], [], [], 0⟩ .no (G := G) (show GOk PR G from .cons spec_l1Fault.ok (.cons spec_l1At.ok (.cons spec_l12Seq.ok .nil))) (L := mkL []) (l := []) hT
    (fun x => by simp only [spec_SeqOf, mC, mB, mS, mO, mN]; kernel_rfl)
end spec_SeqOf
def impl_within (n : Int) (low : Int) (high : Int) : Option (Bool) :=
  (some (cond (decide (n ≥ low)) (decide (n ≤ high)) false)).bind fun v => some v
namespace impl_within
def pts : List PT := [.cs I64, .cs I64, .cs I64]
def FS : FS := mkFS [.sh, .sh, .sh] pts (fun x => impl_within x.1 x.2.1 x.2.2.1) fun t => ⟨[.cs .bool t], []⟩
theorem ok : FsOk PR 95 FS :=
  fn_ok tbok hmix Proofs.Try.f95 h0 .no (G := (mkG [])) .nil (L := mkL []) (l := []) hT
    (fun x => by simp only [impl_within, mC, mB, mS, mO, mN]; kernel_rfl)
end impl_within
def impl_wordsFault_c1 (w : Int) : Option (Bool) :=
  (impl_within w 0 65535).bind fun r => some (!r)
namespace impl_wordsFault_c1
def G : Gam := mkG [(95, impl_within.FS)]
def pts : List PT := [.cs I64]
def FS : FS := mkFS [.sh] pts (fun x => impl_wordsFault_c1 x.1) fun t => ⟨[.cs .bool t], []⟩
theorem ok : FsOk PR 170 FS :=
  fn_ok tbok hmix Proofs.Try.f170 h0 .no (G := G) (show GOk PR G from .cons impl_within.ok .nil) (L := mkL []) (l := []) hT
    (fun x => by simp only [impl_wordsFault_c1, mC, mB, mS, mO, mN]; kernel_rfl)
end impl_wordsFault_c1
def slices_IndexFunc_int64_wordsFault_c1_l0.B (s_ : List Int) (f : Unit) (v : Int) (v2 : Int) : Option ((Int) ⊕ (((Int) ⊕ (Unit)))) :=
  cond (decide (v2 < v)) (cond (inB v2 s_.length) ((impl_wordsFault_c1 (s_.getD v2.toNat 0)).bind fun r => cond r (some (.inr (.inl v2))) (some (.inl (w64 (v2 + 1))))) (none)) (some (.inr (.inr ())))
def slices_IndexFunc_int64_wordsFault_c1_l0 (s_ : List Int) (f : Unit) (v : Int) : (Int) → Option (((Int) ⊕ (Unit))) :=
  loopL fun s => slices_IndexFunc_int64_wordsFault_c1_l0.B s_ f v s
def slices_IndexFunc_int64_wordsFault_c1 (s_ : List Int) (f : Unit) : Option (Int) :=
  (slices_IndexFunc_int64_wordsFault_c1_l0 s_ f (s_.length : Int) 0).bind fun o => sel o (fun b => some b) (fun c => some (-1))
namespace slices_IndexFunc_int64_wordsFault_c1
def G : Gam := mkG [(170, impl_wordsFault_c1.FS)]
theorem Gok : GOk PR G := .cons impl_wordsFault_c1.ok .nil
end slices_IndexFunc_int64_wordsFault_c1
namespace slices_IndexFunc_int64_wordsFault_c1_l0
def c := codeAt (bodyOf Proofs.Try.f172) [1, 0, 1, 0, 0]
def sp : SP := ⟨[(0, .cs SI), (1, .clo 170 (.cs .unit)), (7, .cs I64), (8, .cs I64)], []⟩
def out (s_ : List Int) (f : Unit) (v : Int) : FOut (((Int) ⊕ (Unit))) := fun o _ k => sel o (fun b => k (.rt) ⟨[(4, .cs I64 b)], []⟩) (fun c => k (.ex 0) ⟨[], []⟩)
def fr := lfrag sp (fun x => slices_IndexFunc_int64_wordsFault_c1_l0 x.1.1 x.1.2.1 x.1.2.2.1 x.1.2.2.2.1) fun x => out x.1.1 x.1.2.1 x.1.2.2.1
theorem ok : CodeOk PR 19 2 (.loop c) fr :=
  lp_ok tbok hmix h0 .no (G := slices_IndexFunc_int64_wordsFault_c1.G) slices_IndexFunc_int64_wordsFault_c1.Gok (L := mkL []) (l := []) hT [0, 1, 7, 8] [] [(0, ([], []))] ([4], []) (fun x s => B x.1.1 x.1.2.1 x.1.2.2.1 s) (fun x s => ⟨[(0, .cs SI x.1.1), (1, .clo 170 (.cs .unit x.1.2.1)), (7, .cs I64 x.1.2.2.1), (8, .cs I64 s)], []⟩) (fun x => x.1.2.2.2.1)
    (fun x s => by simp only [B, mC, mB, mS, mO, mN]; kernel_rfl)
end slices_IndexFunc_int64_wordsFault_c1_l0
namespace slices_IndexFunc_int64_wordsFault_c1
def pts : List PT := [.cs SI, .clo 170 (.cs .unit)]
def FS : FS := mkFS [.sh, .sh] pts (fun x => slices_IndexFunc_int64_wordsFault_c1 x.1 x.2.1) fun t => ⟨[.cs I64 t], []⟩
theorem ok : FsOk PR 172 FS :=
  fn_ok tbok hmix Proofs.Try.f172 h0 (.R (.L (.R (.one (.fr 0))))) (G := G) Gok (L := mkL [(0, slices_IndexFunc_int64_wordsFault_c1_l0.fr)]) (l := [(0, .loop slices_IndexFunc_int64_wordsFault_c1_l0.c)]) ⟨Lam.cons slices_IndexFunc_int64_wordsFault_c1_l0.ok, trivial⟩
    (fun x => by simp only [slices_IndexFunc_int64_wordsFault_c1, mC, mB, mS, mO, mN]; kernel_rfl)
end slices_IndexFunc_int64_wordsFault_c1
def slices_ContainsFunc_int64_wordsFault_c1 (s_ : List Int) (f : Unit) : Option (Bool) :=
  (slices_IndexFunc_int64_wordsFault_c1 s_ f).bind fun r => some (decide (r ≥ 0))
namespace slices_ContainsFunc_int64_wordsFault_c1
def G : Gam := mkG [(172, slices_IndexFunc_int64_wordsFault_c1.FS)]
def pts : List PT := [.cs SI, .clo 170 (.cs .unit)]
def FS : FS := mkFS [.sh, .sh] pts (fun x => slices_ContainsFunc_int64_wordsFault_c1 x.1 x.2.1) fun t => ⟨[.cs .bool t], []⟩
theorem ok : FsOk PR 149 FS :=
  fn_ok tbok hmix Proofs.Try.f149 h0 .no (G := G) (show GOk PR G from .cons slices_IndexFunc_int64_wordsFault_c1.ok .nil) (L := mkL []) (l := []) hT
    (fun x => by simp only [slices_ContainsFunc_int64_wordsFault_c1, mC, mB, mS, mO, mN]; kernel_rfl)
end slices_ContainsFunc_int64_wordsFault_c1
def impl_wordsFault (words : List Int) : Option (Int) :=
  cond (decide ((words.length : Int) > 64)) (some 2) ((slices_ContainsFunc_int64_wordsFault_c1 words ()).bind fun r => cond r (some 3) (some 0))
namespace impl_wordsFault
def G : Gam := mkG [(149, slices_ContainsFunc_int64_wordsFault_c1.FS)]
def pts : List PT := [.cs SI]
def FS : FS := mkFS [.sh] pts (fun x => impl_wordsFault x.1) fun t => ⟨[.cs I64 t], []⟩
theorem ok : FsOk PR 135 FS :=
  fn_ok tbok hmix Proofs.Try.f135 h0 .no (G := G) (show GOk PR G from .cons slices_ContainsFunc_int64_wordsFault_c1.ok .nil) (L := mkL []) (l := []) hT
    (fun x => by simp only [impl_wordsFault, mC, mB, mS, mO, mN]; kernel_rfl)
end impl_wordsFault
def impl_size_Sint64 (l : List (List Int)) : Option (Int) :=
  some (l.length : Int)
namespace impl_size_Sint64
def pts : List PT := [.cs (.sl SI)]
def FS : FS := mkFS [.sh] pts (fun x => impl_size_Sint64 x.1) fun t => ⟨[.cs I64 t], []⟩
theorem ok : FsOk PR 109 FS :=
  fn_ok tbok hmix Proofs.Try.f109 h0 .no (G := (mkG [])) .nil (L := mkL []) (l := []) hT
    (fun x => by simp only [impl_size_Sint64, mC, mB, mS, mO, mN]; kernel_rfl)
end impl_size_Sint64
def impl_diskFault_l0.B (d : Disk_) (v2 : List (List Int)) (v3 : Int) (v4 : Int) : Option ((Int) ⊕ (((Int) ⊕ (Unit)))) :=
  cond (decide (v4 < v3)) (cond (inB v4 v2.length) ((impl_wordsFault (v2.getD v4.toNat [])).bind fun r => cond (r != 0) (some (.inr (.inl r))) (some (.inl (w64 (v4 + 1))))) (none)) (some (.inr (.inr ())))
def impl_diskFault_l0 (d : Disk_) (v2 : List (List Int)) (v3 : Int) : (Int) → Option (((Int) ⊕ (Unit))) :=
  loopL fun s => impl_diskFault_l0.B d v2 v3 s
def impl_diskFault_l1.B (d : Disk_) (v5 : List Put_) (v6 : Int) (v7 : Int) : Option ((Int) ⊕ (((Int) ⊕ (Unit)))) :=
  cond (decide (v7 < v6)) (cond (inB v7 v5.length) ((impl_size_Sint64 d.1).bind fun r2 => (impl_within ((v5.getD v7.toNat zPut_).1) 0 (w64 (r2 - 1))).bind fun r3 => cond (!r3) (some (.inr (.inl 3))) ((impl_wordsFault (((v5.getD v7.toNat zPut_).2).1)).bind fun r4 => cond (r4 != 0) (some (.inr (.inl r4))) (some (.inl (w64 (v7 + 1)))))) (none)) (some (.inr (.inr ())))
def impl_diskFault_l1 (d : Disk_) (v5 : List Put_) (v6 : Int) : (Int) → Option (((Int) ⊕ (Unit))) :=
  loopL fun s => impl_diskFault_l1.B d v5 v6 s
def impl_diskFault (d : Disk_) : Option (Int) :=
  (some (cond (decide ((d.1.length : Int) > 60)) true (decide ((d.2.1.length : Int) > 200)))).bind fun v => cond v (some 2) ((impl_diskFault_l0 d d.1 (d.1.length : Int) 0).bind fun o => sel o (fun b => some b) (fun c => (impl_diskFault_l1 d d.2.1 (d.2.1.length : Int) 0).bind fun o2 => sel o2 (fun b2 => some b2) (fun c2 => some 0)))
namespace impl_diskFault
def G : Gam := mkG [(135, impl_wordsFault.FS), (109, impl_size_Sint64.FS), (95, impl_within.FS)]
theorem Gok : GOk PR G := .cons impl_wordsFault.ok (.cons impl_size_Sint64.ok (.cons impl_within.ok .nil))
end impl_diskFault
namespace impl_diskFault_l0
def c := codeAt (bodyOf Proofs.Try.f106) [1, 1, 0, 1, 0, 0]
def sp : SP := ⟨[(1, .pt tDisk_), (20, .cs (.sl SI)), (21, .cs I64), (22, .cs I64)], []⟩
def out (d : Disk_) (v2 : List (List Int)) (v3 : Int) : FOut (((Int) ⊕ (Unit))) := fun o _ k => sel o (fun b => k (.rt) ⟨[(2, .cs I64 b)], []⟩) (fun c => k (.ex 0) ⟨[(1, .pt tDisk_ d)], []⟩)
def fr := lfrag sp (fun x => impl_diskFault_l0 x.1.1 x.1.2.1 x.1.2.2.1 x.1.2.2.2.1) fun x => out x.1.1 x.1.2.1 x.1.2.2.1
theorem ok : CodeOk PR 54 1 (.loop c) fr :=
  lp_ok tbok hmix ⟨[1], [], [], 0⟩ .no (G := impl_diskFault.G) impl_diskFault.Gok (L := mkL []) (l := []) hT [1, 20, 21, 22] [] [(0, ([1], []))] ([2], []) (fun x s => B x.1.1 x.1.2.1 x.1.2.2.1 s) (fun x s => ⟨[(1, .pt tDisk_ x.1.1), (20, .cs (.sl SI) x.1.2.1), (21, .cs I64 x.1.2.2.1), (22, .cs I64 s)], []⟩) (fun x => x.1.2.2.2.1)
    (fun x s => by simp only [B, mC, mB, mS, mO, mN]; kernel_rfl)
end impl_diskFault_l0
namespace impl_diskFault_l1
def c := codeAt (bodyOf Proofs.Try.f106) [1, 1, 1, 0, 1, 0, 0]
def sp : SP := ⟨[(1, .pt tDisk_), (33, .cs (.sl tPut_)), (34, .cs I64), (35, .cs I64)], []⟩
def out (d : Disk_) (v5 : List Put_) (v6 : Int) : FOut (((Int) ⊕ (Unit))) := fun o _ k => sel o (fun b => k (.rt) ⟨[(2, .cs I64 b)], []⟩) (fun c => k (.ex 2) ⟨[], []⟩)
def fr := lfrag sp (fun x => impl_diskFault_l1 x.1.1 x.1.2.1 x.1.2.2.1 x.1.2.2.2.1) fun x => out x.1.1 x.1.2.1 x.1.2.2.1
theorem ok : CodeOk PR 54 1 (.loop c) fr :=
  lp_ok tbok hmix ⟨[1], [], [], 0⟩ .no (G := impl_diskFault.G) impl_diskFault.Gok (L := mkL []) (l := []) hT [1, 33, 34, 35] [] [(2, ([], []))] ([2], []) (fun x s => B x.1.1 x.1.2.1 x.1.2.2.1 s) (fun x s => ⟨[(1, .pt tDisk_ x.1.1), (33, .cs (.sl tPut_) x.1.2.1), (34, .cs I64 x.1.2.2.1), (35, .cs I64 s)], []⟩) (fun x => x.1.2.2.2.1)
    (fun x s => by simp only [B, mC, mB, mS, mO, mN]; kernel_rfl)
end impl_diskFault_l1
namespace impl_diskFault
def pts : List PT := [.cs tDisk_]
def FS : FS := mkFS [.sh] pts (fun x => impl_diskFault x.1) fun t => ⟨[.cs I64 t], []⟩
theorem ok : FsOk PR 106 FS :=
  fn_ok tbok hmix Proofs.Try.f106 ⟨[1], [], [], 0⟩ (.R (.R (.two (.R (.one (.fr 0))) (.L (.R (.one (.fr 1))))))) (G := G) Gok (L := mkL [(0, impl_diskFault_l0.fr), (1, impl_diskFault_l1.fr)]) (l := [(0, .loop impl_diskFault_l0.c), (1, .loop impl_diskFault_l1.c)]) ⟨Lam.cons impl_diskFault_l0.ok, Lam.skip rfl (Lam.cons impl_diskFault_l1.ok), trivial⟩
    (fun x => by simp only [impl_diskFault, mC, mB, mS, mO, mN]; kernel_rfl)
end impl_diskFault
def impl_Disk_block (d : Disk_) (at_ : Int) : Option (List Int) := blockP d at_
def impl_Disk_block.FS : FS := mkFS [.sh, .sh] [.pt tDiskB, .cl .sh (.int .i64)] (fun x => blockP x.1 x.2.1) fun y => ⟨[.cl .sh (.sl (.int .i64)) y], []⟩
theorem impl_Disk_block.ok : FsOk Go.Proofs.Try.prog 140 impl_Disk_block.FS :=
  block_fs ⟨Go.Proofs.Try.f140, by kernel_rfl, by kernel_rfl, by kernel_rfl⟩ (fun bd od at_ A C nB cB nC cC hd w v h1 h2 h3 h4 h5 h6 => callsIn_wide.1 (Go.Proofs.Bk.block_in Fence.wide 3 trivial trivial trivial rfl (by omega) bd od at_ A C nB cB nC cC hd w v h1 h2 h3 h4 h5 h6))
def impl_isSeq (seq : Int) : Option (Bool) :=
  (impl_within seq 1 60000).bind fun r => some r
namespace impl_isSeq
def G : Gam := mkG [(95, impl_within.FS)]
def pts : List PT := [.cs I64]
def FS : FS := mkFS [.sh] pts (fun x => impl_isSeq x.1) fun t => ⟨[.cs .bool t], []⟩
theorem ok : FsOk PR 86 FS :=
  fn_ok tbok hmix Proofs.Try.f86 h0 .no (G := G) (show GOk PR G from .cons impl_within.ok .nil) (L := mkL []) (l := []) hT
    (fun x => by simp only [impl_isSeq, mC, mB, mS, mO, mN]; kernel_rfl)
end impl_isSeq
def impl_seqOf (d : Disk_) : Option (Int × Int) :=
  (impl_diskFault d).bind fun r => cond (r != 0) (some (0, r)) (cond ((d.1.length : Int) != 47) (some (0, 1)) ((impl_Disk_block d 0).bind fun r2 => cond (cond (!((r2.length : Int) != 2)) (inB 0 r2.length) true) ((some (cond ((r2.length : Int) != 2) true ((r2.getD (0 : Int).toNat 0) != 7))).bind fun v => cond v (some (0, 5)) (cond (inB 1 r2.length) ((impl_isSeq (r2.getD (1 : Int).toNat 0)).bind fun r3 => cond (!r3) (some (0, 5)) (cond (inB 1 r2.length) (some (r2.getD (1 : Int).toNat 0, 0)) (none))) (none))) (none)))
namespace impl_seqOf
def G : Gam := mkG [(106, impl_diskFault.FS), (140, impl_Disk_block.FS), (86, impl_isSeq.FS)]
def pts : List PT := [.cs tDisk_]
def FS : FS := mkFS [.sh] pts (fun x => impl_seqOf x.1) fun t => ⟨[.cs I64 t.1, .cs I64 t.2], []⟩
theorem ok : FsOk PR 100 FS :=
  fn_ok tbok hmix Proofs.Try.f100 ⟨[1], [], [], 0⟩ .no (G := G) (show GOk PR G from .cons impl_diskFault.ok (.cons impl_Disk_block.ok (.cons impl_isSeq.ok .nil))) (L := mkL []) (l := []) hT
    (fun x => by simp only [impl_seqOf, mC, mB, mS, mO, mN]; kernel_rfl)
end impl_seqOf
def impl_SeqOf (d : Disk_) : Option (IntResult_) :=
  (impl_seqOf d).bind fun r => some (r.2, r.1, ())
namespace impl_SeqOf
def G : Gam := mkG [(100, impl_seqOf.FS)]
def pts : List PT := [.cs tDisk_]
def FS : FS := mkFS [.sh] pts (fun x => impl_SeqOf x.1) fun t => ⟨[.cs tIntResult_ t], []⟩
theorem ok : FsOk PR 38 FS :=
  fn_ok tbok hmix Proofs.Try.f38 ⟨[1], [], [], 0⟩ .no (G := G) (show GOk PR G from .cons impl_seqOf.ok .nil) (L := mkL []) (l := []) hT
    (fun x => by simp only [impl_SeqOf, mC, mB, mS, mO, mN]; kernel_rfl)
end impl_SeqOf
def laws_eqIntResult (a : IntResult_) (b : IntResult_) : Option (Bool) :=
  cond (a.1 != b.1) (some false) (cond (a.2.1 != b.2.1) (some false) (some true))
namespace laws_eqIntResult
def pts : List PT := [.cs tIntResult_, .cs tIntResult_]
def FS : FS := mkFS [.sh, .sh] pts (fun x => laws_eqIntResult x.1 x.2.1) fun t => ⟨[.cs .bool t], []⟩
theorem ok : FsOk PR 33 FS :=
  fn_ok tbok hmix Proofs.Try.f33 ⟨[2, 3], [], [], 0⟩ .no (G := (mkG [])) .nil (L := mkL []) (l := []) hT
    (fun x => by simp only [laws_eqIntResult, mC, mB, mS, mO, mN]; kernel_rfl)
end laws_eqIntResult
def laws_eqInt64S_l0.B (a : List Int) (b : List Int) (i_ : Int) : Option ((Int) ⊕ (((Bool) ⊕ (Unit)))) :=
  cond (decide (i_ < (a.length : Int))) (cond (inB i_ a.length) (cond (inB i_ b.length) (cond ((a.getD i_.toNat 0) != (b.getD i_.toNat 0)) (some (.inr (.inl false))) (some (.inl (w64 (i_ + 1))))) (none)) (none)) (some (.inr (.inr ())))
def laws_eqInt64S_l0 (a : List Int) (b : List Int) : (Int) → Option (((Bool) ⊕ (Unit))) :=
  loopL fun s => laws_eqInt64S_l0.B a b s
def laws_eqInt64S (a : List Int) (b : List Int) : Option (Bool) :=
  cond ((a.length : Int) != (b.length : Int)) (some false) ((laws_eqInt64S_l0 a b 0).bind fun o => sel o (fun b2 => some b2) (fun c => some true))
namespace laws_eqInt64S_l0
def c := codeAt (bodyOf Proofs.Try.f83) [1, 1, 0, 1, 0, 0]
def sp : SP := ⟨[(0, .cs SI), (1, .cs SI), (5, .cs I64)], []⟩
def out (a : List Int) (b : List Int) : FOut (((Bool) ⊕ (Unit))) := fun o _ k => sel o (fun b => k (.rt) ⟨[(4, .cs .bool b)], []⟩) (fun c => k (.ex 0) ⟨[], []⟩)
def fr := lfrag sp (fun x => laws_eqInt64S_l0 x.1.1 x.1.2.1 x.1.2.2.1) fun x => out x.1.1 x.1.2.1
theorem ok : CodeOk PR 26 2 (.loop c) fr :=
  lp_ok tbok hmix h0 .no (G := (mkG [])) .nil (L := mkL []) (l := []) hT [0, 1, 5] [] [(0, ([], []))] ([4], []) (fun x s => B x.1.1 x.1.2.1 s) (fun x s => ⟨[(0, .cs SI x.1.1), (1, .cs SI x.1.2.1), (5, .cs I64 s)], []⟩) (fun x => x.1.2.2.1)
    (fun x s => by simp only [B, mC, mB, mS, mO, mN]; kernel_rfl)
end laws_eqInt64S_l0
namespace laws_eqInt64S
def pts : List PT := [.cs SI, .cs SI]
def FS : FS := mkFS [.sh, .sh] pts (fun x => laws_eqInt64S x.1 x.2.1) fun t => ⟨[.cs .bool t], []⟩
theorem ok : FsOk PR 83 FS :=
  fn_ok tbok hmix Proofs.Try.f83 h0 (.R (.R (.L (.R (.one (.fr 0)))))) (G := (mkG [])) .nil (L := mkL [(0, laws_eqInt64S_l0.fr)]) (l := [(0, .loop laws_eqInt64S_l0.c)]) ⟨Lam.cons laws_eqInt64S_l0.ok, trivial⟩
    (fun x => by simp only [laws_eqInt64S, mC, mB, mS, mO, mN]; kernel_rfl)
end laws_eqInt64S
def laws_eqInt64SS_l0.B (a : List (List Int)) (b : List (List Int)) (i_ : Int) : Option ((Int) ⊕ (((Bool) ⊕ (Unit)))) :=
  cond (decide (i_ < (a.length : Int))) (cond (inB i_ a.length) (cond (inB i_ b.length) ((laws_eqInt64S (a.getD i_.toNat []) (b.getD i_.toNat [])).bind fun r => cond (!r) (some (.inr (.inl false))) (some (.inl (w64 (i_ + 1))))) (none)) (none)) (some (.inr (.inr ())))
def laws_eqInt64SS_l0 (a : List (List Int)) (b : List (List Int)) : (Int) → Option (((Bool) ⊕ (Unit))) :=
  loopL fun s => laws_eqInt64SS_l0.B a b s
def laws_eqInt64SS (a : List (List Int)) (b : List (List Int)) : Option (Bool) :=
  cond ((a.length : Int) != (b.length : Int)) (some false) ((laws_eqInt64SS_l0 a b 0).bind fun o => sel o (fun b2 => some b2) (fun c => some true))
namespace laws_eqInt64SS
def G : Gam := mkG [(83, laws_eqInt64S.FS)]
theorem Gok : GOk PR G := .cons laws_eqInt64S.ok .nil
end laws_eqInt64SS
namespace laws_eqInt64SS_l0
def c := codeAt (bodyOf Proofs.Try.f101) [1, 1, 0, 1, 0, 0]
def sp : SP := ⟨[(0, .cs (.sl SI)), (1, .cs (.sl SI)), (5, .cs I64)], []⟩
def out (a : List (List Int)) (b : List (List Int)) : FOut (((Bool) ⊕ (Unit))) := fun o _ k => sel o (fun b => k (.rt) ⟨[(4, .cs .bool b)], []⟩) (fun c => k (.ex 0) ⟨[], []⟩)
def fr := lfrag sp (fun x => laws_eqInt64SS_l0 x.1.1 x.1.2.1 x.1.2.2.1) fun x => out x.1.1 x.1.2.1
theorem ok : CodeOk PR 27 2 (.loop c) fr :=
  lp_ok tbok hmix h0 .no (G := laws_eqInt64SS.G) laws_eqInt64SS.Gok (L := mkL []) (l := []) hT [0, 1, 5] [] [(0, ([], []))] ([4], []) (fun x s => B x.1.1 x.1.2.1 s) (fun x s => ⟨[(0, .cs (.sl SI) x.1.1), (1, .cs (.sl SI) x.1.2.1), (5, .cs I64 s)], []⟩) (fun x => x.1.2.2.1)
    (fun x s => by simp only [B, mC, mB, mS, mO, mN]; kernel_rfl)
end laws_eqInt64SS_l0
namespace laws_eqInt64SS
def pts : List PT := [.cs (.sl SI), .cs (.sl SI)]
def FS : FS := mkFS [.sh, .sh] pts (fun x => laws_eqInt64SS x.1 x.2.1) fun t => ⟨[.cs .bool t], []⟩
theorem ok : FsOk PR 101 FS :=
  fn_ok tbok hmix Proofs.Try.f101 h0 (.R (.R (.L (.R (.one (.fr 0)))))) (G := G) Gok (L := mkL [(0, laws_eqInt64SS_l0.fr)]) (l := [(0, .loop laws_eqInt64SS_l0.c)]) ⟨Lam.cons laws_eqInt64SS_l0.ok, trivial⟩
    (fun x => by simp only [laws_eqInt64SS, mC, mB, mS, mO, mN]; kernel_rfl)
end laws_eqInt64SS
def laws_eqPut (a : Put_) (b : Put_) : Option (Bool) :=
  cond (a.1 != b.1) (some false) ((laws_eqInt64S a.2.1 b.2.1).bind fun r => cond (!r) (some false) (some true))
namespace laws_eqPut
def G : Gam := mkG [(83, laws_eqInt64S.FS)]
def pts : List PT := [.cs tPut_, .cs tPut_]
def FS : FS := mkFS [.sh, .sh] pts (fun x => laws_eqPut x.1 x.2.1) fun t => ⟨[.cs .bool t], []⟩
theorem ok : FsOk PR 112 FS :=
  fn_ok tbok hmix Proofs.Try.f112 ⟨[2, 3], [], [], 0⟩ .no (G := G) (show GOk PR G from .cons laws_eqInt64S.ok .nil) (L := mkL []) (l := []) hT
    (fun x => by simp only [laws_eqPut, mC, mB, mS, mO, mN]; kernel_rfl)
end laws_eqPut
def laws_eqPutS_l0.B (a : List Put_) (b : List Put_) (i_ : Int) : Option ((Int) ⊕ (((Bool) ⊕ (Unit)))) :=
  cond (decide (i_ < (a.length : Int))) (cond (inB i_ a.length) (cond (inB i_ b.length) ((laws_eqPut (a.getD i_.toNat zPut_) (b.getD i_.toNat zPut_)).bind fun r => cond (!r) (some (.inr (.inl false))) (some (.inl (w64 (i_ + 1))))) (none)) (none)) (some (.inr (.inr ())))
def laws_eqPutS_l0 (a : List Put_) (b : List Put_) : (Int) → Option (((Bool) ⊕ (Unit))) :=
  loopL fun s => laws_eqPutS_l0.B a b s
def laws_eqPutS (a : List Put_) (b : List Put_) : Option (Bool) :=
  cond ((a.length : Int) != (b.length : Int)) (some false) ((laws_eqPutS_l0 a b 0).bind fun o => sel o (fun b2 => some b2) (fun c => some true))
namespace laws_eqPutS
def G : Gam := mkG [(112, laws_eqPut.FS)]
theorem Gok : GOk PR G := .cons laws_eqPut.ok .nil
end laws_eqPutS
namespace laws_eqPutS_l0
def c := codeAt (bodyOf Proofs.Try.f45) [1, 1, 0, 1, 0, 0]
def sp : SP := ⟨[(0, .cs (.sl tPut_)), (1, .cs (.sl tPut_)), (5, .cs I64)], []⟩
def out (a : List Put_) (b : List Put_) : FOut (((Bool) ⊕ (Unit))) := fun o _ k => sel o (fun b => k (.rt) ⟨[(4, .cs .bool b)], []⟩) (fun c => k (.ex 0) ⟨[], []⟩)
def fr := lfrag sp (fun x => laws_eqPutS_l0 x.1.1 x.1.2.1 x.1.2.2.1) fun x => out x.1.1 x.1.2.1
theorem ok : CodeOk PR 27 2 (.loop c) fr :=
  lp_ok tbok hmix h0 .no (G := laws_eqPutS.G) laws_eqPutS.Gok (L := mkL []) (l := []) hT [0, 1, 5] [] [(0, ([], []))] ([4], []) (fun x s => B x.1.1 x.1.2.1 s) (fun x s => ⟨[(0, .cs (.sl tPut_) x.1.1), (1, .cs (.sl tPut_) x.1.2.1), (5, .cs I64 s)], []⟩) (fun x => x.1.2.2.1)
    (fun x s => by simp only [B, mC, mB, mS, mO, mN]; kernel_rfl)
end laws_eqPutS_l0
namespace laws_eqPutS
def pts : List PT := [.cs (.sl tPut_), .cs (.sl tPut_)]
def FS : FS := mkFS [.sh, .sh] pts (fun x => laws_eqPutS x.1 x.2.1) fun t => ⟨[.cs .bool t], []⟩
theorem ok : FsOk PR 45 FS :=
  fn_ok tbok hmix Proofs.Try.f45 h0 (.R (.R (.L (.R (.one (.fr 0)))))) (G := G) Gok (L := mkL [(0, laws_eqPutS_l0.fr)]) (l := [(0, .loop laws_eqPutS_l0.c)]) ⟨Lam.cons laws_eqPutS_l0.ok, trivial⟩
    (fun x => by simp only [laws_eqPutS, mC, mB, mS, mO, mN]; kernel_rfl)
end laws_eqPutS
def laws_eqDisk (a : Disk_) (b : Disk_) : Option (Bool) :=
  (laws_eqInt64SS a.1 b.1).bind fun r => cond (!r) (some false) ((laws_eqPutS a.2.1 b.2.1).bind fun r2 => cond (!r2) (some false) (some true))
namespace laws_eqDisk
def G : Gam := mkG [(101, laws_eqInt64SS.FS), (45, laws_eqPutS.FS)]
def pts : List PT := [.cs tDisk_, .cs tDisk_]
def FS : FS := mkFS [.sh, .sh] pts (fun x => laws_eqDisk x.1 x.2.1) fun t => ⟨[.cs .bool t], []⟩
theorem ok : FsOk PR 39 FS :=
  fn_ok tbok hmix Proofs.Try.f39 ⟨[2, 3], [], [], 0⟩ .no (G := G) (show GOk PR G from .cons laws_eqInt64SS.ok (.cons laws_eqPutS.ok .nil)) (L := mkL []) (l := []) hT
    (fun x => by simp only [laws_eqDisk, mC, mB, mS, mO, mN]; kernel_rfl)
end laws_eqDisk
def laws_FnExactSeqOf (aD : Disk_) : Option (Bool) :=
  (laws_szDisk aD 1048576).bind fun r => cond (decide (r < 0)) (some true) ((laws_toDisk aD).bind fun r2 => (spec_SeqOf (r2.1, r2.2.1, r2.2.2)).bind fun r3 => (laws_toDisk aD).bind fun r4 => (impl_SeqOf (r4.1, r4.2.1, r4.2.2)).bind fun r5 => (laws_eqIntResult r5 r3).bind fun r6 => cond (!r6) (some false) ((laws_toDisk aD).bind fun r7 => (laws_eqDisk (r4.1, r4.2.1, r4.2.2) (r7.1, r7.2.1, r7.2.2)).bind fun r8 => cond (!r8) (some false) (some true)))
namespace laws_FnExactSeqOf
def G : Gam := mkG [(35, laws_szDisk.FS), (37, laws_toDisk.FS), (36, spec_SeqOf.FS), (38, impl_SeqOf.FS), (33, laws_eqIntResult.FS), (39, laws_eqDisk.FS)]
def pts : List PT := [.cs tDisk_]
def FS : FS := mkFS [.sh] pts (fun x => laws_FnExactSeqOf x.1) fun t => ⟨[.cs .bool t], []⟩
theorem ok : FsOk PR 7 FS :=
  fn_ok tbok hmix Proofs.Try.f7 ⟨[1], [], [], 0⟩ .no (G := G) (show GOk PR G from .cons laws_szDisk.ok (.cons laws_toDisk.ok (.cons spec_SeqOf.ok (.cons impl_SeqOf.ok (.cons laws_eqIntResult.ok (.cons laws_eqDisk.ok .nil)))))) (L := mkL []) (l := []) hT
    (fun x => by simp only [laws_FnExactSeqOf, mC, mB, mS, mO, mN]; kernel_rfl)
end laws_FnExactSeqOf
end Mf
