/- The functions that FnExactSizeOf reaches: what each computes, and that it does. -/
import Derived.Test.YtgdajbngfigjdaaMf7
import Derived.Test.YtgdajbngfigjdaaProg
import Derived.KernelRfl
import Derived.Shelf.SortM.Plain
import Derived.Shelf.SortM.SortNone
import Derived.Shelf.SlGeneric
import Derived.Ground.SlgmProg
namespace Go.Proofs
open Go.Shelf
def Try.sortLay_ren : Go.Shelf.Ren := ⟨fun | 5 => 111 | 8 => 122 | 7 => 121 | 19 => 133 | 20 => 134 | 10 => 124 | 11 => 125 | 12 => 126 | 13 => 127 | 14 => 128 | 15 => 129 | 16 => 130 | 17 => 131 | 18 => 132 | 30 => 135 | 31 => 136 | 32 => 137 | 33 => 138 | 34 => 139 | 35 => 140 | 40 => 141 | n => n, fun | 23 => 27 | 25 => 2 | 3 => 3 | 32 => 134 | 22 => 27 | 0 => 0 | 44 => 146 | 46 => 148 | 4 => 4 | 36 => 138 | 35 => 137 | 41 => 143 | 5 => 5 | 9 => 9 | 53 => 149 | 57 => 153 | 63 => 155 | 64 => 156 | n => n, fun | n => n⟩
theorem Try.sortLay : Go.Proofs.SlLaysM.n5 Try.prog Try.sortLay_ren := {
  mixed := by kernel_rfl
  f5 := ⟨Try.f111.name, by decide, Try.func111.trans (congrArg some (by kernel_rfl))⟩
  f7 := ⟨Try.f121.name, by decide, Try.func121.trans (congrArg some (by kernel_rfl))⟩
  f8 := Try.func122.trans (congrArg some (by kernel_rfl))
  f10 := ⟨Try.f124.name, by decide, Try.func124.trans (congrArg some (by kernel_rfl))⟩
  f11 := ⟨Try.f125.name, by decide, Try.func125.trans (congrArg some (by kernel_rfl))⟩
  f12 := ⟨Try.f126.name, by decide, Try.func126.trans (congrArg some (by kernel_rfl))⟩
  f13 := ⟨Try.f127.name, by decide, Try.func127.trans (congrArg some (by kernel_rfl))⟩
  f14 := ⟨Try.f128.name, by decide, Try.func128.trans (congrArg some (by kernel_rfl))⟩
  f15 := ⟨Try.f129.name, by decide, Try.func129.trans (congrArg some (by kernel_rfl))⟩
  f16 := ⟨Try.f130.name, by decide, Try.func130.trans (congrArg some (by kernel_rfl))⟩
  f17 := ⟨Try.f131.name, by decide, Try.func131.trans (congrArg some (by kernel_rfl))⟩
  f18 := ⟨Try.f132.name, by decide, Try.func132.trans (congrArg some (by kernel_rfl))⟩
  f19 := Try.func133.trans (congrArg some (by kernel_rfl))
  f20 := Try.func134.trans (congrArg some (by kernel_rfl))
  f30 := ⟨Try.f135.name, by decide, Try.func135.trans (congrArg some (by kernel_rfl))⟩
  f31 := Try.func136.trans (congrArg some (by kernel_rfl))
  f32 := Try.func137.trans (congrArg some (by kernel_rfl))
  f33 := ⟨Try.f138.name, by decide, Try.func138.trans (congrArg some (by kernel_rfl))⟩
  f34 := ⟨Try.f139.name, by decide, Try.func139.trans (congrArg some (by kernel_rfl))⟩
  f35 := ⟨Try.f140.name, by decide, Try.func140.trans (congrArg some (by kernel_rfl))⟩
  f40 := ⟨Try.f141.name, by decide, Try.func141.trans (congrArg some (by kernel_rfl))⟩
  t0 := Try.underlying0
  a0 := Try.isAgg0
  z0 := Try.sizeOf0
  v0 := Try.zeroValue0
  t3 := Try.underlying3
  a3 := Try.isAgg3
  z3 := Try.sizeOf3
  v3 := Try.zeroValue3
  t4 := Try.underlying4
  a4 := Try.isAgg4
  z4 := Try.sizeOf4
  v4 := Try.zeroValue4
  t5 := Try.underlying5
  a5 := Try.isAgg5
  z5 := Try.sizeOf5
  v5 := Try.zeroValue5
  t9 := Try.underlying9
  a9 := Try.isAgg9
  z9 := Try.sizeOf9
  v9 := Try.zeroValue9
  t22 := Try.underlying27
  a22 := Try.isAgg27
  z22 := Try.sizeOf27
  v22 := Try.zeroValue27
  t23 := Try.underlying27
  a23 := Try.isAgg27
  z23 := Try.sizeOf27
  v23 := Try.zeroValue27
  t25 := Try.underlying2
  a25 := Try.isAgg2
  z25 := Try.sizeOf2
  v25 := Try.zeroValue2
  t32 := Try.underlying134
  a32 := Try.isAgg134
  z32 := Try.sizeOf134
  v32 := Try.zeroValue134
  t35 := Try.underlying137
  a35 := Try.isAgg137
  z35 := Try.sizeOf137
  v35 := Try.zeroValue137
  t36 := Try.underlying138
  a36 := Try.isAgg138
  z36 := Try.sizeOf138
  v36 := Try.zeroValue138
  t41 := Try.underlying143
  a41 := Try.isAgg143
  z41 := Try.sizeOf143
  v41 := Try.zeroValue143
  t44 := Try.underlying146
  a44 := Try.isAgg146
  z44 := Try.sizeOf146
  v44 := Try.zeroValue146
  t46 := Try.underlying148
  a46 := Try.isAgg148
  z46 := Try.sizeOf148
  v46 := Try.zeroValue148
  t53 := Try.underlying149
  a53 := Try.isAgg149
  z53 := Try.sizeOf149
  v53 := Try.zeroValue149
  t57 := Try.underlying153
  a57 := Try.isAgg153
  z57 := Try.sizeOf153
  v57 := Try.zeroValue153
  t63 := Try.underlying155
  a63 := Try.isAgg155
  z63 := Try.sizeOf155
  v63 := Try.zeroValue155
  t64 := Try.underlying156
  a64 := Try.isAgg156
  z64 := Try.sizeOf156
  v64 := Try.zeroValue156 }
end Go.Proofs
noncomputable section
namespace Mf
open Go
set_option linter.unusedVariables false
set_option linter.unusedSimpArgs false
set_option maxRecDepth 100000
abbrev tEntry_ : Ty := (.pair .str (.pair (.int .i64) .unit))
abbrev Entry_ : Type := (List UInt8) × Int × Unit
def zEntry_ : Entry_ := ([], 0, ())
abbrev tInode_ : Ty := (.pair (.int .i64) (.pair (.int .i64) (.pair (.int .i64) (.pair (.sl (.int .i64)) (.pair (.sl tEntry_) .unit)))))
abbrev Inode_ : Type := Int × Int × Int × (List Int) × (List Entry_) × Unit
def zInode_ : Inode_ := (0, 0, 0, [], [], ())
abbrev tFs_ : Ty := (.pair (.sl tInode_) (.pair (.sl (.sl (.int .u8))) .unit))
abbrev Fs_ : Type := (List Inode_) × (List (List Int)) × Unit
def zFs_ : Fs_ := ([], [], ())
abbrev tFsResult_ : Ty := (.pair (.int .i64) (.pair tFs_ .unit))
abbrev FsResult_ : Type := Int × Fs_ × Unit
def zFsResult_ : FsResult_ := (0, ([], [], ()), ())
abbrev tIntResult_ : Ty := (.pair (.int .i64) (.pair (.int .i64) .unit))
abbrev IntResult_ : Type := Int × Int × Unit
def zIntResult_ : IntResult_ := (0, 0, ())
abbrev tIntsResult_ : Ty := (.pair (.int .i64) (.pair (.sl (.int .i64)) .unit))
abbrev IntsResult_ : Type := Int × (List Int) × Unit
def zIntsResult_ : IntsResult_ := (0, [], ())
abbrev tLook_ : Ty := (.pair tFs_ (.pair (.sl .bool) (.pair (.sl (.sl tEntry_)) (.pair (.int .i64) (.pair (.sl (.int .i64)) (.pair (.sl (.int .i64)) .unit))))))
abbrev Look_ : Type := Fs_ × (List Bool) × (List (List Entry_)) × Int × (List Int) × (List Int) × Unit
def zLook_ : Look_ := (([], [], ()), [], [], 0, [], [], ())
abbrev tBoundsError_ : Ty := (.pair (.int .i64) (.pair (.int .i64) (.pair .bool (.pair (.int .u8) .unit))))
abbrev BoundsError_ : Type := Int × Int × Bool × Int × Unit
def zBoundsError_ : BoundsError_ := (0, 0, false, 0, ())
abbrev tErrorAddressString_ : Ty := (.pair .str (.pair (.int .u64) .unit))
abbrev ErrorAddressString_ : Type := (List UInt8) × Int × Unit
def zErrorAddressString_ : ErrorAddressString_ := ([], 0, ())
abbrev PR : Program := Go.Proofs.Try.prog
def tb : Tb := [(2, ⟨.int .i64, (.int .i64), 8⟩), (3, ⟨.int .i64, (.int .i64), 8⟩), (4, ⟨.bool, .bool, 1⟩), (5, ⟨.int .u8, (.int .u8), 1⟩), (6, ⟨.int .u8, (.int .u8), 1⟩), (7, ⟨.st [0, 1, 2, 3], tBoundsError_, 24⟩), (8, ⟨.st [0, 1, 2, 3], tBoundsError_, 24⟩), (9, ⟨.str, .str, 16⟩), (10, ⟨.str, .str, 16⟩), (11, ⟨.str, .str, 16⟩), (12, ⟨.int .u64, (.int .u64), 8⟩), (13, ⟨.st [0, 1], tErrorAddressString_, 24⟩), (14, ⟨.st [0, 1], tErrorAddressString_, 24⟩), (21, ⟨.int .i32, (.int .i32), 4⟩), (22, ⟨.sl 73, (.sl tInode_), 24⟩), (23, ⟨.sl 75, (.sl (.sl (.int .u8))), 24⟩), (24, ⟨.st [0, 1], tFs_, 48⟩), (25, ⟨.st [0, 1], tFs_, 48⟩), (27, ⟨.sl 2, (.sl (.int .i64)), 24⟩), (28, ⟨.st [0, 1], tIntsResult_, 32⟩), (29, ⟨.st [0, 1], tIntsResult_, 32⟩), (31, ⟨.sl 69, (.sl tInode_), 24⟩), (32, ⟨.st [0, 1], tFs_, 48⟩), (33, ⟨.st [0, 1], tFs_, 48⟩), (40, ⟨.st [0, 1], tFsResult_, 56⟩), (41, ⟨.st [0, 1], tFsResult_, 56⟩), (45, ⟨.st [0, 1], tIntResult_, 16⟩), (46, ⟨.st [0, 1], tIntResult_, 16⟩), (67, ⟨.sl 95, (.sl tEntry_), 24⟩), (68, ⟨.st [0, 1, 2, 3, 4], tInode_, 72⟩), (69, ⟨.st [0, 1, 2, 3, 4], tInode_, 72⟩), (71, ⟨.sl 121, (.sl tEntry_), 24⟩), (72, ⟨.st [0, 1, 2, 3, 4], tInode_, 72⟩), (73, ⟨.st [0, 1, 2, 3, 4], tInode_, 72⟩), (75, ⟨.sl 5, (.sl (.int .u8)), 24⟩), (77, ⟨.sl 4, (.sl .bool), 24⟩), (84, ⟨.sl 67, (.sl (.sl tEntry_)), 24⟩), (85, ⟨.st [0, 2, 3, 4, 5, 6], tLook_, 152⟩), (86, ⟨.st [0, 2, 3, 4, 5, 6], tLook_, 152⟩), (88, ⟨.arr 20 2, (.arr 20 (.int .i64)), 160⟩), (94, ⟨.st [0, 1], tEntry_, 24⟩), (95, ⟨.st [0, 1], tEntry_, 24⟩), (121, ⟨.st [0, 1], tEntry_, 24⟩), (134, ⟨.int .u64, (.int .u64), 8⟩), (137, ⟨.int .i64, (.int .i64), 8⟩), (146, ⟨.int .u32, (.int .u32), 4⟩), (148, ⟨.int .u64, (.int .u64), 8⟩), (149, ⟨.int .u64, (.int .u64), 8⟩), (165, ⟨.int .u8, (.int .u8), 1⟩), (166, ⟨.int .u8, (.int .u8), 1⟩), (169, ⟨.int .i32, (.int .i32), 4⟩), (170, ⟨.int .i32, (.int .i32), 4⟩)]
theorem tbok : TbOk Go.Proofs.Try.prog tb := tbB_ok (by kernel_rfl)
theorem hmix : Go.Proofs.Try.prog.follows .mixedOrders = true := by kernel_rfl
def laws_szInt64S (a : List Int) (left : Int) : Option (Int) :=
  cond (decide ((w64 (left - (a.length : Int))) < 0)) (some (-1)) (some (w64 (left - (a.length : Int))))
namespace laws_szInt64S
def pts : List PT := [.cs SI, .cs I64]
def FS : FS := mkFS [.sh, .sh] pts (fun x => laws_szInt64S x.1 x.2.1) fun t => ⟨[.cs I64 t], []⟩
theorem ok : FsOk PR 72 FS :=
  fn_ok tbok hmix Proofs.Try.f72 h0 .no (G := (mkG [])) .nil (L := mkL []) (l := []) hT
    (fun x => by simp only [laws_szInt64S, mC, mB, mS, mO, mN]; kernel_rfl)
end laws_szInt64S
def laws_szEntry (a : Entry_) (left : Int) : Option (Int) :=
  cond (decide ((w64 (left - (a.1.length : Int))) < 0)) (some (-1)) (some (w64 (left - (a.1.length : Int))))
namespace laws_szEntry
def pts : List PT := [.cs tEntry_, .cs I64]
def FS : FS := mkFS [.sh, .sh] pts (fun x => laws_szEntry x.1 x.2.1) fun t => ⟨[.cs I64 t], []⟩
theorem ok : FsOk PR 99 FS :=
  fn_ok tbok hmix Proofs.Try.f99 ⟨[2], [], [], 0⟩ .no (G := (mkG [])) .nil (L := mkL []) (l := []) hT
    (fun x => by simp only [laws_szEntry, mC, mB, mS, mO, mN]; kernel_rfl)
end laws_szEntry
def laws_szEntryS_l0.B (a : List Entry_) (left_ : Int) (i_ : Int) : Option ((Int × Int) ⊕ (((Int) ⊕ (Int)))) :=
  cond (decide (i_ < (a.length : Int))) (cond (inB i_ a.length) ((laws_szEntry (a.getD i_.toNat zEntry_) left_).bind fun r => cond (decide (r < 0)) (some (.inr (.inl (-1)))) (some (.inl (r, w64 (i_ + 1))))) (none)) (some (.inr (.inr left_)))
def laws_szEntryS_l0 (a : List Entry_) : (Int × Int) → Option (((Int) ⊕ (Int))) :=
  loopL fun s => laws_szEntryS_l0.B a s.1 s.2
def laws_szEntryS (a : List Entry_) (left : Int) : Option (Int) :=
  cond (decide ((w64 (left - (a.length : Int))) < 0)) (some (-1)) ((laws_szEntryS_l0 a (w64 (left - (a.length : Int)), 0)).bind fun o => sel o (fun b => some b) (fun c => some c))
namespace laws_szEntryS
def G : Gam := mkG [(99, laws_szEntry.FS)]
theorem Gok : GOk PR G := .cons laws_szEntry.ok .nil
end laws_szEntryS
namespace laws_szEntryS_l0
def c := codeAt (bodyOf Proofs.Try.f73) [1, 1, 1, 0, 1, 0, 0]
def sp : SP := ⟨[(0, .cs (.sl tEntry_)), (1, .cs I64), (5, .cs I64)], []⟩
def out (a : List Entry_) : FOut (((Int) ⊕ (Int))) := fun o _ k => sel o (fun b => k (.rt) ⟨[(4, .cs I64 b)], []⟩) (fun c => k (.ex 0) ⟨[(1, .cs I64 c)], []⟩)
def fr := lfrag sp (fun x => laws_szEntryS_l0 x.1.1 (x.1.2.1, x.1.2.2.1)) fun x => out x.1.1
theorem ok : CodeOk PR 27 2 (.loop c) fr :=
  lp_ok tbok hmix h0 .no (G := laws_szEntryS.G) laws_szEntryS.Gok (L := mkL []) (l := []) hT [0, 1, 5] [] [(0, ([1], []))] ([4], []) (fun x s => B x.1.1 s.1 s.2) (fun x s => ⟨[(0, .cs (.sl tEntry_) x.1.1), (1, .cs I64 s.1), (5, .cs I64 s.2)], []⟩) (fun x => (x.1.2.1, x.1.2.2.1))
    (fun x s => by simp only [B, mC, mB, mS, mO, mN]; kernel_rfl)
end laws_szEntryS_l0
namespace laws_szEntryS
def pts : List PT := [.cs (.sl tEntry_), .cs I64]
def FS : FS := mkFS [.sh, .sh] pts (fun x => laws_szEntryS x.1 x.2.1) fun t => ⟨[.cs I64 t], []⟩
theorem ok : FsOk PR 73 FS :=
  fn_ok tbok hmix Proofs.Try.f73 h0 (.R (.R (.R (.L (.R (.one (.fr 0))))))) (G := G) Gok (L := mkL [(0, laws_szEntryS_l0.fr)]) (l := [(0, .loop laws_szEntryS_l0.c)]) ⟨Lam.cons laws_szEntryS_l0.ok, trivial⟩
    (fun x => by simp only [laws_szEntryS, mC, mB, mS, mO, mN]; kernel_rfl)
end laws_szEntryS
def laws_szInode (a : Inode_) (left : Int) : Option (Int) :=
  (laws_szInt64S a.2.2.2.1 left).bind fun r => cond (decide (r < 0)) (some (-1)) ((laws_szEntryS a.2.2.2.2.1 r).bind fun r2 => cond (decide (r2 < 0)) (some (-1)) (some r2))
namespace laws_szInode
def G : Gam := mkG [(72, laws_szInt64S.FS), (73, laws_szEntryS.FS)]
def pts : List PT := [.cs tInode_, .cs I64]
def FS : FS := mkFS [.sh, .sh] pts (fun x => laws_szInode x.1 x.2.1) fun t => ⟨[.cs I64 t], []⟩
theorem ok : FsOk PR 43 FS :=
  fn_ok tbok hmix Proofs.Try.f43 ⟨[2], [], [], 0⟩ .no (G := G) (show GOk PR G from .cons laws_szInt64S.ok (.cons laws_szEntryS.ok .nil)) (L := mkL []) (l := []) hT
    (fun x => by simp only [laws_szInode, mC, mB, mS, mO, mN]; kernel_rfl)
end laws_szInode
def laws_szInodeS_l0.B (a : List Inode_) (left_ : Int) (i_ : Int) : Option ((Int × Int) ⊕ (((Int) ⊕ (Int)))) :=
  cond (decide (i_ < (a.length : Int))) (cond (inB i_ a.length) ((laws_szInode (a.getD i_.toNat zInode_) left_).bind fun r => cond (decide (r < 0)) (some (.inr (.inl (-1)))) (some (.inl (r, w64 (i_ + 1))))) (none)) (some (.inr (.inr left_)))
def laws_szInodeS_l0 (a : List Inode_) : (Int × Int) → Option (((Int) ⊕ (Int))) :=
  loopL fun s => laws_szInodeS_l0.B a s.1 s.2
def laws_szInodeS (a : List Inode_) (left : Int) : Option (Int) :=
  cond (decide ((w64 (left - (a.length : Int))) < 0)) (some (-1)) ((laws_szInodeS_l0 a (w64 (left - (a.length : Int)), 0)).bind fun o => sel o (fun b => some b) (fun c => some c))
namespace laws_szInodeS
def G : Gam := mkG [(43, laws_szInode.FS)]
theorem Gok : GOk PR G := .cons laws_szInode.ok .nil
end laws_szInodeS
namespace laws_szInodeS_l0
def c := codeAt (bodyOf Proofs.Try.f23) [1, 1, 1, 0, 1, 0, 0]
def sp : SP := ⟨[(0, .cs (.sl tInode_)), (1, .cs I64), (5, .cs I64)], []⟩
def out (a : List Inode_) : FOut (((Int) ⊕ (Int))) := fun o _ k => sel o (fun b => k (.rt) ⟨[(4, .cs I64 b)], []⟩) (fun c => k (.ex 0) ⟨[(1, .cs I64 c)], []⟩)
def fr := lfrag sp (fun x => laws_szInodeS_l0 x.1.1 (x.1.2.1, x.1.2.2.1)) fun x => out x.1.1
theorem ok : CodeOk PR 27 2 (.loop c) fr :=
  lp_ok tbok hmix h0 .no (G := laws_szInodeS.G) laws_szInodeS.Gok (L := mkL []) (l := []) hT [0, 1, 5] [] [(0, ([1], []))] ([4], []) (fun x s => B x.1.1 s.1 s.2) (fun x s => ⟨[(0, .cs (.sl tInode_) x.1.1), (1, .cs I64 s.1), (5, .cs I64 s.2)], []⟩) (fun x => (x.1.2.1, x.1.2.2.1))
    (fun x s => by simp only [B, mC, mB, mS, mO, mN]; kernel_rfl)
end laws_szInodeS_l0
namespace laws_szInodeS
def pts : List PT := [.cs (.sl tInode_), .cs I64]
def FS : FS := mkFS [.sh, .sh] pts (fun x => laws_szInodeS x.1 x.2.1) fun t => ⟨[.cs I64 t], []⟩
theorem ok : FsOk PR 23 FS :=
  fn_ok tbok hmix Proofs.Try.f23 h0 (.R (.R (.R (.L (.R (.one (.fr 0))))))) (G := G) Gok (L := mkL [(0, laws_szInodeS_l0.fr)]) (l := [(0, .loop laws_szInodeS_l0.c)]) ⟨Lam.cons laws_szInodeS_l0.ok, trivial⟩
    (fun x => by simp only [laws_szInodeS, mC, mB, mS, mO, mN]; kernel_rfl)
end laws_szInodeS
def laws_szByteS (a : List Int) (left : Int) : Option (Int) :=
  cond (decide ((w64 (left - (a.length : Int))) < 0)) (some (-1)) (some (w64 (left - (a.length : Int))))
namespace laws_szByteS
def pts : List PT := [.cs SB, .cs I64]
def FS : FS := mkFS [.sh, .sh] pts (fun x => laws_szByteS x.1 x.2.1) fun t => ⟨[.cs I64 t], []⟩
theorem ok : FsOk PR 44 FS :=
  fn_ok tbok hmix Proofs.Try.f44 h0 .no (G := (mkG [])) .nil (L := mkL []) (l := []) hT
    (fun x => by simp only [laws_szByteS, mC, mB, mS, mO, mN]; kernel_rfl)
end laws_szByteS
def laws_szByteSS_l0.B (a : List (List Int)) (left_ : Int) (i_ : Int) : Option ((Int × Int) ⊕ (((Int) ⊕ (Int)))) :=
  cond (decide (i_ < (a.length : Int))) (cond (inB i_ a.length) ((laws_szByteS (a.getD i_.toNat []) left_).bind fun r => cond (decide (r < 0)) (some (.inr (.inl (-1)))) (some (.inl (r, w64 (i_ + 1))))) (none)) (some (.inr (.inr left_)))
def laws_szByteSS_l0 (a : List (List Int)) : (Int × Int) → Option (((Int) ⊕ (Int))) :=
  loopL fun s => laws_szByteSS_l0.B a s.1 s.2
def laws_szByteSS (a : List (List Int)) (left : Int) : Option (Int) :=
  cond (decide ((w64 (left - (a.length : Int))) < 0)) (some (-1)) ((laws_szByteSS_l0 a (w64 (left - (a.length : Int)), 0)).bind fun o => sel o (fun b => some b) (fun c => some c))
namespace laws_szByteSS
def G : Gam := mkG [(44, laws_szByteS.FS)]
theorem Gok : GOk PR G := .cons laws_szByteS.ok .nil
end laws_szByteSS
namespace laws_szByteSS_l0
def c := codeAt (bodyOf Proofs.Try.f24) [1, 1, 1, 0, 1, 0, 0]
def sp : SP := ⟨[(0, .cs (.sl SB)), (1, .cs I64), (5, .cs I64)], []⟩
def out (a : List (List Int)) : FOut (((Int) ⊕ (Int))) := fun o _ k => sel o (fun b => k (.rt) ⟨[(4, .cs I64 b)], []⟩) (fun c => k (.ex 0) ⟨[(1, .cs I64 c)], []⟩)
def fr := lfrag sp (fun x => laws_szByteSS_l0 x.1.1 (x.1.2.1, x.1.2.2.1)) fun x => out x.1.1
theorem ok : CodeOk PR 27 2 (.loop c) fr :=
  lp_ok tbok hmix h0 .no (G := laws_szByteSS.G) laws_szByteSS.Gok (L := mkL []) (l := []) hT [0, 1, 5] [] [(0, ([1], []))] ([4], []) (fun x s => B x.1.1 s.1 s.2) (fun x s => ⟨[(0, .cs (.sl SB) x.1.1), (1, .cs I64 s.1), (5, .cs I64 s.2)], []⟩) (fun x => (x.1.2.1, x.1.2.2.1))
    (fun x s => by simp only [B, mC, mB, mS, mO, mN]; kernel_rfl)
end laws_szByteSS_l0
namespace laws_szByteSS
def pts : List PT := [.cs (.sl SB), .cs I64]
def FS : FS := mkFS [.sh, .sh] pts (fun x => laws_szByteSS x.1 x.2.1) fun t => ⟨[.cs I64 t], []⟩
theorem ok : FsOk PR 24 FS :=
  fn_ok tbok hmix Proofs.Try.f24 h0 (.R (.R (.R (.L (.R (.one (.fr 0))))))) (G := G) Gok (L := mkL [(0, laws_szByteSS_l0.fr)]) (l := [(0, .loop laws_szByteSS_l0.c)]) ⟨Lam.cons laws_szByteSS_l0.ok, trivial⟩
    (fun x => by simp only [laws_szByteSS, mC, mB, mS, mO, mN]; kernel_rfl)
end laws_szByteSS
def laws_szFs (a : Fs_) (left : Int) : Option (Int) :=
  (laws_szInodeS a.1 left).bind fun r => cond (decide (r < 0)) (some (-1)) ((laws_szByteSS a.2.1 r).bind fun r2 => cond (decide (r2 < 0)) (some (-1)) (some r2))
namespace laws_szFs
def G : Gam := mkG [(23, laws_szInodeS.FS), (24, laws_szByteSS.FS)]
def pts : List PT := [.cs tFs_, .cs I64]
def FS : FS := mkFS [.sh, .sh] pts (fun x => laws_szFs x.1 x.2.1) fun t => ⟨[.cs I64 t], []⟩
theorem ok : FsOk PR 6 FS :=
  fn_ok tbok hmix Proofs.Try.f6 ⟨[2], [], [], 0⟩ .no (G := G) (show GOk PR G from .cons laws_szInodeS.ok (.cons laws_szByteSS.ok .nil)) (L := mkL []) (l := []) hT
    (fun x => by simp only [laws_szFs, mC, mB, mS, mO, mN]; kernel_rfl)
end laws_szFs
def laws_toInt64S_l0.B (a : List Int) (i_ : Int) (out_ : List Int) : Option ((Int × List Int) ⊕ (List Int)) :=
  cond (decide (i_ < (a.length : Int))) (cond (inB i_ a.length) (cond (inB i_ out_.length) (some (.inl (w64 (i_ + 1), out_.set i_.toNat (a.getD i_.toNat 0)))) (none)) (none)) (some (.inr out_))
def laws_toInt64S_l0 (a : List Int) : (Int × List Int) → Option (List Int) :=
  loopL fun s => laws_toInt64S_l0.B a s.1 s.2
def laws_toInt64S (a : List Int) : Option (List Int) :=
  cond (decide ((0 : Int) ≤ (a.length : Int)) && (decide ((a.length : Int) ≤ (a.length : Int)) && decide ((a.length : Int) ≤ 2147483648))) ((laws_toInt64S_l0 a (0, List.replicate (a.length : Int).toNat 0)).bind fun o => some o) (none)
namespace laws_toInt64S_l0
def c := codeAt (bodyOf Proofs.Try.f80) [1, 1, 0, 1, 0, 0]
def sp : SP := ⟨[(0, .cs SI), (3, .seg 3 []), (4, .cs I64)], [(3, .reg, .cd SI)]⟩
def out (a : List Int) : FOut (List Int) := fun b _ k => k (.ex 0) ⟨[(3, .seg 3 [])], [sr 3 (.cd SI b)]⟩
def fr := lfrag sp (fun x => laws_toInt64S_l0 x.1.1 (x.1.2.2.1, x.2.1)) fun x => out x.1.1
theorem ok : CodeOk PR 22 1 (.loop c) fr :=
  lp_ok tbok hmix h0 .no (G := (mkG [])) .nil (L := mkL []) (l := []) hT [0, 3, 4] [3] [(0, ([3], [3]))] ([], []) (fun x s => B x.1.1 s.1 s.2) (fun x s => ⟨[(0, .cs SI x.1.1), (3, .seg 3 []), (4, .cs I64 s.1)], [sr 3 (.cd SI s.2)]⟩) (fun x => (x.1.2.2.1, x.2.1))
    (fun x s => by simp only [B, mC, mB, mS, mO, mN]; kernel_rfl)
end laws_toInt64S_l0
namespace laws_toInt64S
def pts : List PT := [.cs SI]
def FS : FS := mkFS [.sh] pts (fun x => laws_toInt64S x.1) fun t => ⟨[.cd SI t], []⟩
theorem ok : FsOk PR 80 FS :=
  fn_ok tbok hmix Proofs.Try.f80 h0 (.R (.R (.L (.R (.one (.fr 0)))))) (G := (mkG [])) .nil (L := mkL [(0, laws_toInt64S_l0.fr)]) (l := [(0, .loop laws_toInt64S_l0.c)]) ⟨Lam.cons laws_toInt64S_l0.ok, trivial⟩
    (fun x => by simp only [laws_toInt64S, mC, mB, mS, mO, mN]; kernel_rfl)
end laws_toInt64S
def laws_toEntry (a : Entry_) : Option (Entry_) :=
  some (a.1, a.2.1, ())
namespace laws_toEntry
def pts : List PT := [.cs tEntry_]
def FS : FS := mkFS [.sh] pts (fun x => laws_toEntry x.1) fun t => ⟨[.cs tEntry_ t], []⟩
theorem ok : FsOk PR 104 FS :=
  fn_ok tbok hmix Proofs.Try.f104 ⟨[1], [], [], 0⟩ .no (G := (mkG [])) .nil (L := mkL []) (l := []) hT
    (fun x => by simp only [laws_toEntry, mC, mB, mS, mO, mN]; kernel_rfl)
end laws_toEntry
def laws_toEntryS_l0.B (a : List Entry_) (i_ : Int) (out_ : List Entry_) : Option ((Int × List Entry_) ⊕ (List Entry_)) :=
  cond (decide (i_ < (a.length : Int))) (cond (inB i_ a.length) ((laws_toEntry (a.getD i_.toNat zEntry_)).bind fun r => cond (inB i_ out_.length) (some (.inl (w64 (i_ + 1), out_.set i_.toNat r))) (none)) (none)) (some (.inr out_))
def laws_toEntryS_l0 (a : List Entry_) : (Int × List Entry_) → Option (List Entry_) :=
  loopL fun s => laws_toEntryS_l0.B a s.1 s.2
def laws_toEntryS (a : List Entry_) : Option (List Entry_) :=
  cond (decide ((0 : Int) ≤ (a.length : Int)) && (decide ((a.length : Int) ≤ (a.length : Int)) && decide ((a.length : Int) ≤ 2147483648))) ((laws_toEntryS_l0 a (0, List.replicate (a.length : Int).toNat zEntry_)).bind fun o => some o) (none)
namespace laws_toEntryS
def G : Gam := mkG [(104, laws_toEntry.FS)]
theorem Gok : GOk PR G := .cons laws_toEntry.ok .nil
end laws_toEntryS
namespace laws_toEntryS_l0
def c := codeAt (bodyOf Proofs.Try.f81) [1, 1, 0, 1, 0, 0]
def sp : SP := ⟨[(0, .cs (.sl tEntry_)), (3, .seg 3 []), (4, .cs I64)], [(3, .reg, .cd (.sl tEntry_))]⟩
def out (a : List Entry_) : FOut (List Entry_) := fun b _ k => k (.ex 0) ⟨[(3, .seg 3 [])], [sr 3 (.cd (.sl tEntry_) b)]⟩
def fr := lfrag sp (fun x => laws_toEntryS_l0 x.1.1 (x.1.2.2.1, x.2.1)) fun x => out x.1.1
theorem ok : CodeOk PR 23 1 (.loop c) fr :=
  lp_ok tbok hmix h0 .no (G := laws_toEntryS.G) laws_toEntryS.Gok (L := mkL []) (l := []) hT [0, 3, 4] [3] [(0, ([3], [3]))] ([], []) (fun x s => B x.1.1 s.1 s.2) (fun x s => ⟨[(0, .cs (.sl tEntry_) x.1.1), (3, .seg 3 []), (4, .cs I64 s.1)], [sr 3 (.cd (.sl tEntry_) s.2)]⟩) (fun x => (x.1.2.2.1, x.2.1))
    (fun x s => by simp only [B, mC, mB, mS, mO, mN]; kernel_rfl)
end laws_toEntryS_l0
namespace laws_toEntryS
def pts : List PT := [.cs (.sl tEntry_)]
def FS : FS := mkFS [.sh] pts (fun x => laws_toEntryS x.1) fun t => ⟨[.cd (.sl tEntry_) t], []⟩
theorem ok : FsOk PR 81 FS :=
  fn_ok tbok hmix Proofs.Try.f81 h0 (.R (.R (.L (.R (.one (.fr 0)))))) (G := G) Gok (L := mkL [(0, laws_toEntryS_l0.fr)]) (l := [(0, .loop laws_toEntryS_l0.c)]) ⟨Lam.cons laws_toEntryS_l0.ok, trivial⟩
    (fun x => by simp only [laws_toEntryS, mC, mB, mS, mO, mN]; kernel_rfl)
end laws_toEntryS
def laws_toInode (a : Inode_) : Option (Inode_) :=
  (laws_toInt64S a.2.2.2.1).bind fun r => (laws_toEntryS a.2.2.2.2.1).bind fun r2 => some (a.1, a.2.1, a.2.2.1, r, r2, ())
namespace laws_toInode
def G : Gam := mkG [(80, laws_toInt64S.FS), (81, laws_toEntryS.FS)]
def pts : List PT := [.cs tInode_]
def FS : FS := mkFS [.sh] pts (fun x => laws_toInode x.1) fun t => ⟨[.cd tInode_ t], []⟩
theorem ok : FsOk PR 49 FS :=
  fn_ok tbok hmix Proofs.Try.f49 ⟨[1], [], [], 0⟩ .no (G := G) (show GOk PR G from .cons laws_toInt64S.ok (.cons laws_toEntryS.ok .nil)) (L := mkL []) (l := []) hT
    (fun x => by simp only [laws_toInode, mC, mB, mS, mO, mN]; kernel_rfl)
end laws_toInode
def laws_toInodeS_l0.B (a : List Inode_) (i_ : Int) (out_ : List Inode_) : Option ((Int × List Inode_) ⊕ (List Inode_)) :=
  cond (decide (i_ < (a.length : Int))) (cond (inB i_ a.length) ((laws_toInode (a.getD i_.toNat zInode_)).bind fun r => cond (inB i_ out_.length) ((some (out_.set i_.toNat (r.1, r.2.1, r.2.2.1, r.2.2.2.1, r.2.2.2.2.1, r.2.2.2.2.2))).bind fun out_2 => some (.inl (w64 (i_ + 1), out_2))) (none)) (none)) (some (.inr out_))
def laws_toInodeS_l0 (a : List Inode_) : (Int × List Inode_) → Option (List Inode_) :=
  loopL fun s => laws_toInodeS_l0.B a s.1 s.2
def laws_toInodeS (a : List Inode_) : Option (List Inode_) :=
  cond (decide ((0 : Int) ≤ (a.length : Int)) && (decide ((a.length : Int) ≤ (a.length : Int)) && decide ((a.length : Int) ≤ 2147483648))) ((laws_toInodeS_l0 a (0, List.replicate (a.length : Int).toNat zInode_)).bind fun o => some o) (none)
namespace laws_toInodeS
def G : Gam := mkG [(49, laws_toInode.FS)]
theorem Gok : GOk PR G := .cons laws_toInode.ok .nil
end laws_toInodeS
namespace laws_toInodeS_l0
def c := codeAt (bodyOf Proofs.Try.f27) [1, 1, 0, 1, 0, 0]
def sp : SP := ⟨[(0, .cs (.sl tInode_)), (3, .seg 3 []), (4, .cs I64)], [(3, .reg, .cd (.sl tInode_))]⟩
def out (a : List Inode_) : FOut (List Inode_) := fun b _ k => k (.ex 0) ⟨[(3, .seg 3 [])], [sr 3 (.cd (.sl tInode_) b)]⟩
def fr := lfrag sp (fun x => laws_toInodeS_l0 x.1.1 (x.1.2.2.1, x.2.1)) fun x => out x.1.1
theorem ok : CodeOk PR 23 1 (.loop c) fr :=
  lp_ok tbok hmix h0 .no (G := laws_toInodeS.G) laws_toInodeS.Gok (L := mkL []) (l := []) hT [0, 3, 4] [3] [(0, ([3], [3]))] ([], []) (fun x s => B x.1.1 s.1 s.2) (fun x s => ⟨[(0, .cs (.sl tInode_) x.1.1), (3, .seg 3 []), (4, .cs I64 s.1)], [sr 3 (.cd (.sl tInode_) s.2)]⟩) (fun x => (x.1.2.2.1, x.2.1))
    (fun x s => by simp only [B, mC, mB, mS, mO, mN]; kernel_rfl)
end laws_toInodeS_l0
namespace laws_toInodeS
def pts : List PT := [.cs (.sl tInode_)]
def FS : FS := mkFS [.sh] pts (fun x => laws_toInodeS x.1) fun t => ⟨[.cd (.sl tInode_) t], []⟩
theorem ok : FsOk PR 27 FS :=
  fn_ok tbok hmix Proofs.Try.f27 h0 (.R (.R (.L (.R (.one (.fr 0)))))) (G := G) Gok (L := mkL [(0, laws_toInodeS_l0.fr)]) (l := [(0, .loop laws_toInodeS_l0.c)]) ⟨Lam.cons laws_toInodeS_l0.ok, trivial⟩
    (fun x => by simp only [laws_toInodeS, mC, mB, mS, mO, mN]; kernel_rfl)
end laws_toInodeS
def laws_toByteS_l0.B (a : List Int) (i_ : Int) (out_ : List Int) : Option ((Int × List Int) ⊕ (List Int)) :=
  cond (decide (i_ < (a.length : Int))) (cond (inB i_ a.length) (cond (inB i_ out_.length) (some (.inl (w64 (i_ + 1), out_.set i_.toNat (a.getD i_.toNat 0)))) (none)) (none)) (some (.inr out_))
def laws_toByteS_l0 (a : List Int) : (Int × List Int) → Option (List Int) :=
  loopL fun s => laws_toByteS_l0.B a s.1 s.2
def laws_toByteS (a : List Int) : Option (List Int) :=
  cond (decide ((0 : Int) ≤ (a.length : Int)) && (decide ((a.length : Int) ≤ (a.length : Int)) && decide ((a.length : Int) ≤ 2147483648))) ((laws_toByteS_l0 a (0, List.replicate (a.length : Int).toNat 0)).bind fun o => some o) (none)
namespace laws_toByteS_l0
def c := codeAt (bodyOf Proofs.Try.f50) [1, 1, 0, 1, 0, 0]
def sp : SP := ⟨[(0, .cs SB), (3, .seg 3 []), (4, .cs I64)], [(3, .reg, .cd SB)]⟩
def out (a : List Int) : FOut (List Int) := fun b _ k => k (.ex 0) ⟨[(3, .seg 3 [])], [sr 3 (.cd SB b)]⟩
def fr := lfrag sp (fun x => laws_toByteS_l0 x.1.1 (x.1.2.2.1, x.2.1)) fun x => out x.1.1
theorem ok : CodeOk PR 22 1 (.loop c) fr :=
  lp_ok tbok hmix h0 .no (G := (mkG [])) .nil (L := mkL []) (l := []) hT [0, 3, 4] [3] [(0, ([3], [3]))] ([], []) (fun x s => B x.1.1 s.1 s.2) (fun x s => ⟨[(0, .cs SB x.1.1), (3, .seg 3 []), (4, .cs I64 s.1)], [sr 3 (.cd SB s.2)]⟩) (fun x => (x.1.2.2.1, x.2.1))
    (fun x s => by simp only [B, mC, mB, mS, mO, mN]; kernel_rfl)
end laws_toByteS_l0
namespace laws_toByteS
def pts : List PT := [.cs SB]
def FS : FS := mkFS [.sh] pts (fun x => laws_toByteS x.1) fun t => ⟨[.cd SB t], []⟩
theorem ok : FsOk PR 50 FS :=
  fn_ok tbok hmix Proofs.Try.f50 h0 (.R (.R (.L (.R (.one (.fr 0)))))) (G := (mkG [])) .nil (L := mkL [(0, laws_toByteS_l0.fr)]) (l := [(0, .loop laws_toByteS_l0.c)]) ⟨Lam.cons laws_toByteS_l0.ok, trivial⟩
    (fun x => by simp only [laws_toByteS, mC, mB, mS, mO, mN]; kernel_rfl)
end laws_toByteS
def laws_toByteSS_l0.B (a : List (List Int)) (i_ : Int) (out_ : List (List Int)) : Option ((Int × List (List Int)) ⊕ (List (List Int))) :=
  cond (decide (i_ < (a.length : Int))) (cond (inB i_ a.length) ((laws_toByteS (a.getD i_.toNat [])).bind fun r => cond (inB i_ out_.length) (some (.inl (w64 (i_ + 1), out_.set i_.toNat r))) (none)) (none)) (some (.inr out_))
def laws_toByteSS_l0 (a : List (List Int)) : (Int × List (List Int)) → Option (List (List Int)) :=
  loopL fun s => laws_toByteSS_l0.B a s.1 s.2
def laws_toByteSS (a : List (List Int)) : Option (List (List Int)) :=
  cond (decide ((0 : Int) ≤ (a.length : Int)) && (decide ((a.length : Int) ≤ (a.length : Int)) && decide ((a.length : Int) ≤ 2147483648))) ((some (List.replicate (a.length : Int).toNat ([] : List Int))).bind fun v => (laws_toByteSS_l0 a (0, v)).bind fun o => some o) (none)
namespace laws_toByteSS
def G : Gam := mkG [(50, laws_toByteS.FS)]
theorem Gok : GOk PR G := .cons laws_toByteS.ok .nil
end laws_toByteSS
namespace laws_toByteSS_l0
def c := codeAt (bodyOf Proofs.Try.f28) [1, 1, 0, 1, 0, 0]
def sp : SP := ⟨[(0, .cs (.sl SB)), (3, .seg 3 []), (4, .cs I64)], [(3, .reg, .cd (.sl SB))]⟩
def out (a : List (List Int)) : FOut (List (List Int)) := fun b _ k => k (.ex 0) ⟨[(3, .seg 3 [])], [sr 3 (.cd (.sl SB) b)]⟩
def fr := lfrag sp (fun x => laws_toByteSS_l0 x.1.1 (x.1.2.2.1, x.2.1)) fun x => out x.1.1
theorem ok : CodeOk PR 23 1 (.loop c) fr :=
  lp_ok tbok hmix h0 .no (G := laws_toByteSS.G) laws_toByteSS.Gok (L := mkL []) (l := []) hT [0, 3, 4] [3] [(0, ([3], [3]))] ([], []) (fun x s => B x.1.1 s.1 s.2) (fun x s => ⟨[(0, .cs (.sl SB) x.1.1), (3, .seg 3 []), (4, .cs I64 s.1)], [sr 3 (.cd (.sl SB) s.2)]⟩) (fun x => (x.1.2.2.1, x.2.1))
    (fun x s => by simp only [B, mC, mB, mS, mO, mN]; kernel_rfl)
end laws_toByteSS_l0
namespace laws_toByteSS
def pts : List PT := [.cs (.sl SB)]
def FS : FS := mkFS [.sh] pts (fun x => laws_toByteSS x.1) fun t => ⟨[.cd (.sl SB) t], []⟩
theorem ok : FsOk PR 28 FS :=
  fn_ok tbok hmix Proofs.Try.f28 h0 (.R (.R (.L (.R (.one (.fr 0)))))) (G := G) Gok (L := mkL [(0, laws_toByteSS_l0.fr)]) (l := [(0, .loop laws_toByteSS_l0.c)]) ⟨Lam.cons laws_toByteSS_l0.ok, trivial⟩
    (fun x => by simp only [laws_toByteSS, mC, mB, mS, mO, mN]; kernel_rfl)
end laws_toByteSS
def laws_toFs (a : Fs_) : Option (Fs_) :=
  (laws_toInodeS a.1).bind fun r => (laws_toByteSS a.2.1).bind fun r2 => some (r, r2, ())
namespace laws_toFs
def G : Gam := mkG [(27, laws_toInodeS.FS), (28, laws_toByteSS.FS)]
def pts : List PT := [.cs tFs_]
def FS : FS := mkFS [.sh] pts (fun x => laws_toFs x.1) fun t => ⟨[.cd tFs_ t], []⟩
theorem ok : FsOk PR 8 FS :=
  fn_ok tbok hmix Proofs.Try.f8 ⟨[1], [], [], 0⟩ .no (G := G) (show GOk PR G from .cons laws_toInodeS.ok (.cons laws_toByteSS.ok .nil)) (L := mkL []) (l := []) hT
    (fun x => by simp only [laws_toFs, mC, mB, mS, mO, mN]; kernel_rfl)
end laws_toFs
def spec_l1In (v : Int) (low : Int) (high : Int) : Option (Bool) :=
  (some (cond (decide (v ≥ low)) (decide (v ≤ high)) false)).bind fun v2 => some v2
namespace spec_l1In
def pts : List PT := [.cs I64, .cs I64, .cs I64]
def FS : FS := mkFS [.sh, .sh, .sh] pts (fun x => spec_l1In x.1 x.2.1 x.2.2.1) fun t => ⟨[.cs .bool t], []⟩
theorem ok : FsOk PR 100 FS :=
  fn_ok tbok hmix Proofs.Try.f100 h0 .no (G := (mkG [])) .nil (L := mkL []) (l := []) hT
    (fun x => by simp only [spec_l1In, mC, mB, mS, mO, mN]; kernel_rfl)
end spec_l1In
def spec_l4Size (n : Int) : Option (Bool) :=
  (spec_l1In n 0 32).bind fun r => some r
namespace spec_l4Size
def G : Gam := mkG [(100, spec_l1In.FS)]
def pts : List PT := [.cs I64]
def FS : FS := mkFS [.sh] pts (fun x => spec_l4Size x.1) fun t => ⟨[.cs .bool t], []⟩
theorem ok : FsOk PR 113 FS :=
  fn_ok tbok hmix Proofs.Try.f113 h0 .no (G := G) (show GOk PR G from .cons spec_l1In.ok .nil) (L := mkL []) (l := []) hT
    (fun x => by simp only [spec_l4Size, mC, mB, mS, mO, mN]; kernel_rfl)
end spec_l4Size
def spec_l4For (size : Int) : Option (Int) :=
  cond (!((8 : Int) == 0)) (some (w64 ((w64 ((w64 (size + 8)) - 1)).tdiv 8))) (none)
namespace spec_l4For
def pts : List PT := [.cs I64]
def FS : FS := mkFS [.sh] pts (fun x => spec_l4For x.1) fun t => ⟨[.cs I64 t], []⟩
theorem ok : FsOk PR 114 FS :=
  fn_ok tbok hmix Proofs.Try.f114 h0 .no (G := (mkG [])) .nil (L := mkL []) (l := []) hT
    (fun x => by simp only [spec_l4For, mC, mB, mS, mO, mN]; kernel_rfl)
end spec_l4For
def spec_l4File_l0.B (x : Inode_) (i_ : Int) : Option ((Int) ⊕ (((Int) ⊕ (Unit)))) :=
  cond (decide (i_ < (x.2.2.2.1.length : Int))) (cond (inB i_ x.2.2.2.1.length) ((spec_l1In (x.2.2.2.1.getD i_.toNat 0) 0 19).bind fun r4 => cond (!r4) (some (.inr (.inl 3))) (some (.inl (w64 (i_ + 1))))) (none)) (some (.inr (.inr ())))
def spec_l4File_l0 (x : Inode_) : (Int) → Option (((Int) ⊕ (Unit))) :=
  loopL fun s => spec_l4File_l0.B x s
def spec_l4File_l2.B (x : Inode_) (i_2 : Int) (k_ : Int) : Option ((Int) ⊕ (((Int) ⊕ (Unit)))) :=
  cond (decide (k_ < i_2)) (cond (inB k_ x.2.2.2.1.length) (cond (inB i_2 x.2.2.2.1.length) ((some ((x.2.2.2.1.getD k_.toNat 0) == (x.2.2.2.1.getD i_2.toNat 0))).bind fun v => cond v (some (.inr (.inl 7))) (some (.inl (w64 (k_ + 1))))) (none)) (none)) (some (.inr (.inr ())))
def spec_l4File_l2 (x : Inode_) (i_2 : Int) : (Int) → Option (((Int) ⊕ (Unit))) :=
  loopL fun s => spec_l4File_l2.B x i_2 s
def spec_l4File_l1.B (x : Inode_) (i_2 : Int) : Option ((Int) ⊕ (((Int) ⊕ (Unit)))) :=
  cond (decide (i_2 < (x.2.2.2.1.length : Int))) ((spec_l4File_l2 x i_2 0).bind fun o2 => sel o2 (fun b2 => some (.inr (.inl b2))) (fun c2 => some (.inl (w64 (i_2 + 1))))) (some (.inr (.inr ())))
def spec_l4File_l1 (x : Inode_) : (Int) → Option (((Int) ⊕ (Unit))) :=
  loopL fun s => spec_l4File_l1.B x s
def spec_l4File (x : Inode_) : Option (Int) :=
  (spec_l1In x.2.1 1 60).bind fun r => cond (!r) (some 3) ((spec_l4Size x.2.2.1).bind fun r2 => cond (!r2) (some 3) ((spec_l4For x.2.2.1).bind fun r3 => cond ((x.2.2.2.1.length : Int) != r3) (some 1) ((spec_l4File_l0 x 0).bind fun o => sel o (fun b => some b) (fun c => (spec_l4File_l1 x 0).bind fun o3 => sel o3 (fun b3 => some b3) (fun c3 => some 0)))))
namespace spec_l4File
def G : Gam := mkG [(100, spec_l1In.FS), (113, spec_l4Size.FS), (114, spec_l4For.FS)]
theorem Gok : GOk PR G := .cons spec_l1In.ok (.cons spec_l4Size.ok (.cons spec_l4For.ok .nil))
end spec_l4File
namespace spec_l4File_l0
def c := codeAt (bodyOf Proofs.Try.f101) [1, 1, 1, 0, 1, 0, 0]
def sp : SP := ⟨[(0, .pt tInode_), (3, .cs I64)], []⟩
def out (x : Inode_) : FOut (((Int) ⊕ (Unit))) := fun o _ k => sel o (fun b => k (.rt) ⟨[(2, .cs I64 b)], []⟩) (fun c => k (.ex 0) ⟨[(0, .pt tInode_ x)], []⟩)
def fr := lfrag sp (fun x => spec_l4File_l0 x.1.1 x.1.2.1) fun x => out x.1.1
theorem ok : CodeOk PR 78 1 (.loop c) fr :=
  lp_ok tbok hmix h0 .no (G := spec_l4File.G) spec_l4File.Gok (L := mkL []) (l := []) hT [0, 3] [] [(0, ([0], []))] ([2], []) (fun x s => B x.1.1 s) (fun x s => ⟨[(0, .pt tInode_ x.1.1), (3, .cs I64 s)], []⟩) (fun x => x.1.2.1)
    (fun x s => by simp only [B, mC, mB, mS, mO, mN]; kernel_rfl)
end spec_l4File_l0
namespace spec_l4File_l2
def c := codeAt (bodyOf Proofs.Try.f101) [1, 1, 1, 1, 0, 1, 0, 0, 1, 0, 0, 1, 0, 0]
def sp : SP := ⟨[(0, .pt tInode_), (4, .cs I64), (5, .cs I64)], []⟩
def out (x : Inode_) (i_2 : Int) : FOut (((Int) ⊕ (Unit))) := fun o _ k => sel o (fun b => k (.rt) ⟨[(2, .cs I64 b)], []⟩) (fun c => k (.ex 4) ⟨[(0, .pt tInode_ x), (4, .cs I64 i_2)], []⟩)
def fr := lfrag sp (fun x => spec_l4File_l2 x.1.1 x.1.2.1 x.1.2.2.1) fun x => out x.1.1 x.1.2.1
theorem ok : CodeOk PR 78 1 (.loop c) fr :=
  lp_ok tbok hmix h0 .no (G := spec_l4File.G) spec_l4File.Gok (L := mkL []) (l := []) hT [0, 4, 5] [] [(4, ([0, 4], []))] ([2], []) (fun x s => B x.1.1 x.1.2.1 s) (fun x s => ⟨[(0, .pt tInode_ x.1.1), (4, .cs I64 x.1.2.1), (5, .cs I64 s)], []⟩) (fun x => x.1.2.2.1)
    (fun x s => by simp only [B, mC, mB, mS, mO, mN]; kernel_rfl)
end spec_l4File_l2
namespace spec_l4File_l1
def c := codeAt (bodyOf Proofs.Try.f101) [1, 1, 1, 1, 0, 1, 0, 0]
def sp : SP := ⟨[(0, .pt tInode_), (4, .cs I64)], []⟩
def out (x : Inode_) : FOut (((Int) ⊕ (Unit))) := fun o _ k => sel o (fun b => k (.rt) ⟨[(2, .cs I64 b)], []⟩) (fun c => k (.ex 2) ⟨[], []⟩)
def fr := lfrag sp (fun x => spec_l4File_l1 x.1.1 x.1.2.1) fun x => out x.1.1
theorem ok : CodeOk PR 78 1 (.loop c) fr :=
  lp_ok tbok hmix h0 (.R (.L (.one (.R (.one (.fr 2)))))) (G := spec_l4File.G) spec_l4File.Gok (L := mkL [(2, spec_l4File_l2.fr)]) (l := [(2, .loop spec_l4File_l2.c)]) ⟨Lam.cons spec_l4File_l2.ok, trivial⟩ [0, 4] [] [(2, ([], []))] ([2], []) (fun x s => B x.1.1 s) (fun x s => ⟨[(0, .pt tInode_ x.1.1), (4, .cs I64 s)], []⟩) (fun x => x.1.2.1)
    (fun x s => by simp only [B, mC, mB, mS, mO, mN]; kernel_rfl)
end spec_l4File_l1
namespace spec_l4File
def pts : List PT := [.pt tInode_]
def FS : FS := mkFS [.sh] pts (fun x => spec_l4File x.1) fun t => ⟨[.cs I64 t], []⟩
theorem ok : FsOk PR 101 FS :=
  fn_ok tbok hmix Proofs.Try.f101 h0 (.R (.R (.R (.two (.R (.one (.fr 0))) (.L (.R (.one (.fr 1)))))))) (G := G) Gok (L := mkL [(0, spec_l4File_l0.fr), (2, spec_l4File_l2.fr), (1, spec_l4File_l1.fr)]) (l := [(0, .loop spec_l4File_l0.c), (1, .loop spec_l4File_l1.c)]) ⟨Lam.cons spec_l4File_l0.ok, Lam.skip rfl (Lam.skip rfl (Lam.cons spec_l4File_l1.ok)), trivial⟩
    (fun x => by simp only [spec_l4File, mC, mB, mS, mO, mN]; kernel_rfl)
end spec_l4File
def spec_NameFault_l0.B (name : List UInt8) (i_ : Int) : Option ((Int) ⊕ (((Int) ⊕ (Unit)))) :=
  cond (decide (i_ < (name.length : Int))) (cond (inB i_ name.length) ((some (decide (((name.getD i_.toNat 0).toNat : Int) < 97))).bind fun v => cond (cond (!v) (inB i_ name.length) true) ((some (cond v true (decide (((name.getD i_.toNat 0).toNat : Int) > 122)))).bind fun v2 => cond v2 (some (.inr (.inl 5))) (some (.inl (w64 (i_ + 1))))) (none)) (none)) (some (.inr (.inr ())))
def spec_NameFault_l0 (name : List UInt8) : (Int) → Option (((Int) ⊕ (Unit))) :=
  loopL fun s => spec_NameFault_l0.B name s
def spec_NameFault (name : List UInt8) : Option (Int) :=
  (spec_NameFault_l0 name 0).bind fun o => sel o (fun b => some b) (fun c => cond (name == ([] : List UInt8)) (some 5) (cond (decide ((name.length : Int) > 4)) (some 2) (some 0)))
namespace spec_NameFault_l0
def c := codeAt (bodyOf Proofs.Try.f115) [1, 0, 1, 0, 0]
def sp : SP := ⟨[(0, .cs .str), (3, .cs I64)], []⟩
def out (name : List UInt8) : FOut (((Int) ⊕ (Unit))) := fun o _ k => sel o (fun b => k (.rt) ⟨[(2, .cs I64 b)], []⟩) (fun c => k (.ex 0) ⟨[(0, .cs .str name)], []⟩)
def fr := lfrag sp (fun x => spec_NameFault_l0 x.1.1 x.1.2.1) fun x => out x.1.1
theorem ok : CodeOk PR 25 1 (.loop c) fr :=
  lp_ok tbok hmix h0 .no (G := (mkG [])) .nil (L := mkL []) (l := []) hT [0, 3] [] [(0, ([0], []))] ([2], []) (fun x s => B x.1.1 s) (fun x s => ⟨[(0, .cs .str x.1.1), (3, .cs I64 s)], []⟩) (fun x => x.1.2.1)
    (fun x s => by simp only [B, mC, mB, mS, mO, mN]; kernel_rfl)
end spec_NameFault_l0
namespace spec_NameFault
def pts : List PT := [.cs .str]
def FS : FS := mkFS [.sh] pts (fun x => spec_NameFault x.1) fun t => ⟨[.cs I64 t], []⟩
theorem ok : FsOk PR 115 FS :=
  fn_ok tbok hmix Proofs.Try.f115 h0 (.R (.L (.R (.one (.fr 0))))) (G := (mkG [])) .nil (L := mkL [(0, spec_NameFault_l0.fr)]) (l := [(0, .loop spec_NameFault_l0.c)]) ⟨Lam.cons spec_NameFault_l0.ok, trivial⟩
    (fun x => by simp only [spec_NameFault, mC, mB, mS, mO, mN]; kernel_rfl)
end spec_NameFault
def spec_l4Dir_l0.B (x : Inode_) (i_ : Int) : Option ((Int) ⊕ (((Int) ⊕ (Unit)))) :=
  cond (decide (i_ < (x.2.2.2.2.1.length : Int))) (cond (inB i_ x.2.2.2.2.1.length) ((spec_NameFault ((x.2.2.2.2.1.getD i_.toNat zEntry_).1)).bind fun r => cond (r != 0) (some (.inr (.inl r))) (cond (inB i_ x.2.2.2.2.1.length) ((spec_l1In (((x.2.2.2.2.1.getD i_.toNat zEntry_).2).1) 0 9).bind fun r2 => cond (!r2) (some (.inr (.inl 3))) (cond (cond (decide (i_ > 0)) (inB i_ x.2.2.2.2.1.length) true) (cond (cond (decide (i_ > 0)) (inB (w64 (i_ - 1)) x.2.2.2.2.1.length) true) ((some (cond (decide (i_ > 0)) (leB ((x.2.2.2.2.1.getD i_.toNat zEntry_).1) ((x.2.2.2.2.1.getD (w64 (i_ - 1)).toNat zEntry_).1) || ((x.2.2.2.2.1.getD i_.toNat zEntry_).1) == ((x.2.2.2.2.1.getD (w64 (i_ - 1)).toNat zEntry_).1)) false)).bind fun v => cond v (some (.inr (.inl 1))) (some (.inl (w64 (i_ + 1))))) (none)) (none))) (none))) (none)) (some (.inr (.inr ())))
def spec_l4Dir_l0 (x : Inode_) : (Int) → Option (((Int) ⊕ (Unit))) :=
  loopL fun s => spec_l4Dir_l0.B x s
def spec_l4Dir (x : Inode_) : Option (Int) :=
  cond (decide ((x.2.2.2.2.1.length : Int) > 6)) (some 2) ((spec_l4Dir_l0 x 0).bind fun o => sel o (fun b => some b) (fun c => some 0))
namespace spec_l4Dir
def G : Gam := mkG [(115, spec_NameFault.FS), (100, spec_l1In.FS)]
theorem Gok : GOk PR G := .cons spec_NameFault.ok (.cons spec_l1In.ok .nil)
end spec_l4Dir
namespace spec_l4Dir_l0
def c := codeAt (bodyOf Proofs.Try.f102) [1, 1, 0, 1, 0, 0]
def sp : SP := ⟨[(0, .pt tInode_), (3, .cs I64)], []⟩
def out (x : Inode_) : FOut (((Int) ⊕ (Unit))) := fun o _ k => sel o (fun b => k (.rt) ⟨[(2, .cs I64 b)], []⟩) (fun c => k (.ex 0) ⟨[], []⟩)
def fr := lfrag sp (fun x => spec_l4Dir_l0 x.1.1 x.1.2.1) fun x => out x.1.1
theorem ok : CodeOk PR 64 1 (.loop c) fr :=
  lp_ok tbok hmix h0 .no (G := spec_l4Dir.G) spec_l4Dir.Gok (L := mkL []) (l := []) hT [0, 3] [] [(0, ([], []))] ([2], []) (fun x s => B x.1.1 s) (fun x s => ⟨[(0, .pt tInode_ x.1.1), (3, .cs I64 s)], []⟩) (fun x => x.1.2.1)
    (fun x s => by simp only [B, mC, mB, mS, mO, mN]; kernel_rfl)
end spec_l4Dir_l0
namespace spec_l4Dir
def pts : List PT := [.pt tInode_]
def FS : FS := mkFS [.sh] pts (fun x => spec_l4Dir x.1) fun t => ⟨[.cs I64 t], []⟩
theorem ok : FsOk PR 102 FS :=
  fn_ok tbok hmix Proofs.Try.f102 h0 (.R (.R (.L (.R (.one (.fr 0)))))) (G := G) Gok (L := mkL [(0, spec_l4Dir_l0.fr)]) (l := [(0, .loop spec_l4Dir_l0.c)]) ⟨Lam.cons spec_l4Dir_l0.ok, trivial⟩
    (fun x => by simp only [spec_l4Dir, mC, mB, mS, mO, mN]; kernel_rfl)
end spec_l4Dir
def spec_l4Fault (x : Inode_) : Option (Int) :=
  (spec_l1In x.1 0 2).bind fun r => cond (!r) (some 1) ((some (cond (x.1 != 1) (cond (cond (x.2.1 != 0) true (x.2.2.1 != 0)) true (decide ((x.2.2.2.1.length : Int) > 0))) false)).bind fun v => (some (cond v true (cond (x.1 != 2) (decide ((x.2.2.2.2.1.length : Int) > 0)) false))).bind fun v2 => cond v2 (some 1) (cond (x.1 == 1) ((spec_l4File x).bind fun r2 => some r2) (cond (x.1 == 2) ((spec_l4Dir x).bind fun r3 => some r3) (some 0))))
namespace spec_l4Fault
def G : Gam := mkG [(100, spec_l1In.FS), (101, spec_l4File.FS), (102, spec_l4Dir.FS)]
def pts : List PT := [.pt tInode_]
def FS : FS := mkFS [.sh] pts (fun x => spec_l4Fault x.1) fun t => ⟨[.cs I64 t], []⟩
theorem ok : FsOk PR 74 FS :=
  fn_ok tbok hmix Proofs.Try.f74 h0 .no (G := G) (show GOk PR G from .cons spec_l1In.ok (.cons spec_l4File.ok (.cons spec_l4Dir.ok .nil))) (L := mkL []) (l := []) hT
    (fun x => by simp only [spec_l4Fault, mC, mB, mS, mO, mN]; kernel_rfl)
end spec_l4Fault
def spec_l5Fault_l0.B (list : List Inode_) (i_ : Int) : Option ((Int) ⊕ (((Int) ⊕ (Unit)))) :=
  cond (decide (i_ < (list.length : Int))) (cond (inB i_ list.length) ((spec_l4Fault (list.getD i_.toNat zInode_)).bind fun r => cond (r != 0) (some (.inr (.inl r))) (some (.inl (w64 (i_ + 1))))) (none)) (some (.inr (.inr ())))
def spec_l5Fault_l0 (list : List Inode_) : (Int) → Option (((Int) ⊕ (Unit))) :=
  loopL fun s => spec_l5Fault_l0.B list s
def spec_l5Fault (list : List Inode_) : Option (Int) :=
  cond (decide ((list.length : Int) > 10)) (some 2) ((spec_l5Fault_l0 list 0).bind fun o => sel o (fun b => some b) (fun c => some 0))
namespace spec_l5Fault
def G : Gam := mkG [(74, spec_l4Fault.FS)]
theorem Gok : GOk PR G := .cons spec_l4Fault.ok .nil
end spec_l5Fault
namespace spec_l5Fault_l0
def c := codeAt (bodyOf Proofs.Try.f45) [1, 1, 0, 1, 0, 0]
def sp : SP := ⟨[(0, .cs (.sl tInode_)), (3, .cs I64)], []⟩
def out (list : List Inode_) : FOut (((Int) ⊕ (Unit))) := fun o _ k => sel o (fun b => k (.rt) ⟨[(2, .cs I64 b)], []⟩) (fun c => k (.ex 0) ⟨[], []⟩)
def fr := lfrag sp (fun x => spec_l5Fault_l0 x.1.1 x.1.2.1) fun x => out x.1.1
theorem ok : CodeOk PR 21 1 (.loop c) fr :=
  lp_ok tbok hmix h0 .no (G := spec_l5Fault.G) spec_l5Fault.Gok (L := mkL []) (l := []) hT [0, 3] [] [(0, ([], []))] ([2], []) (fun x s => B x.1.1 s) (fun x s => ⟨[(0, .cs (.sl tInode_) x.1.1), (3, .cs I64 s)], []⟩) (fun x => x.1.2.1)
    (fun x s => by simp only [B, mC, mB, mS, mO, mN]; kernel_rfl)
end spec_l5Fault_l0
namespace spec_l5Fault
def pts : List PT := [.cs (.sl tInode_)]
def FS : FS := mkFS [.sh] pts (fun x => spec_l5Fault x.1) fun t => ⟨[.cs I64 t], []⟩
theorem ok : FsOk PR 45 FS :=
  fn_ok tbok hmix Proofs.Try.f45 h0 (.R (.R (.L (.R (.one (.fr 0)))))) (G := G) Gok (L := mkL [(0, spec_l5Fault_l0.fr)]) (l := [(0, .loop spec_l5Fault_l0.c)]) ⟨Lam.cons spec_l5Fault_l0.ok, trivial⟩
    (fun x => by simp only [spec_l5Fault, mC, mB, mS, mO, mN]; kernel_rfl)
end spec_l5Fault
def spec_l5Count_l1.B (list : List Inode_) (at_ : Int) (i_ : Int) (n_2 : Int) (k_ : Int) : Option ((Int × Int) ⊕ (Int)) :=
  cond (inB i_ list.length) ((some ((((((list.getD i_.toNat zInode_).2).2).2).1).length : Int)).bind fun v => cond (decide (k_ < v)) (cond (inB i_ list.length) (cond (inB k_ ((((((list.getD i_.toNat zInode_).2).2).2).1).length)) ((some ((((((list.getD i_.toNat zInode_).2).2).2).1).getD k_.toNat 0)).bind fun v2 => cond (v2 == at_) (some (.inl (w64 (n_2 + 1), w64 (k_ + 1)))) (some (.inl (n_2, w64 (k_ + 1))))) (none)) (none)) (some (.inr n_2))) (none)
def spec_l5Count_l1 (list : List Inode_) (at_ : Int) (i_ : Int) : (Int × Int) → Option (Int) :=
  loopL fun s => spec_l5Count_l1.B list at_ i_ s.1 s.2
def spec_l5Count_l0.B (list : List Inode_) (at_ : Int) (n_ : Int) (i_ : Int) : Option ((Int × Int) ⊕ (Int)) :=
  cond (decide (i_ < (list.length : Int))) ((spec_l5Count_l1 list at_ i_ (n_, 0)).bind fun o => some (.inl (o, w64 (i_ + 1)))) (some (.inr n_))
def spec_l5Count_l0 (list : List Inode_) (at_ : Int) : (Int × Int) → Option (Int) :=
  loopL fun s => spec_l5Count_l0.B list at_ s.1 s.2
def spec_l5Count (list : List Inode_) (at_ : Int) : Option (Int) :=
  (spec_l5Count_l0 list at_ (0, 0)).bind fun o2 => some o2
namespace spec_l5Count_l1
def c := codeAt (bodyOf Proofs.Try.f77) [1, 1, 0, 1, 0, 0, 1, 0, 0, 1, 0, 0]
def sp : SP := ⟨[(0, .cs (.sl tInode_)), (1, .cs I64), (5, .cs I64), (6, .cs I64), (7, .cs I64)], []⟩
def out (list : List Inode_) (at_ : Int) (i_ : Int) : FOut (Int) := fun b _ k => k (.ex 2) ⟨[(0, .cs (.sl tInode_) list), (1, .cs I64 at_), (5, .cs I64 b), (6, .cs I64 i_)], []⟩
def fr := lfrag sp (fun x => spec_l5Count_l1 x.1.1 x.1.2.1 x.1.2.2.2.1 (x.1.2.2.1, x.1.2.2.2.2.1)) fun x => out x.1.1 x.1.2.1 x.1.2.2.2.1
theorem ok : CodeOk PR 37 2 (.loop c) fr :=
  lp_ok tbok hmix h0 .no (G := (mkG [])) .nil (L := mkL []) (l := []) hT [0, 1, 5, 6, 7] [] [(2, ([0, 1, 5, 6], []))] ([], []) (fun x s => B x.1.1 x.1.2.1 x.1.2.2.2.1 s.1 s.2) (fun x s => ⟨[(0, .cs (.sl tInode_) x.1.1), (1, .cs I64 x.1.2.1), (5, .cs I64 s.1), (6, .cs I64 x.1.2.2.2.1), (7, .cs I64 s.2)], []⟩) (fun x => (x.1.2.2.1, x.1.2.2.2.2.1))
    (fun x s => by simp only [B, mC, mB, mS, mO, mN]; kernel_rfl)
end spec_l5Count_l1
namespace spec_l5Count_l0
def c := codeAt (bodyOf Proofs.Try.f77) [1, 1, 0, 1, 0, 0]
def sp : SP := ⟨[(0, .cs (.sl tInode_)), (1, .cs I64), (5, .cs I64), (6, .cs I64)], []⟩
def out (list : List Inode_) (at_ : Int) : FOut (Int) := fun b _ k => k (.ex 0) ⟨[(5, .cs I64 b)], []⟩
def fr := lfrag sp (fun x => spec_l5Count_l0 x.1.1 x.1.2.1 (x.1.2.2.1, x.1.2.2.2.1)) fun x => out x.1.1 x.1.2.1
theorem ok : CodeOk PR 37 2 (.loop c) fr :=
  lp_ok tbok hmix h0 (.R (.L (.one (.R (.one (.fr 1)))))) (G := (mkG [])) .nil (L := mkL [(1, spec_l5Count_l1.fr)]) (l := [(1, .loop spec_l5Count_l1.c)]) ⟨Lam.cons spec_l5Count_l1.ok, trivial⟩ [0, 1, 5, 6] [] [(0, ([5], []))] ([], []) (fun x s => B x.1.1 x.1.2.1 s.1 s.2) (fun x s => ⟨[(0, .cs (.sl tInode_) x.1.1), (1, .cs I64 x.1.2.1), (5, .cs I64 s.1), (6, .cs I64 s.2)], []⟩) (fun x => (x.1.2.2.1, x.1.2.2.2.1))
    (fun x s => by simp only [B, mC, mB, mS, mO, mN]; kernel_rfl)
end spec_l5Count_l0
namespace spec_l5Count
def pts : List PT := [.cs (.sl tInode_), .cs I64]
def FS : FS := mkFS [.sh, .sh] pts (fun x => spec_l5Count x.1 x.2.1) fun t => ⟨[.cs I64 t], []⟩
theorem ok : FsOk PR 77 FS :=
  fn_ok tbok hmix Proofs.Try.f77 h0 (.R (.R (.L (.R (.one (.fr 0)))))) (G := (mkG [])) .nil (L := mkL [(1, spec_l5Count_l1.fr), (0, spec_l5Count_l0.fr)]) (l := [(0, .loop spec_l5Count_l0.c)]) ⟨Lam.skip rfl (Lam.cons spec_l5Count_l0.ok), trivial⟩
    (fun x => by simp only [spec_l5Count, mC, mB, mS, mO, mN]; kernel_rfl)
end spec_l5Count
def spec_l5Used_l0.B (list : List Inode_) (once_ : Bool) (at_ : Int) (out_ : List Int) : Option ((Bool × Int × List Int) ⊕ (Bool × List Int)) :=
  cond (decide (at_ < 20)) ((spec_l5Count list at_).bind fun r => cond (decide (r > 0)) (cond (decide ((out_ ++ ([at_])).length ≤ 2147483648)) (some (.inl (cond once_ (decide (r ≤ 1)) false, w64 (at_ + 1), out_ ++ ([at_])))) (none)) (some (.inl (cond once_ (decide (r ≤ 1)) false, w64 (at_ + 1), out_)))) (some (.inr (once_, out_)))
def spec_l5Used_l0 (list : List Inode_) : (Bool × Int × List Int) → Option (Bool × List Int) :=
  loopL fun s => spec_l5Used_l0.B list s.1 s.2.1 s.2.2
def spec_l5Used (list : List Inode_) : Option ((List Int) × Bool) :=
  (spec_l5Used_l0 list (true, 0, [])).bind fun o => some (o.2, o.1)
namespace spec_l5Used
def G : Gam := mkG [(77, spec_l5Count.FS)]
theorem Gok : GOk PR G := .cons spec_l5Count.ok .nil
end spec_l5Used
namespace spec_l5Used_l0
def c := codeAt (bodyOf Proofs.Try.f91) [1, 1, 1, 0, 1, 0, 0]
def sp : SP := ⟨[(0, .cs (.sl tInode_)), (4, .seg 4 []), (5, .cs .bool), (6, .cs I64)], [(4, .reg, .cd SI)]⟩
def out (list : List Inode_) : FOut (Bool × List Int) := fun b _ k => k (.ex 0) ⟨[(4, .seg 4 []), (5, .cs .bool b.1)], [sr 4 (.cd SI b.2)]⟩
def fr := lfrag sp (fun x => spec_l5Used_l0 x.1.1 (x.1.2.2.1, x.1.2.2.2.1, x.2.1)) fun x => out x.1.1
theorem ok : CodeOk PR 29 1 (.loop c) fr :=
  lp_ok tbok hmix h0 .no (G := spec_l5Used.G) spec_l5Used.Gok (L := mkL []) (l := []) hT [0, 4, 5, 6] [4] [(0, ([4, 5], [4]))] ([], []) (fun x s => B x.1.1 s.1 s.2.1 s.2.2) (fun x s => ⟨[(0, .cs (.sl tInode_) x.1.1), (4, .seg 4 []), (5, .cs .bool s.1), (6, .cs I64 s.2.1)], [sr 4 (.cd SI s.2.2)]⟩) (fun x => (x.1.2.2.1, x.1.2.2.2.1, x.2.1))
    (fun x s => by simp only [B, mC, mB, mS, mO, mN]; kernel_rfl)
end spec_l5Used_l0
namespace spec_l5Used
def pts : List PT := [.cs (.sl tInode_)]
def FS : FS := mkFS [.sh] pts (fun x => spec_l5Used x.1) fun t => ⟨[.cd SI t.1, .cs .bool t.2], []⟩
theorem ok : FsOk PR 91 FS :=
  fn_ok tbok hmix Proofs.Try.f91 h0 (.R (.R (.R (.L (.R (.one (.fr 0))))))) (G := G) Gok (L := mkL [(0, spec_l5Used_l0.fr)]) (l := [(0, .loop spec_l5Used_l0.c)]) ⟨Lam.cons spec_l5Used_l0.ok, trivial⟩
    (fun x => by simp only [spec_l5Used, mC, mB, mS, mO, mN]; kernel_rfl)
end spec_l5Used
def spec_l6Entries_l0.B (f : Fs_) (i_ : Int) : Option ((Int) ⊕ (((Int) ⊕ (Unit)))) :=
  cond (decide (i_ < (f.2.1.length : Int))) (cond (inB i_ f.2.1.length) ((some (decide (((f.2.1.getD i_.toNat []).length : Int) > 8))).bind fun v2 => cond v2 (some (.inr (.inl 2))) (some (.inl (w64 (i_ + 1))))) (none)) (some (.inr (.inr ())))
def spec_l6Entries_l0 (f : Fs_) : (Int) → Option (((Int) ⊕ (Unit))) :=
  loopL fun s => spec_l6Entries_l0.B f s
def spec_l6Entries_l2.B (f : Fs_) (i_2 : Int) (k_ : Int) : Option ((Int) ⊕ (((Int) ⊕ (Unit)))) :=
  cond (inB i_2 f.1.length) ((some (((((((f.1.getD i_2.toNat zInode_).2).2).2).2).1).length : Int)).bind fun v3 => cond (decide (k_ < v3)) (cond (inB i_2 f.1.length) (cond (inB k_ (((((((f.1.getD i_2.toNat zInode_).2).2).2).2).1).length)) ((some (((((((((f.1.getD i_2.toNat zInode_).2).2).2).2).1).getD k_.toNat zEntry_).2).1)).bind fun v4 => cond (cond (!(decide (v4 ≥ (f.1.length : Int)))) (inB v4 f.1.length) true) ((some (cond (decide (v4 ≥ (f.1.length : Int))) true (((f.1.getD v4.toNat zInode_).1) == 0))).bind fun v5 => cond v5 (some (.inr (.inl 4))) (some (.inl (w64 (k_ + 1))))) (none)) (none)) (none)) (some (.inr (.inr ())))) (none)
def spec_l6Entries_l2 (f : Fs_) (i_2 : Int) : (Int) → Option (((Int) ⊕ (Unit))) :=
  loopL fun s => spec_l6Entries_l2.B f i_2 s
def spec_l6Entries_l1.B (f : Fs_) (i_2 : Int) : Option ((Int) ⊕ (((Int) ⊕ (Unit)))) :=
  cond (decide (i_2 < (f.1.length : Int))) ((spec_l6Entries_l2 f i_2 0).bind fun o2 => sel o2 (fun b2 => some (.inr (.inl b2))) (fun c2 => some (.inl (w64 (i_2 + 1))))) (some (.inr (.inr ())))
def spec_l6Entries_l1 (f : Fs_) : (Int) → Option (((Int) ⊕ (Unit))) :=
  loopL fun s => spec_l6Entries_l1.B f s
def spec_l6Entries (f : Fs_) : Option (Int) :=
  (spec_l5Fault f.1).bind fun r => cond (r != 0) (some r) (cond (cond (!((f.1.length : Int) == 0)) (inB 0 f.1.length) true) ((some (cond ((f.1.length : Int) == 0) true (((f.1.getD (0 : Int).toNat zInode_).1) != 2))).bind fun v => cond (cond v true ((f.2.1.length : Int) != 20)) (some 1) ((spec_l6Entries_l0 f 0).bind fun o => sel o (fun b => some b) (fun c => (spec_l5Used f.1).bind fun r2 => cond (!r2.2) (some 7) ((spec_l6Entries_l1 f 0).bind fun o3 => sel o3 (fun b3 => some b3) (fun c3 => some 0))))) (none))
namespace spec_l6Entries
def G : Gam := mkG [(45, spec_l5Fault.FS), (91, spec_l5Used.FS)]
theorem Gok : GOk PR G := .cons spec_l5Fault.ok (.cons spec_l5Used.ok .nil)
end spec_l6Entries
namespace spec_l6Entries_l0
def c := codeAt (bodyOf Proofs.Try.f66) [1, 1, 1, 0, 1, 0, 0]
def sp : SP := ⟨[(0, .pt tFs_), (4, .cs I64)], []⟩
def out (f : Fs_) : FOut (((Int) ⊕ (Unit))) := fun o _ k => sel o (fun b => k (.rt) ⟨[(2, .cs I64 b)], []⟩) (fun c => k (.ex 0) ⟨[(0, .pt tFs_ f)], []⟩)
def fr := lfrag sp (fun x => spec_l6Entries_l0 x.1.1 x.1.2.1) fun x => out x.1.1
theorem ok : CodeOk PR 122 1 (.loop c) fr :=
  lp_ok tbok hmix h0 .no (G := spec_l6Entries.G) spec_l6Entries.Gok (L := mkL []) (l := []) hT [0, 4] [] [(0, ([0], []))] ([2], []) (fun x s => B x.1.1 s) (fun x s => ⟨[(0, .pt tFs_ x.1.1), (4, .cs I64 s)], []⟩) (fun x => x.1.2.1)
    (fun x s => by simp only [B, mC, mB, mS, mO, mN]; kernel_rfl)
end spec_l6Entries_l0
namespace spec_l6Entries_l2
def c := codeAt (bodyOf Proofs.Try.f66) [1, 1, 1, 1, 1, 0, 1, 0, 0, 1, 0, 0, 1, 0, 0]
def sp : SP := ⟨[(0, .pt tFs_), (7, .cs I64), (8, .cs I64)], []⟩
def out (f : Fs_) (i_2 : Int) : FOut (((Int) ⊕ (Unit))) := fun o _ k => sel o (fun b => k (.rt) ⟨[(2, .cs I64 b)], []⟩) (fun c => k (.ex 4) ⟨[(0, .pt tFs_ f), (7, .cs I64 i_2)], []⟩)
def fr := lfrag sp (fun x => spec_l6Entries_l2 x.1.1 x.1.2.1 x.1.2.2.1) fun x => out x.1.1 x.1.2.1
theorem ok : CodeOk PR 122 1 (.loop c) fr :=
  lp_ok tbok hmix h0 .no (G := spec_l6Entries.G) spec_l6Entries.Gok (L := mkL []) (l := []) hT [0, 7, 8] [] [(4, ([0, 7], []))] ([2], []) (fun x s => B x.1.1 x.1.2.1 s) (fun x s => ⟨[(0, .pt tFs_ x.1.1), (7, .cs I64 x.1.2.1), (8, .cs I64 s)], []⟩) (fun x => x.1.2.2.1)
    (fun x s => by simp only [B, mC, mB, mS, mO, mN]; kernel_rfl)
end spec_l6Entries_l2
namespace spec_l6Entries_l1
def c := codeAt (bodyOf Proofs.Try.f66) [1, 1, 1, 1, 1, 0, 1, 0, 0]
def sp : SP := ⟨[(0, .pt tFs_), (7, .cs I64)], []⟩
def out (f : Fs_) : FOut (((Int) ⊕ (Unit))) := fun o _ k => sel o (fun b => k (.rt) ⟨[(2, .cs I64 b)], []⟩) (fun c => k (.ex 2) ⟨[], []⟩)
def fr := lfrag sp (fun x => spec_l6Entries_l1 x.1.1 x.1.2.1) fun x => out x.1.1
theorem ok : CodeOk PR 122 1 (.loop c) fr :=
  lp_ok tbok hmix h0 (.R (.L (.one (.R (.one (.fr 2)))))) (G := spec_l6Entries.G) spec_l6Entries.Gok (L := mkL [(2, spec_l6Entries_l2.fr)]) (l := [(2, .loop spec_l6Entries_l2.c)]) ⟨Lam.cons spec_l6Entries_l2.ok, trivial⟩ [0, 7] [] [(2, ([], []))] ([2], []) (fun x s => B x.1.1 s) (fun x s => ⟨[(0, .pt tFs_ x.1.1), (7, .cs I64 s)], []⟩) (fun x => x.1.2.1)
    (fun x s => by simp only [B, mC, mB, mS, mO, mN]; kernel_rfl)
end spec_l6Entries_l1
namespace spec_l6Entries
def pts : List PT := [.pt tFs_]
def FS : FS := mkFS [.sh] pts (fun x => spec_l6Entries x.1) fun t => ⟨[.cs I64 t], []⟩
theorem ok : FsOk PR 66 FS :=
  fn_ok tbok hmix Proofs.Try.f66 h0 (.R (.R (.R (.two (.R (.one (.fr 0))) (.R (.L (.R (.one (.fr 1))))))))) (G := G) Gok (L := mkL [(0, spec_l6Entries_l0.fr), (2, spec_l6Entries_l2.fr), (1, spec_l6Entries_l1.fr)]) (l := [(0, .loop spec_l6Entries_l0.c), (1, .loop spec_l6Entries_l1.c)]) ⟨Lam.cons spec_l6Entries_l0.ok, Lam.skip rfl (Lam.skip rfl (Lam.cons spec_l6Entries_l1.ok)), trivial⟩
    (fun x => by simp only [spec_l6Entries, mC, mB, mS, mO, mN]; kernel_rfl)
end spec_l6Entries
def spec_l6Reach_l2.B (f : Fs_) (round_ : Int) (i_ : Int) (k_ : Int) (in_4 : List Bool) : Option ((Int × List Bool) ⊕ (List Bool)) :=
  cond (inB i_ in_4.length) (cond (cond (in_4.getD i_.toNat false) (inB i_ f.1.length) true) ((some (cond (in_4.getD i_.toNat false) (decide (k_ < (((((((f.1.getD i_.toNat zInode_).2).2).2).2).1).length : Int))) false)).bind fun v => cond v (cond (inB i_ f.1.length) (cond (inB k_ (((((((f.1.getD i_.toNat zInode_).2).2).2).2).1).length)) ((some (((((((((f.1.getD i_.toNat zInode_).2).2).2).2).1).getD k_.toNat zEntry_).2).1)).bind fun v2 => cond (inB v2 in_4.length) (some (.inl (w64 (k_ + 1), in_4.set v2.toNat true))) (none)) (none)) (none)) (some (.inr in_4))) (none)) (none)
def spec_l6Reach_l2 (f : Fs_) (round_ : Int) (i_ : Int) : (Int × List Bool) → Option (List Bool) :=
  loopL fun s => spec_l6Reach_l2.B f round_ i_ s.1 s.2
def spec_l6Reach_l1.B (f : Fs_) (round_ : Int) (i_ : Int) (in_3 : List Bool) : Option ((Int × List Bool) ⊕ (List Bool)) :=
  cond (decide (i_ < (f.1.length : Int))) ((spec_l6Reach_l2 f round_ i_ (0, in_3)).bind fun o => some (.inl (w64 (i_ + 1), o))) (some (.inr in_3))
def spec_l6Reach_l1 (f : Fs_) (round_ : Int) : (Int × List Bool) → Option (List Bool) :=
  loopL fun s => spec_l6Reach_l1.B f round_ s.1 s.2
def spec_l6Reach_l0.B (f : Fs_) (round_ : Int) (in_2 : List Bool) : Option ((Int × List Bool) ⊕ (List Bool)) :=
  cond (decide (round_ < (f.1.length : Int))) ((spec_l6Reach_l1 f round_ (0, in_2)).bind fun o2 => some (.inl (w64 (round_ + 1), o2))) (some (.inr in_2))
def spec_l6Reach_l0 (f : Fs_) : (Int × List Bool) → Option (List Bool) :=
  loopL fun s => spec_l6Reach_l0.B f s.1 s.2
def spec_l6Reach_l3.B (o3 : List Bool) (i_2 : Int) (out_ : List Int) : Option ((Int × List Int) ⊕ (List Int)) :=
  cond (decide (i_2 < (o3.length : Int))) (cond (inB i_2 o3.length) (cond (o3.getD i_2.toNat false) (cond (decide ((out_ ++ ([i_2])).length ≤ 2147483648)) (some (.inl (w64 (i_2 + 1), out_ ++ ([i_2])))) (none)) (some (.inl (w64 (i_2 + 1), out_)))) (none)) (some (.inr out_))
def spec_l6Reach_l3 (o3 : List Bool) : (Int × List Int) → Option (List Int) :=
  loopL fun s => spec_l6Reach_l3.B o3 s.1 s.2
def spec_l6Reach (f : Fs_) : Option (List Int) :=
  cond (decide ((0 : Int) ≤ (f.1.length : Int)) && (decide ((f.1.length : Int) ≤ (f.1.length : Int)) && decide ((f.1.length : Int) ≤ 2147483648))) (cond (inB 0 ((List.replicate (f.1.length : Int).toNat false).length)) ((some ((List.replicate (f.1.length : Int).toNat false).set ((0 : Int).toNat) true)).bind fun in_ => (spec_l6Reach_l0 f (0, in_)).bind fun o3 => (spec_l6Reach_l3 o3 (0, [])).bind fun o4 => some o4) (none)) (none)
namespace spec_l6Reach_l2
def c := codeAt (bodyOf Proofs.Try.f92) [1, 1, 1, 0, 1, 0, 0, 1, 0, 0, 1, 0, 0, 1, 0, 0, 1, 0, 0]
def sp : SP := ⟨[(0, .pt tFs_), (3, .seg 3 []), (4, .cs I64), (5, .cs I64), (6, .cs I64)], [(3, .reg, .cd (.sl .bool))]⟩
def out (f : Fs_) (round_ : Int) (i_ : Int) : FOut (List Bool) := fun b _ k => k (.ex 4) ⟨[(0, .pt tFs_ f), (3, .seg 3 []), (4, .cs I64 round_), (5, .cs I64 i_)], [sr 3 (.cd (.sl .bool) b)]⟩
def fr := lfrag sp (fun x => spec_l6Reach_l2 x.1.1 x.1.2.2.1 x.1.2.2.2.1 (x.1.2.2.2.2.1, x.2.1)) fun x => out x.1.1 x.1.2.2.1 x.1.2.2.2.1
theorem ok : CodeOk PR 84 1 (.loop c) fr :=
  lp_ok tbok hmix h0 .no (G := (mkG [])) .nil (L := mkL []) (l := []) hT [0, 3, 4, 5, 6] [3] [(4, ([0, 3, 4, 5], [3]))] ([], []) (fun x s => B x.1.1 x.1.2.2.1 x.1.2.2.2.1 s.1 s.2) (fun x s => ⟨[(0, .pt tFs_ x.1.1), (3, .seg 3 []), (4, .cs I64 x.1.2.2.1), (5, .cs I64 x.1.2.2.2.1), (6, .cs I64 s.1)], [sr 3 (.cd (.sl .bool) s.2)]⟩) (fun x => (x.1.2.2.2.2.1, x.2.1))
    (fun x s => by simp only [B, mC, mB, mS, mO, mN]; kernel_rfl)
end spec_l6Reach_l2
namespace spec_l6Reach_l1
def c := codeAt (bodyOf Proofs.Try.f92) [1, 1, 1, 0, 1, 0, 0, 1, 0, 0, 1, 0, 0]
def sp : SP := ⟨[(0, .pt tFs_), (3, .seg 3 []), (4, .cs I64), (5, .cs I64)], [(3, .reg, .cd (.sl .bool))]⟩
def out (f : Fs_) (round_ : Int) : FOut (List Bool) := fun b _ k => k (.ex 2) ⟨[(0, .pt tFs_ f), (3, .seg 3 []), (4, .cs I64 round_)], [sr 3 (.cd (.sl .bool) b)]⟩
def fr := lfrag sp (fun x => spec_l6Reach_l1 x.1.1 x.1.2.2.1 (x.1.2.2.2.1, x.2.1)) fun x => out x.1.1 x.1.2.2.1
theorem ok : CodeOk PR 84 1 (.loop c) fr :=
  lp_ok tbok hmix h0 (.R (.L (.one (.R (.one (.fr 2)))))) (G := (mkG [])) .nil (L := mkL [(2, spec_l6Reach_l2.fr)]) (l := [(2, .loop spec_l6Reach_l2.c)]) ⟨Lam.cons spec_l6Reach_l2.ok, trivial⟩ [0, 3, 4, 5] [3] [(2, ([0, 3, 4], [3]))] ([], []) (fun x s => B x.1.1 x.1.2.2.1 s.1 s.2) (fun x s => ⟨[(0, .pt tFs_ x.1.1), (3, .seg 3 []), (4, .cs I64 x.1.2.2.1), (5, .cs I64 s.1)], [sr 3 (.cd (.sl .bool) s.2)]⟩) (fun x => (x.1.2.2.2.1, x.2.1))
    (fun x s => by simp only [B, mC, mB, mS, mO, mN]; kernel_rfl)
end spec_l6Reach_l1
namespace spec_l6Reach_l0
def c := codeAt (bodyOf Proofs.Try.f92) [1, 1, 1, 0, 1, 0, 0]
def sp : SP := ⟨[(0, .pt tFs_), (3, .seg 3 []), (4, .cs I64)], [(3, .reg, .cd (.sl .bool))]⟩
def out (f : Fs_) : FOut (List Bool) := fun b _ k => k (.ex 0) ⟨[(3, .seg 3 [])], [sr 3 (.cd (.sl .bool) b)]⟩
def fr := lfrag sp (fun x => spec_l6Reach_l0 x.1.1 (x.1.2.2.1, x.2.1)) fun x => out x.1.1
theorem ok : CodeOk PR 84 1 (.loop c) fr :=
  lp_ok tbok hmix h0 (.R (.L (.one (.R (.one (.fr 1)))))) (G := (mkG [])) .nil (L := mkL [(2, spec_l6Reach_l2.fr), (1, spec_l6Reach_l1.fr)]) (l := [(1, .loop spec_l6Reach_l1.c)]) ⟨Lam.skip rfl (Lam.cons spec_l6Reach_l1.ok), trivial⟩ [0, 3, 4] [3] [(0, ([3], [3]))] ([], []) (fun x s => B x.1.1 s.1 s.2) (fun x s => ⟨[(0, .pt tFs_ x.1.1), (3, .seg 3 []), (4, .cs I64 s.1)], [sr 3 (.cd (.sl .bool) s.2)]⟩) (fun x => (x.1.2.2.1, x.2.1))
    (fun x s => by simp only [B, mC, mB, mS, mO, mN]; kernel_rfl)
end spec_l6Reach_l0
namespace spec_l6Reach_l3
def c := codeAt (bodyOf Proofs.Try.f92) [1, 1, 1, 1, 1, 0, 1, 0, 0]
def sp : SP := ⟨[(3, .seg 3 []), (7, .seg 7 []), (8, .cs I64)], [(3, .reg, .cd (.sl .bool)), (7, .reg, .cd SI)]⟩
def out (o3 : List Bool) : FOut (List Int) := fun b _ k => k (.ex 6) ⟨[(7, .seg 7 [])], [sr 7 (.cd SI b)]⟩
def fr := lfrag sp (fun x => spec_l6Reach_l3 x.2.1 (x.1.2.2.1, x.2.2.1)) fun x => out x.2.1
theorem ok : CodeOk PR 84 1 (.loop c) fr :=
  lp_ok tbok hmix h0 .no (G := (mkG [])) .nil (L := mkL []) (l := []) hT [3, 7, 8] [3, 7] [(6, ([7], [7]))] ([], []) (fun x s => B x.2.1 s.1 s.2) (fun x s => ⟨[(3, .seg 3 []), (7, .seg 7 []), (8, .cs I64 s.1)], [sr 3 (.cd (.sl .bool) x.2.1), sr 7 (.cd SI s.2)]⟩) (fun x => (x.1.2.2.1, x.2.2.1))
    (fun x s => by simp only [B, mC, mB, mS, mO, mN]; kernel_rfl)
end spec_l6Reach_l3
namespace spec_l6Reach
def pts : List PT := [.pt tFs_]
def FS : FS := mkFS [.sh] pts (fun x => spec_l6Reach x.1) fun t => ⟨[.cd SI t], []⟩
theorem ok : FsOk PR 92 FS :=
  fn_ok tbok hmix Proofs.Try.f92 h0 (.R (.R (.R (.two (.R (.one (.fr 0))) (.R (.L (.R (.one (.fr 3))))))))) (G := (mkG [])) .nil (L := mkL [(2, spec_l6Reach_l2.fr), (1, spec_l6Reach_l1.fr), (0, spec_l6Reach_l0.fr), (3, spec_l6Reach_l3.fr)]) (l := [(0, .loop spec_l6Reach_l0.c), (3, .loop spec_l6Reach_l3.c)]) ⟨Lam.skip rfl (Lam.skip rfl (Lam.cons spec_l6Reach_l0.ok)), Lam.skip rfl (Lam.skip rfl (Lam.skip rfl (Lam.cons spec_l6Reach_l3.ok))), trivial⟩
    (fun x => by simp only [spec_l6Reach, mC, mB, mS, mO, mN]; kernel_rfl)
end spec_l6Reach
def spec_l5Links_l1.B (list : List Inode_) (at_ : Int) (i_ : Int) (n_2 : Int) (k_ : Int) : Option ((Int × Int) ⊕ (Int)) :=
  cond (inB i_ list.length) ((some (((((((list.getD i_.toNat zInode_).2).2).2).2).1).length : Int)).bind fun v => cond (decide (k_ < v)) (cond (inB i_ list.length) (cond (inB k_ (((((((list.getD i_.toNat zInode_).2).2).2).2).1).length)) ((some (((((((((list.getD i_.toNat zInode_).2).2).2).2).1).getD k_.toNat zEntry_).2).1)).bind fun v2 => cond (v2 == at_) (some (.inl (w64 (n_2 + 1), w64 (k_ + 1)))) (some (.inl (n_2, w64 (k_ + 1))))) (none)) (none)) (some (.inr n_2))) (none)
def spec_l5Links_l1 (list : List Inode_) (at_ : Int) (i_ : Int) : (Int × Int) → Option (Int) :=
  loopL fun s => spec_l5Links_l1.B list at_ i_ s.1 s.2
def spec_l5Links_l0.B (list : List Inode_) (at_ : Int) (n_ : Int) (i_ : Int) : Option ((Int × Int) ⊕ (Int)) :=
  cond (decide (i_ < (list.length : Int))) ((spec_l5Links_l1 list at_ i_ (n_, 0)).bind fun o => some (.inl (o, w64 (i_ + 1)))) (some (.inr n_))
def spec_l5Links_l0 (list : List Inode_) (at_ : Int) : (Int × Int) → Option (Int) :=
  loopL fun s => spec_l5Links_l0.B list at_ s.1 s.2
def spec_l5Links (list : List Inode_) (at_ : Int) : Option (Int) :=
  (spec_l5Links_l0 list at_ (0, 0)).bind fun o2 => some o2
namespace spec_l5Links_l1
def c := codeAt (bodyOf Proofs.Try.f79) [1, 1, 0, 1, 0, 0, 1, 0, 0, 1, 0, 0]
def sp : SP := ⟨[(0, .cs (.sl tInode_)), (1, .cs I64), (5, .cs I64), (6, .cs I64), (7, .cs I64)], []⟩
def out (list : List Inode_) (at_ : Int) (i_ : Int) : FOut (Int) := fun b _ k => k (.ex 2) ⟨[(0, .cs (.sl tInode_) list), (1, .cs I64 at_), (5, .cs I64 b), (6, .cs I64 i_)], []⟩
def fr := lfrag sp (fun x => spec_l5Links_l1 x.1.1 x.1.2.1 x.1.2.2.2.1 (x.1.2.2.1, x.1.2.2.2.2.1)) fun x => out x.1.1 x.1.2.1 x.1.2.2.2.1
theorem ok : CodeOk PR 38 2 (.loop c) fr :=
  lp_ok tbok hmix h0 .no (G := (mkG [])) .nil (L := mkL []) (l := []) hT [0, 1, 5, 6, 7] [] [(2, ([0, 1, 5, 6], []))] ([], []) (fun x s => B x.1.1 x.1.2.1 x.1.2.2.2.1 s.1 s.2) (fun x s => ⟨[(0, .cs (.sl tInode_) x.1.1), (1, .cs I64 x.1.2.1), (5, .cs I64 s.1), (6, .cs I64 x.1.2.2.2.1), (7, .cs I64 s.2)], []⟩) (fun x => (x.1.2.2.1, x.1.2.2.2.2.1))
    (fun x s => by simp only [B, mC, mB, mS, mO, mN]; kernel_rfl)
end spec_l5Links_l1
namespace spec_l5Links_l0
def c := codeAt (bodyOf Proofs.Try.f79) [1, 1, 0, 1, 0, 0]
def sp : SP := ⟨[(0, .cs (.sl tInode_)), (1, .cs I64), (5, .cs I64), (6, .cs I64)], []⟩
def out (list : List Inode_) (at_ : Int) : FOut (Int) := fun b _ k => k (.ex 0) ⟨[(5, .cs I64 b)], []⟩
def fr := lfrag sp (fun x => spec_l5Links_l0 x.1.1 x.1.2.1 (x.1.2.2.1, x.1.2.2.2.1)) fun x => out x.1.1 x.1.2.1
theorem ok : CodeOk PR 38 2 (.loop c) fr :=
  lp_ok tbok hmix h0 (.R (.L (.one (.R (.one (.fr 1)))))) (G := (mkG [])) .nil (L := mkL [(1, spec_l5Links_l1.fr)]) (l := [(1, .loop spec_l5Links_l1.c)]) ⟨Lam.cons spec_l5Links_l1.ok, trivial⟩ [0, 1, 5, 6] [] [(0, ([5], []))] ([], []) (fun x s => B x.1.1 x.1.2.1 s.1 s.2) (fun x s => ⟨[(0, .cs (.sl tInode_) x.1.1), (1, .cs I64 x.1.2.1), (5, .cs I64 s.1), (6, .cs I64 s.2)], []⟩) (fun x => (x.1.2.2.1, x.1.2.2.2.1))
    (fun x s => by simp only [B, mC, mB, mS, mO, mN]; kernel_rfl)
end spec_l5Links_l0
namespace spec_l5Links
def pts : List PT := [.cs (.sl tInode_), .cs I64]
def FS : FS := mkFS [.sh, .sh] pts (fun x => spec_l5Links x.1 x.2.1) fun t => ⟨[.cs I64 t], []⟩
theorem ok : FsOk PR 79 FS :=
  fn_ok tbok hmix Proofs.Try.f79 h0 (.R (.R (.L (.R (.one (.fr 0)))))) (G := (mkG [])) .nil (L := mkL [(1, spec_l5Links_l1.fr), (0, spec_l5Links_l0.fr)]) (l := [(0, .loop spec_l5Links_l0.c)]) ⟨Lam.skip rfl (Lam.cons spec_l5Links_l0.ok), trivial⟩
    (fun x => by simp only [spec_l5Links, mC, mB, mS, mO, mN]; kernel_rfl)
end spec_l5Links
def spec_l5Among_l0.B (list : List Int) (v : Int) (i_ : Int) : Option ((Int) ⊕ (((Bool) ⊕ (Unit)))) :=
  cond (decide (i_ < (list.length : Int))) (cond (inB i_ list.length) (cond ((list.getD i_.toNat 0) == v) (some (.inr (.inl true))) (some (.inl (w64 (i_ + 1))))) (none)) (some (.inr (.inr ())))
def spec_l5Among_l0 (list : List Int) (v : Int) : (Int) → Option (((Bool) ⊕ (Unit))) :=
  loopL fun s => spec_l5Among_l0.B list v s
def spec_l5Among (list : List Int) (v : Int) : Option (Bool) :=
  (spec_l5Among_l0 list v 0).bind fun o => sel o (fun b => some b) (fun c => some false)
namespace spec_l5Among_l0
def c := codeAt (bodyOf Proofs.Try.f93) [1, 0, 1, 0, 0]
def sp : SP := ⟨[(0, .cs SI), (1, .cs I64), (5, .cs I64)], []⟩
def out (list : List Int) (v : Int) : FOut (((Bool) ⊕ (Unit))) := fun o _ k => sel o (fun b => k (.rt) ⟨[(4, .cs .bool b)], []⟩) (fun c => k (.ex 0) ⟨[], []⟩)
def fr := lfrag sp (fun x => spec_l5Among_l0 x.1.1 x.1.2.1 x.1.2.2.1) fun x => out x.1.1 x.1.2.1
theorem ok : CodeOk PR 18 2 (.loop c) fr :=
  lp_ok tbok hmix h0 .no (G := (mkG [])) .nil (L := mkL []) (l := []) hT [0, 1, 5] [] [(0, ([], []))] ([4], []) (fun x s => B x.1.1 x.1.2.1 s) (fun x s => ⟨[(0, .cs SI x.1.1), (1, .cs I64 x.1.2.1), (5, .cs I64 s)], []⟩) (fun x => x.1.2.2.1)
    (fun x s => by simp only [B, mC, mB, mS, mO, mN]; kernel_rfl)
end spec_l5Among_l0
namespace spec_l5Among
def pts : List PT := [.cs SI, .cs I64]
def FS : FS := mkFS [.sh, .sh] pts (fun x => spec_l5Among x.1 x.2.1) fun t => ⟨[.cs .bool t], []⟩
theorem ok : FsOk PR 93 FS :=
  fn_ok tbok hmix Proofs.Try.f93 h0 (.R (.L (.R (.one (.fr 0))))) (G := (mkG [])) .nil (L := mkL [(0, spec_l5Among_l0.fr)]) (l := [(0, .loop spec_l5Among_l0.c)]) ⟨Lam.cons spec_l5Among_l0.ok, trivial⟩
    (fun x => by simp only [spec_l5Among, mC, mB, mS, mO, mN]; kernel_rfl)
end spec_l5Among
def spec_l6Links_l0.B (f : Fs_) (r : List Int) (i_ : Int) : Option ((Int) ⊕ (((Bool) ⊕ (Unit)))) :=
  cond (decide (i_ < (f.1.length : Int))) (cond (inB i_ f.1.length) ((spec_l5Links f.1 i_).bind fun r2 => cond (((f.1.getD i_.toNat zInode_).1) == 0) (some (.inl (w64 (i_ + 1)))) (cond (((f.1.getD i_.toNat zInode_).1) == 1) (cond (r2 != (((f.1.getD i_.toNat zInode_).2).1)) (some (.inr (.inl false))) ((spec_l5Among r i_).bind fun r3 => cond (!r3) (some (.inr (.inl false))) (some (.inl (w64 (i_ + 1)))))) (cond (i_ == 0) (cond (r2 != 0) (some (.inr (.inl false))) ((spec_l5Among r i_).bind fun r4 => cond (!r4) (some (.inr (.inl false))) (some (.inl (w64 (i_ + 1)))))) (cond (r2 != 1) (some (.inr (.inl false))) ((spec_l5Among r i_).bind fun r5 => cond (!r5) (some (.inr (.inl false))) (some (.inl (w64 (i_ + 1))))))))) (none)) (some (.inr (.inr ())))
def spec_l6Links_l0 (f : Fs_) (r : List Int) : (Int) → Option (((Bool) ⊕ (Unit))) :=
  loopL fun s => spec_l6Links_l0.B f r s
def spec_l6Links (f : Fs_) : Option (Bool) :=
  (spec_l6Reach f).bind fun r => (spec_l6Links_l0 f r 0).bind fun o => sel o (fun b => some b) (fun c => some true)
namespace spec_l6Links
def G : Gam := mkG [(92, spec_l6Reach.FS), (79, spec_l5Links.FS), (93, spec_l5Among.FS)]
theorem Gok : GOk PR G := .cons spec_l6Reach.ok (.cons spec_l5Links.ok (.cons spec_l5Among.ok .nil))
end spec_l6Links
namespace spec_l6Links_l0
def c := codeAt (bodyOf Proofs.Try.f67) [1, 1, 0, 1, 0, 0]
def sp : SP := ⟨[(0, .pt tFs_), (3, .seg 3 []), (4, .cs I64)], [(3, .reg, .cd SI)]⟩
def out (f : Fs_) (r : List Int) : FOut (((Bool) ⊕ (Unit))) := fun o _ k => sel o (fun b => k (.rt) ⟨[(2, .cs .bool b)], []⟩) (fun c => k (.ex 0) ⟨[], []⟩)
def fr := lfrag sp (fun x => spec_l6Links_l0 x.1.1 x.2.1 x.1.2.2.1) fun x => out x.1.1 x.2.1
theorem ok : CodeOk PR 59 1 (.loop c) fr :=
  lp_ok tbok hmix h0 .no (G := spec_l6Links.G) spec_l6Links.Gok (L := mkL []) (l := []) hT [0, 3, 4] [3] [(0, ([], []))] ([2], []) (fun x s => B x.1.1 x.2.1 s) (fun x s => ⟨[(0, .pt tFs_ x.1.1), (3, .seg 3 []), (4, .cs I64 s)], [sr 3 (.cd SI x.2.1)]⟩) (fun x => x.1.2.2.1)
    (fun x s => by simp only [B, mC, mB, mS, mO, mN]; kernel_rfl)
end spec_l6Links_l0
namespace spec_l6Links
def pts : List PT := [.pt tFs_]
def FS : FS := mkFS [.sh] pts (fun x => spec_l6Links x.1) fun t => ⟨[.cs .bool t], []⟩
theorem ok : FsOk PR 67 FS :=
  fn_ok tbok hmix Proofs.Try.f67 h0 (.R (.R (.L (.R (.one (.fr 0)))))) (G := G) Gok (L := mkL [(0, spec_l6Links_l0.fr)]) (l := [(0, .loop spec_l6Links_l0.c)]) ⟨Lam.cons spec_l6Links_l0.ok, trivial⟩
    (fun x => by simp only [spec_l6Links, mC, mB, mS, mO, mN]; kernel_rfl)
end spec_l6Links
def spec_l1Min (a : Int) (b : Int) : Option (Int) :=
  cond (decide (a < b)) (some a) (some b)
namespace spec_l1Min
def pts : List PT := [.cs I64, .cs I64]
def FS : FS := mkFS [.sh, .sh] pts (fun x => spec_l1Min x.1 x.2.1) fun t => ⟨[.cs I64 t], []⟩
theorem ok : FsOk PR 78 FS :=
  fn_ok tbok hmix Proofs.Try.f78 h0 .no (G := (mkG [])) .nil (L := mkL []) (l := []) hT
    (fun x => by simp only [spec_l1Min, mC, mB, mS, mO, mN]; kernel_rfl)
end spec_l1Min
def spec_l6Sizes_l1.B (f : Fs_) (i_ : Int) (x_ : Inode_) (k_ : Int) (want_2 : List Int) : Option ((Int × List Int) ⊕ (List Int)) :=
  cond (decide (k_ < (x_.2.2.2.1.length : Int))) (cond (inB k_ x_.2.2.2.1.length) ((spec_l1Min 8 (w64 (x_.2.2.1 - (w64 (k_ * 8))))).bind fun r => cond (inB (x_.2.2.2.1.getD k_.toNat 0) want_2.length) ((some (want_2.set ((x_.2.2.2.1.getD k_.toNat 0).toNat) r)).bind fun want_3 => some (.inl (w64 (k_ + 1), want_3))) (none)) (none)) (some (.inr want_2))
def spec_l6Sizes_l1 (f : Fs_) (i_ : Int) (x_ : Inode_) : (Int × List Int) → Option (List Int) :=
  loopL fun s => spec_l6Sizes_l1.B f i_ x_ s.1 s.2
def spec_l6Sizes_l0.B (f : Fs_) (i_ : Int) (want_ : List Int) : Option ((Int × List Int) ⊕ (List Int)) :=
  cond (decide (i_ < (f.1.length : Int))) (cond (inB i_ f.1.length) ((spec_l6Sizes_l1 f i_ (f.1.getD i_.toNat zInode_) (0, want_)).bind fun o => some (.inl (w64 (i_ + 1), o))) (none)) (some (.inr want_))
def spec_l6Sizes_l0 (f : Fs_) : (Int × List Int) → Option (List Int) :=
  loopL fun s => spec_l6Sizes_l0.B f s.1 s.2
def spec_l6Sizes_l2.B (f : Fs_) (o2 : List Int) (i_2 : Int) : Option ((Int) ⊕ (((Bool) ⊕ (Unit)))) :=
  cond (decide (i_2 < (f.2.1.length : Int))) (cond (inB i_2 f.2.1.length) (cond (inB i_2 o2.length) ((some (((f.2.1.getD i_2.toNat []).length : Int) != (o2.getD i_2.toNat 0))).bind fun v => cond v (some (.inr (.inl false))) (some (.inl (w64 (i_2 + 1))))) (none)) (none)) (some (.inr (.inr ())))
def spec_l6Sizes_l2 (f : Fs_) (o2 : List Int) : (Int) → Option (((Bool) ⊕ (Unit))) :=
  loopL fun s => spec_l6Sizes_l2.B f o2 s
def spec_l6Sizes (f : Fs_) : Option (Bool) :=
  cond (decide ((0 : Int) ≤ (20 : Int)) && (decide ((20 : Int) ≤ (20 : Int)) && decide ((20 : Int) ≤ 2147483648))) ((spec_l6Sizes_l0 f (0, List.replicate (20 : Int).toNat 0)).bind fun o2 => (spec_l6Sizes_l2 f o2 0).bind fun o3 => sel o3 (fun b => some b) (fun c => some true)) (none)
namespace spec_l6Sizes
def G : Gam := mkG [(78, spec_l1Min.FS)]
theorem Gok : GOk PR G := .cons spec_l1Min.ok .nil
end spec_l6Sizes
namespace spec_l6Sizes_l1
def c := codeAt (bodyOf Proofs.Try.f68) [1, 1, 0, 1, 0, 0, 1, 0, 0, 1, 1, 0, 0]
def sp : SP := ⟨[(0, .pt tFs_), (3, .seg 3 []), (4, .cs I64), (5, .pt tInode_), (6, .cs I64)], [(3, .reg, .cd SI)]⟩
def out (f : Fs_) (i_ : Int) (x_ : Inode_) : FOut (List Int) := fun b _ k => k (.ex 2) ⟨[(0, .pt tFs_ f), (3, .seg 3 []), (4, .cs I64 i_)], [sr 3 (.cd SI b)]⟩
def fr := lfrag sp (fun x => spec_l6Sizes_l1 x.1.1 x.1.2.2.1 x.1.2.2.2.1 (x.1.2.2.2.2.1, x.2.1)) fun x => out x.1.1 x.1.2.2.1 x.1.2.2.2.1
theorem ok : CodeOk PR 72 1 (.loop c) fr :=
  lp_ok tbok hmix h0 .no (G := spec_l6Sizes.G) spec_l6Sizes.Gok (L := mkL []) (l := []) hT [0, 3, 4, 5, 6] [3] [(2, ([0, 3, 4], [3]))] ([], []) (fun x s => B x.1.1 x.1.2.2.1 x.1.2.2.2.1 s.1 s.2) (fun x s => ⟨[(0, .pt tFs_ x.1.1), (3, .seg 3 []), (4, .cs I64 x.1.2.2.1), (5, .pt tInode_ x.1.2.2.2.1), (6, .cs I64 s.1)], [sr 3 (.cd SI s.2)]⟩) (fun x => (x.1.2.2.2.2.1, x.2.1))
    (fun x s => by simp only [B, mC, mB, mS, mO, mN]; kernel_rfl)
end spec_l6Sizes_l1
namespace spec_l6Sizes_l0
def c := codeAt (bodyOf Proofs.Try.f68) [1, 1, 0, 1, 0, 0]
def sp : SP := ⟨[(0, .pt tFs_), (3, .seg 3 []), (4, .cs I64)], [(3, .reg, .cd SI)]⟩
def out (f : Fs_) : FOut (List Int) := fun b _ k => k (.ex 0) ⟨[(0, .pt tFs_ f), (3, .seg 3 [])], [sr 3 (.cd SI b)]⟩
def fr := lfrag sp (fun x => spec_l6Sizes_l0 x.1.1 (x.1.2.2.1, x.2.1)) fun x => out x.1.1
theorem ok : CodeOk PR 72 1 (.loop c) fr :=
  lp_ok tbok hmix h0 (.R (.L (.one (.R (.R (.one (.fr 1))))))) (G := spec_l6Sizes.G) spec_l6Sizes.Gok (L := mkL [(1, spec_l6Sizes_l1.fr)]) (l := [(1, .loop spec_l6Sizes_l1.c)]) ⟨Lam.cons spec_l6Sizes_l1.ok, trivial⟩ [0, 3, 4] [3] [(0, ([0, 3], [3]))] ([], []) (fun x s => B x.1.1 s.1 s.2) (fun x s => ⟨[(0, .pt tFs_ x.1.1), (3, .seg 3 []), (4, .cs I64 s.1)], [sr 3 (.cd SI s.2)]⟩) (fun x => (x.1.2.2.1, x.2.1))
    (fun x s => by simp only [B, mC, mB, mS, mO, mN]; kernel_rfl)
end spec_l6Sizes_l0
namespace spec_l6Sizes_l2
def c := codeAt (bodyOf Proofs.Try.f68) [1, 1, 1, 0, 1, 0, 0]
def sp : SP := ⟨[(0, .pt tFs_), (3, .seg 3 []), (7, .cs I64)], [(3, .reg, .cd SI)]⟩
def out (f : Fs_) (o2 : List Int) : FOut (((Bool) ⊕ (Unit))) := fun o _ k => sel o (fun b => k (.rt) ⟨[(2, .cs .bool b)], []⟩) (fun c => k (.ex 4) ⟨[], []⟩)
def fr := lfrag sp (fun x => spec_l6Sizes_l2 x.1.1 x.2.1 x.1.2.2.1) fun x => out x.1.1 x.2.1
theorem ok : CodeOk PR 72 1 (.loop c) fr :=
  lp_ok tbok hmix h0 .no (G := spec_l6Sizes.G) spec_l6Sizes.Gok (L := mkL []) (l := []) hT [0, 3, 7] [3] [(4, ([], []))] ([2], []) (fun x s => B x.1.1 x.2.1 s) (fun x s => ⟨[(0, .pt tFs_ x.1.1), (3, .seg 3 []), (7, .cs I64 s)], [sr 3 (.cd SI x.2.1)]⟩) (fun x => x.1.2.2.1)
    (fun x s => by simp only [B, mC, mB, mS, mO, mN]; kernel_rfl)
end spec_l6Sizes_l2
namespace spec_l6Sizes
def pts : List PT := [.pt tFs_]
def FS : FS := mkFS [.sh] pts (fun x => spec_l6Sizes x.1) fun t => ⟨[.cs .bool t], []⟩
theorem ok : FsOk PR 68 FS :=
  fn_ok tbok hmix Proofs.Try.f68 h0 (.R (.R (.two (.R (.one (.fr 0))) (.L (.R (.one (.fr 2))))))) (G := G) Gok (L := mkL [(1, spec_l6Sizes_l1.fr), (0, spec_l6Sizes_l0.fr), (2, spec_l6Sizes_l2.fr)]) (l := [(0, .loop spec_l6Sizes_l0.c), (2, .loop spec_l6Sizes_l2.c)]) ⟨Lam.skip rfl (Lam.cons spec_l6Sizes_l0.ok), Lam.skip rfl (Lam.skip rfl (Lam.cons spec_l6Sizes_l2.ok)), trivial⟩
    (fun x => by simp only [spec_l6Sizes, mC, mB, mS, mO, mN]; kernel_rfl)
end spec_l6Sizes
def spec_l6Fault (f : Fs_) : Option (Int) :=
  (spec_l6Entries f).bind fun r => cond (r != 0) (some r) ((spec_l6Links f).bind fun r2 => cond (!r2) (some 1) ((spec_l6Sizes f).bind fun r3 => cond (!r3) (some 1) (some 0)))
namespace spec_l6Fault
def G : Gam := mkG [(66, spec_l6Entries.FS), (67, spec_l6Links.FS), (68, spec_l6Sizes.FS)]
def pts : List PT := [.pt tFs_]
def FS : FS := mkFS [.sh] pts (fun x => spec_l6Fault x.1) fun t => ⟨[.cs I64 t], []⟩
theorem ok : FsOk PR 41 FS :=
  fn_ok tbok hmix Proofs.Try.f41 h0 .no (G := G) (show GOk PR G from .cons spec_l6Entries.ok (.cons spec_l6Links.ok (.cons spec_l6Sizes.ok .nil))) (L := mkL []) (l := []) hT
    (fun x => by simp only [spec_l6Fault, mC, mB, mS, mO, mN]; kernel_rfl)
end spec_l6Fault
def spec_SizeOf_l0.B (f : Fs_) (v : IntResult_) (n_ : Int) (i_ : Int) : Option ((Int × Int) ⊕ (Int)) :=
  cond (decide (i_ < (f.1.length : Int))) (cond (inB i_ f.1.length) ((some (w64 (n_ + ((((f.1.getD i_.toNat zInode_).2).2).1)))).bind fun v2 => some (.inl (v2, w64 (i_ + 1)))) (none)) (some (.inr n_))
def spec_SizeOf_l0 (f : Fs_) (v : IntResult_) : (Int × Int) → Option (Int) :=
  loopL fun s => spec_SizeOf_l0.B f v s.1 s.2
def spec_SizeOf (f : Fs_) : Option (IntResult_) :=
  (spec_l6Fault f).bind fun r => cond (r != 0) (some (r, 0, ())) ((spec_SizeOf_l0 f (0, 0, ()) (0, 0)).bind fun o => some (0, o, ()))
namespace spec_SizeOf
def G : Gam := mkG [(41, spec_l6Fault.FS)]
theorem Gok : GOk PR G := .cons spec_l6Fault.ok .nil
end spec_SizeOf
namespace spec_SizeOf_l0
def c := codeAt (bodyOf Proofs.Try.f20) [1, 1, 1, 0, 1, 0, 0]
def sp : SP := ⟨[(1, .pt tFs_), (2, .loc 2 []), (4, .cs I64), (5, .cs I64)], [(2, .mem, .cd tIntResult_)]⟩
def out (f : Fs_) (v : IntResult_) : FOut (Int) := fun b _ k => k (.ex 0) ⟨[(2, .loc 2 []), (4, .cs I64 b)], [(2, some ⟨.mem, .cd tIntResult_ v⟩)]⟩
def fr := lfrag sp (fun x => spec_SizeOf_l0 x.1.1 x.2.1 (x.1.2.2.1, x.1.2.2.2.1)) fun x => out x.1.1 x.2.1
theorem ok : CodeOk PR 28 1 (.loop c) fr :=
  lp_ok tbok hmix ⟨[1], [], [], 0⟩ .no (G := spec_SizeOf.G) spec_SizeOf.Gok (L := mkL []) (l := []) hT [1, 2, 4, 5] [2] [(0, ([2, 4], [2]))] ([], []) (fun x s => B x.1.1 x.2.1 s.1 s.2) (fun x s => ⟨[(1, .pt tFs_ x.1.1), (2, .loc 2 []), (4, .cs I64 s.1), (5, .cs I64 s.2)], [(2, some ⟨.mem, .cd tIntResult_ x.2.1⟩)]⟩) (fun x => (x.1.2.2.1, x.1.2.2.2.1))
    (fun x s => by simp only [B, mC, mB, mS, mO, mN]; kernel_rfl)
end spec_SizeOf_l0
namespace spec_SizeOf
def pts : List PT := [.cs tFs_]
def FS : FS := mkFS [.sh] pts (fun x => spec_SizeOf x.1) fun t => ⟨[.cs tIntResult_ t], []⟩
theorem ok : FsOk PR 20 FS :=
  fn_ok tbok hmix Proofs.Try.f20 ⟨[1], [], [], 0⟩ (.R (.R (.R (.L (.R (.one (.fr 0))))))) (G := G) Gok (L := mkL [(0, spec_SizeOf_l0.fr)]) (l := [(0, .loop spec_SizeOf_l0.c)]) ⟨Lam.cons spec_SizeOf_l0.ok, trivial⟩
    (fun x => by simp only [spec_SizeOf, mC, mB, mS, mO, mN]; kernel_rfl)
end spec_SizeOf
def impl_within (n : Int) (low : Int) (high : Int) : Option (Bool) :=
  (some (cond (decide (n ≥ low)) (decide (n ≤ high)) false)).bind fun v => some v
namespace impl_within
def pts : List PT := [.cs I64, .cs I64, .cs I64]
def FS : FS := mkFS [.sh, .sh, .sh] pts (fun x => impl_within x.1 x.2.1 x.2.2.1) fun t => ⟨[.cs .bool t], []⟩
theorem ok : FsOk PR 105 FS :=
  fn_ok tbok hmix Proofs.Try.f105 h0 .no (G := (mkG [])) .nil (L := mkL []) (l := []) hT
    (fun x => by simp only [impl_within, mC, mB, mS, mO, mN]; kernel_rfl)
end impl_within
def impl_size_int64 (l : List Int) : Option (Int) :=
  some (l.length : Int)
namespace impl_size_int64
def pts : List PT := [.cs SI]
def FS : FS := mkFS [.sh] pts (fun x => impl_size_int64 x.1) fun t => ⟨[.cs I64 t], []⟩
theorem ok : FsOk PR 52 FS :=
  fn_ok tbok hmix Proofs.Try.f52 h0 .no (G := (mkG [])) .nil (L := mkL []) (l := []) hT
    (fun x => by simp only [impl_size_int64, mC, mB, mS, mO, mN]; kernel_rfl)
end impl_size_int64
def impl_blocksFor (size : Int) : Option (Int) :=
  cond (!((8 : Int) == 0)) (some (w64 ((w64 ((w64 (size + 8)) - 1)).tdiv 8))) (none)
namespace impl_blocksFor
def pts : List PT := [.cs I64]
def FS : FS := mkFS [.sh] pts (fun x => impl_blocksFor x.1) fun t => ⟨[.cs I64 t], []⟩
theorem ok : FsOk PR 117 FS :=
  fn_ok tbok hmix Proofs.Try.f117 h0 .no (G := (mkG [])) .nil (L := mkL []) (l := []) hT
    (fun x => by simp only [impl_blocksFor, mC, mB, mS, mO, mN]; kernel_rfl)
end impl_blocksFor
def impl_fileFault_c1 (b : Int) : Option (Bool) :=
  (impl_within b 0 19).bind fun r => some (!r)
namespace impl_fileFault_c1
def G : Gam := mkG [(105, impl_within.FS)]
def pts : List PT := [.cs I64]
def FS : FS := mkFS [.sh] pts (fun x => impl_fileFault_c1 x.1) fun t => ⟨[.cs .bool t], []⟩
theorem ok : FsOk PR 119 FS :=
  fn_ok tbok hmix Proofs.Try.f119 h0 .no (G := G) (show GOk PR G from .cons impl_within.ok .nil) (L := mkL []) (l := []) hT
    (fun x => by simp only [impl_fileFault_c1, mC, mB, mS, mO, mN]; kernel_rfl)
end impl_fileFault_c1
def slices_IndexFunc_int64_fileFault_c1_l0.B (s_ : List Int) (f : Unit) (v : Int) (v2 : Int) : Option ((Int) ⊕ (((Int) ⊕ (Unit)))) :=
  cond (decide (v2 < v)) (cond (inB v2 s_.length) ((impl_fileFault_c1 (s_.getD v2.toNat 0)).bind fun r => cond r (some (.inr (.inl v2))) (some (.inl (w64 (v2 + 1))))) (none)) (some (.inr (.inr ())))
def slices_IndexFunc_int64_fileFault_c1_l0 (s_ : List Int) (f : Unit) (v : Int) : (Int) → Option (((Int) ⊕ (Unit))) :=
  loopL fun s => slices_IndexFunc_int64_fileFault_c1_l0.B s_ f v s
def slices_IndexFunc_int64_fileFault_c1 (s_ : List Int) (f : Unit) : Option (Int) :=
  (slices_IndexFunc_int64_fileFault_c1_l0 s_ f (s_.length : Int) 0).bind fun o => sel o (fun b => some b) (fun c => some (-1))
namespace slices_IndexFunc_int64_fileFault_c1
def G : Gam := mkG [(119, impl_fileFault_c1.FS)]
theorem Gok : GOk PR G := .cons impl_fileFault_c1.ok .nil
end slices_IndexFunc_int64_fileFault_c1
namespace slices_IndexFunc_int64_fileFault_c1_l0
def c := codeAt (bodyOf Proofs.Try.f123) [1, 0, 1, 0, 0]
def sp : SP := ⟨[(0, .cs SI), (1, .clo 119 (.cs .unit)), (7, .cs I64), (8, .cs I64)], []⟩
def out (s_ : List Int) (f : Unit) (v : Int) : FOut (((Int) ⊕ (Unit))) := fun o _ k => sel o (fun b => k (.rt) ⟨[(4, .cs I64 b)], []⟩) (fun c => k (.ex 0) ⟨[], []⟩)
def fr := lfrag sp (fun x => slices_IndexFunc_int64_fileFault_c1_l0 x.1.1 x.1.2.1 x.1.2.2.1 x.1.2.2.2.1) fun x => out x.1.1 x.1.2.1 x.1.2.2.1
theorem ok : CodeOk PR 19 2 (.loop c) fr :=
  lp_ok tbok hmix h0 .no (G := slices_IndexFunc_int64_fileFault_c1.G) slices_IndexFunc_int64_fileFault_c1.Gok (L := mkL []) (l := []) hT [0, 1, 7, 8] [] [(0, ([], []))] ([4], []) (fun x s => B x.1.1 x.1.2.1 x.1.2.2.1 s) (fun x s => ⟨[(0, .cs SI x.1.1), (1, .clo 119 (.cs .unit x.1.2.1)), (7, .cs I64 x.1.2.2.1), (8, .cs I64 s)], []⟩) (fun x => x.1.2.2.2.1)
    (fun x s => by simp only [B, mC, mB, mS, mO, mN]; kernel_rfl)
end slices_IndexFunc_int64_fileFault_c1_l0
namespace slices_IndexFunc_int64_fileFault_c1
def pts : List PT := [.cs SI, .clo 119 (.cs .unit)]
def FS : FS := mkFS [.sh, .sh] pts (fun x => slices_IndexFunc_int64_fileFault_c1 x.1 x.2.1) fun t => ⟨[.cs I64 t], []⟩
theorem ok : FsOk PR 123 FS :=
  fn_ok tbok hmix Proofs.Try.f123 h0 (.R (.L (.R (.one (.fr 0))))) (G := G) Gok (L := mkL [(0, slices_IndexFunc_int64_fileFault_c1_l0.fr)]) (l := [(0, .loop slices_IndexFunc_int64_fileFault_c1_l0.c)]) ⟨Lam.cons slices_IndexFunc_int64_fileFault_c1_l0.ok, trivial⟩
    (fun x => by simp only [slices_IndexFunc_int64_fileFault_c1, mC, mB, mS, mO, mN]; kernel_rfl)
end slices_IndexFunc_int64_fileFault_c1
def slices_ContainsFunc_int64_fileFault_c1 (s_ : List Int) (f : Unit) : Option (Bool) :=
  (slices_IndexFunc_int64_fileFault_c1 s_ f).bind fun r => some (decide (r ≥ 0))
namespace slices_ContainsFunc_int64_fileFault_c1
def G : Gam := mkG [(123, slices_IndexFunc_int64_fileFault_c1.FS)]
def pts : List PT := [.cs SI, .clo 119 (.cs .unit)]
def FS : FS := mkFS [.sh, .sh] pts (fun x => slices_ContainsFunc_int64_fileFault_c1 x.1 x.2.1) fun t => ⟨[.cs .bool t], []⟩
theorem ok : FsOk PR 118 FS :=
  fn_ok tbok hmix Proofs.Try.f118 h0 .no (G := G) (show GOk PR G from .cons slices_IndexFunc_int64_fileFault_c1.ok .nil) (L := mkL []) (l := []) hT
    (fun x => by simp only [slices_ContainsFunc_int64_fileFault_c1, mC, mB, mS, mO, mN]; kernel_rfl)
end slices_ContainsFunc_int64_fileFault_c1
def slices_Index_int64_l0.B (s_ : List Int) (v : Int) (v2 : Int) (v3 : Int) : Option ((Int) ⊕ (((Int) ⊕ (Unit)))) :=
  cond (decide (v3 < v2)) (cond (inB v3 s_.length) (cond (v == (s_.getD v3.toNat 0)) (some (.inr (.inl v3))) (some (.inl (w64 (v3 + 1))))) (none)) (some (.inr (.inr ())))
def slices_Index_int64_l0 (s_ : List Int) (v : Int) (v2 : Int) : (Int) → Option (((Int) ⊕ (Unit))) :=
  loopL fun s => slices_Index_int64_l0.B s_ v v2 s
def slices_Index_int64 (s_ : List Int) (v : Int) : Option (Int) :=
  (slices_Index_int64_l0 s_ v (s_.length : Int) 0).bind fun o => sel o (fun b => some b) (fun c => some (-1))
namespace slices_Index_int64_l0
def c := codeAt (bodyOf Proofs.Try.f86) [1, 0, 1, 0, 0]
def sp : SP := ⟨[(0, .cs SI), (1, .cs I64), (7, .cs I64), (8, .cs I64)], []⟩
def out (s_ : List Int) (v : Int) (v2 : Int) : FOut (((Int) ⊕ (Unit))) := fun o _ k => sel o (fun b => k (.rt) ⟨[(4, .cs I64 b)], []⟩) (fun c => k (.ex 0) ⟨[], []⟩)
def fr := lfrag sp (fun x => slices_Index_int64_l0 x.1.1 x.1.2.1 x.1.2.2.1 x.1.2.2.2.1) fun x => out x.1.1 x.1.2.1 x.1.2.2.1
theorem ok : CodeOk PR 19 2 (.loop c) fr :=
  lp_ok tbok hmix h0 .no (G := (mkG [])) .nil (L := mkL []) (l := []) hT [0, 1, 7, 8] [] [(0, ([], []))] ([4], []) (fun x s => B x.1.1 x.1.2.1 x.1.2.2.1 s) (fun x s => ⟨[(0, .cs SI x.1.1), (1, .cs I64 x.1.2.1), (7, .cs I64 x.1.2.2.1), (8, .cs I64 s)], []⟩) (fun x => x.1.2.2.2.1)
    (fun x s => by simp only [B, mC, mB, mS, mO, mN]; kernel_rfl)
end slices_Index_int64_l0
namespace slices_Index_int64
def pts : List PT := [.cs SI, .cs I64]
def FS : FS := mkFS [.sh, .sh] pts (fun x => slices_Index_int64 x.1 x.2.1) fun t => ⟨[.cs I64 t], []⟩
theorem ok : FsOk PR 86 FS :=
  fn_ok tbok hmix Proofs.Try.f86 h0 (.R (.L (.R (.one (.fr 0))))) (G := (mkG [])) .nil (L := mkL [(0, slices_Index_int64_l0.fr)]) (l := [(0, .loop slices_Index_int64_l0.c)]) ⟨Lam.cons slices_Index_int64_l0.ok, trivial⟩
    (fun x => by simp only [slices_Index_int64, mC, mB, mS, mO, mN]; kernel_rfl)
end slices_Index_int64
def slices_Contains_int64 (s_ : List Int) (v : Int) : Option (Bool) :=
  (slices_Index_int64 s_ v).bind fun r => some (decide (r ≥ 0))
namespace slices_Contains_int64
def G : Gam := mkG [(86, slices_Index_int64.FS)]
def pts : List PT := [.cs SI, .cs I64]
def FS : FS := mkFS [.sh, .sh] pts (fun x => slices_Contains_int64 x.1 x.2.1) fun t => ⟨[.cs .bool t], []⟩
theorem ok : FsOk PR 60 FS :=
  fn_ok tbok hmix Proofs.Try.f60 h0 .no (G := G) (show GOk PR G from .cons slices_Index_int64.ok .nil) (L := mkL []) (l := []) hT
    (fun x => by simp only [slices_Contains_int64, mC, mB, mS, mO, mN]; kernel_rfl)
end slices_Contains_int64
def impl_fileFault_l0.B (x : Inode_) (v : List Int) (v2 : Int) (v3 : Int) : Option ((Int) ⊕ (((Int) ⊕ (Unit)))) :=
  cond (decide (v3 < v2)) (cond (inB v3 v.length) (cond (decide ((0 : Int) ≤ v3) && decide (v3 ≤ (x.2.2.2.1.length : Int))) ((slices_Contains_int64 ((x.2.2.2.1.take v3.toNat).drop 0) (v.getD v3.toNat 0)).bind fun r6 => cond r6 (some (.inr (.inl 7))) (some (.inl (w64 (v3 + 1))))) (none)) (none)) (some (.inr (.inr ())))
def impl_fileFault_l0 (x : Inode_) (v : List Int) (v2 : Int) : (Int) → Option (((Int) ⊕ (Unit))) :=
  loopL fun s => impl_fileFault_l0.B x v v2 s
def impl_fileFault (x : Inode_) : Option (Int) :=
  (impl_within x.2.1 1 60).bind fun r => cond (!r) (some 3) ((impl_within x.2.2.1 0 32).bind fun r2 => cond (!r2) (some 3) ((impl_size_int64 x.2.2.2.1).bind fun r3 => (impl_blocksFor x.2.2.1).bind fun r4 => cond (r3 != r4) (some 1) ((slices_ContainsFunc_int64_fileFault_c1 x.2.2.2.1 ()).bind fun r5 => cond r5 (some 3) ((impl_fileFault_l0 x x.2.2.2.1 (x.2.2.2.1.length : Int) 0).bind fun o => sel o (fun b => some b) (fun c => some 0)))))
namespace impl_fileFault
def G : Gam := mkG [(105, impl_within.FS), (52, impl_size_int64.FS), (117, impl_blocksFor.FS), (118, slices_ContainsFunc_int64_fileFault_c1.FS), (60, slices_Contains_int64.FS)]
theorem Gok : GOk PR G := .cons impl_within.ok (.cons impl_size_int64.ok (.cons impl_blocksFor.ok (.cons slices_ContainsFunc_int64_fileFault_c1.ok (.cons slices_Contains_int64.ok .nil))))
end impl_fileFault
namespace impl_fileFault_l0
def c := codeAt (bodyOf Proofs.Try.f106) [1, 1, 0, 1, 0, 0]
def sp : SP := ⟨[(1, .pt tInode_), (29, .cs SI), (30, .cs I64), (31, .cs I64)], []⟩
def out (x : Inode_) (v : List Int) (v2 : Int) : FOut (((Int) ⊕ (Unit))) := fun o _ k => sel o (fun b => k (.rt) ⟨[(2, .cs I64 b)], []⟩) (fun c => k (.ex 1) ⟨[], []⟩)
def fr := lfrag sp (fun x => impl_fileFault_l0 x.1.1 x.1.2.1 x.1.2.2.1 x.1.2.2.2.1) fun x => out x.1.1 x.1.2.1 x.1.2.2.1
theorem ok : CodeOk PR 43 1 (.loop c) fr :=
  lp_ok tbok hmix ⟨[1], [], [], 0⟩ .no (G := impl_fileFault.G) impl_fileFault.Gok (L := mkL []) (l := []) hT [1, 29, 30, 31] [] [(1, ([], []))] ([2], []) (fun x s => B x.1.1 x.1.2.1 x.1.2.2.1 s) (fun x s => ⟨[(1, .pt tInode_ x.1.1), (29, .cs SI x.1.2.1), (30, .cs I64 x.1.2.2.1), (31, .cs I64 s)], []⟩) (fun x => x.1.2.2.2.1)
    (fun x s => by simp only [B, mC, mB, mS, mO, mN]; kernel_rfl)
end impl_fileFault_l0
namespace impl_fileFault
def pts : List PT := [.cs tInode_]
def FS : FS := mkFS [.sh] pts (fun x => impl_fileFault x.1) fun t => ⟨[.cs I64 t], []⟩
theorem ok : FsOk PR 106 FS :=
  fn_ok tbok hmix Proofs.Try.f106 ⟨[1], [], [], 0⟩ (.R (.R (.L (.R (.one (.fr 0)))))) (G := G) Gok (L := mkL [(0, impl_fileFault_l0.fr)]) (l := [(0, .loop impl_fileFault_l0.c)]) ⟨Lam.cons impl_fileFault_l0.ok, trivial⟩
    (fun x => by simp only [impl_fileFault, mC, mB, mS, mO, mN]; kernel_rfl)
end impl_fileFault
def impl_nameFault_l0.B (name : List UInt8) (v : Int) (v2 : Int) : Option ((Int) ⊕ (((Int) ⊕ (Unit)))) :=
  cond (decide (v2 < v)) (cond (inB v2 name.length) ((some (decide (((name.getD v2.toNat 0).toNat : Int) < 97))).bind fun v3 => cond (cond (!v3) (inB v2 name.length) true) ((some (cond v3 true (decide (((name.getD v2.toNat 0).toNat : Int) > 122)))).bind fun v4 => cond v4 (some (.inr (.inl 5))) (some (.inl (w64 (v2 + 1))))) (none)) (none)) (some (.inr (.inr ())))
def impl_nameFault_l0 (name : List UInt8) (v : Int) : (Int) → Option (((Int) ⊕ (Unit))) :=
  loopL fun s => impl_nameFault_l0.B name v s
def impl_nameFault (name : List UInt8) : Option (Int) :=
  cond (name == ([] : List UInt8)) (some 5) ((impl_nameFault_l0 name (name.length : Int) 0).bind fun o => sel o (fun b => some b) (fun c => cond (decide ((name.length : Int) > 4)) (some 2) (some 0)))
namespace impl_nameFault_l0
def c := codeAt (bodyOf Proofs.Try.f120) [1, 1, 0, 1, 0, 0]
def sp : SP := ⟨[(0, .cs .str), (7, .cs I64), (8, .cs I64)], []⟩
def out (name : List UInt8) (v : Int) : FOut (((Int) ⊕ (Unit))) := fun o _ k => sel o (fun b => k (.rt) ⟨[(2, .cs I64 b)], []⟩) (fun c => k (.ex 0) ⟨[(0, .cs .str name)], []⟩)
def fr := lfrag sp (fun x => impl_nameFault_l0 x.1.1 x.1.2.1 x.1.2.2.1) fun x => out x.1.1 x.1.2.1
theorem ok : CodeOk PR 25 1 (.loop c) fr :=
  lp_ok tbok hmix h0 .no (G := (mkG [])) .nil (L := mkL []) (l := []) hT [0, 7, 8] [] [(0, ([0], []))] ([2], []) (fun x s => B x.1.1 x.1.2.1 s) (fun x s => ⟨[(0, .cs .str x.1.1), (7, .cs I64 x.1.2.1), (8, .cs I64 s)], []⟩) (fun x => x.1.2.2.1)
    (fun x s => by simp only [B, mC, mB, mS, mO, mN]; kernel_rfl)
end impl_nameFault_l0
namespace impl_nameFault
def pts : List PT := [.cs .str]
def FS : FS := mkFS [.sh] pts (fun x => impl_nameFault x.1) fun t => ⟨[.cs I64 t], []⟩
theorem ok : FsOk PR 120 FS :=
  fn_ok tbok hmix Proofs.Try.f120 h0 (.R (.R (.L (.R (.one (.fr 0)))))) (G := (mkG [])) .nil (L := mkL [(0, impl_nameFault_l0.fr)]) (l := [(0, .loop impl_nameFault_l0.c)]) ⟨Lam.cons impl_nameFault_l0.ok, trivial⟩
    (fun x => by simp only [impl_nameFault, mC, mB, mS, mO, mN]; kernel_rfl)
end impl_nameFault
def impl_dirFault_l0.B (x : Inode_) (v : List Entry_) (v2 : Int) (v3 : Int) : Option ((Int) ⊕ (((Int) ⊕ (Unit)))) :=
  cond (decide (v3 < v2)) (cond (inB v3 v.length) ((impl_nameFault ((v.getD v3.toNat zEntry_).1)).bind fun r => cond (r != 0) (some (.inr (.inl r))) ((impl_within (((v.getD v3.toNat zEntry_).2).1) 0 9).bind fun r2 => cond (!r2) (some (.inr (.inl 3))) (cond (cond (decide (v3 > 0)) (inB (w64 (v3 - 1)) x.2.2.2.2.1.length) true) ((some (cond (decide (v3 > 0)) (!leB ((x.2.2.2.2.1.getD (w64 (v3 - 1)).toNat zEntry_).1) ((v.getD v3.toNat zEntry_).1)) false)).bind fun v4 => cond v4 (some (.inr (.inl 1))) (some (.inl (w64 (v3 + 1))))) (none)))) (none)) (some (.inr (.inr ())))
def impl_dirFault_l0 (x : Inode_) (v : List Entry_) (v2 : Int) : (Int) → Option (((Int) ⊕ (Unit))) :=
  loopL fun s => impl_dirFault_l0.B x v v2 s
def impl_dirFault (x : Inode_) : Option (Int) :=
  cond (decide ((x.2.2.2.2.1.length : Int) > 6)) (some 2) ((impl_dirFault_l0 x x.2.2.2.2.1 (x.2.2.2.2.1.length : Int) 0).bind fun o => sel o (fun b => some b) (fun c => some 0))
namespace impl_dirFault
def G : Gam := mkG [(120, impl_nameFault.FS), (105, impl_within.FS)]
theorem Gok : GOk PR G := .cons impl_nameFault.ok (.cons impl_within.ok .nil)
end impl_dirFault
namespace impl_dirFault_l0
def c := codeAt (bodyOf Proofs.Try.f107) [1, 1, 0, 1, 0, 0]
def sp : SP := ⟨[(1, .pt tInode_), (11, .cs (.sl tEntry_)), (12, .cs I64), (13, .cs I64)], []⟩
def out (x : Inode_) (v : List Entry_) (v2 : Int) : FOut (((Int) ⊕ (Unit))) := fun o _ k => sel o (fun b => k (.rt) ⟨[(2, .cs I64 b)], []⟩) (fun c => k (.ex 0) ⟨[], []⟩)
def fr := lfrag sp (fun x => impl_dirFault_l0 x.1.1 x.1.2.1 x.1.2.2.1 x.1.2.2.2.1) fun x => out x.1.1 x.1.2.1 x.1.2.2.1
theorem ok : CodeOk PR 43 1 (.loop c) fr :=
  lp_ok tbok hmix ⟨[1], [], [], 0⟩ .no (G := impl_dirFault.G) impl_dirFault.Gok (L := mkL []) (l := []) hT [1, 11, 12, 13] [] [(0, ([], []))] ([2], []) (fun x s => B x.1.1 x.1.2.1 x.1.2.2.1 s) (fun x s => ⟨[(1, .pt tInode_ x.1.1), (11, .cs (.sl tEntry_) x.1.2.1), (12, .cs I64 x.1.2.2.1), (13, .cs I64 s)], []⟩) (fun x => x.1.2.2.2.1)
    (fun x s => by simp only [B, mC, mB, mS, mO, mN]; kernel_rfl)
end impl_dirFault_l0
namespace impl_dirFault
def pts : List PT := [.cs tInode_]
def FS : FS := mkFS [.sh] pts (fun x => impl_dirFault x.1) fun t => ⟨[.cs I64 t], []⟩
theorem ok : FsOk PR 107 FS :=
  fn_ok tbok hmix Proofs.Try.f107 ⟨[1], [], [], 0⟩ (.R (.R (.L (.R (.one (.fr 0)))))) (G := G) Gok (L := mkL [(0, impl_dirFault_l0.fr)]) (l := [(0, .loop impl_dirFault_l0.c)]) ⟨Lam.cons impl_dirFault_l0.ok, trivial⟩
    (fun x => by simp only [impl_dirFault, mC, mB, mS, mO, mN]; kernel_rfl)
end impl_dirFault
def impl_inodeFault (x : Inode_) : Option (Int) :=
  (some (cond (cond (x.2.1 == 0) (x.2.2.1 == 0) false) ((x.2.2.2.1.length : Int) == 0) false)).bind fun v => (impl_within x.1 0 2).bind fun r => cond (!r) (some 1) (cond (cond (x.1 != 1) (!v) false) (some 1) ((some (cond (x.1 != 2) (!((x.2.2.2.2.1.length : Int) == 0)) false)).bind fun v2 => cond v2 (some 1) (cond (x.1 == 1) ((impl_fileFault x).bind fun r2 => some r2) ((impl_dirFault x).bind fun r3 => some r3))))
namespace impl_inodeFault
def G : Gam := mkG [(105, impl_within.FS), (106, impl_fileFault.FS), (107, impl_dirFault.FS)]
def pts : List PT := [.cs tInode_]
def FS : FS := mkFS [.sh] pts (fun x => impl_inodeFault x.1) fun t => ⟨[.cs I64 t], []⟩
theorem ok : FsOk PR 82 FS :=
  fn_ok tbok hmix Proofs.Try.f82 ⟨[1], [], [], 0⟩ .no (G := G) (show GOk PR G from .cons impl_within.ok (.cons impl_fileFault.ok (.cons impl_dirFault.ok .nil))) (L := mkL []) (l := []) hT
    (fun x => by simp only [impl_inodeFault, mC, mB, mS, mO, mN]; kernel_rfl)
end impl_inodeFault
def impl_inodesFault_l0.B (list : List Inode_) (v : Int) (v2 : Int) : Option ((Int) ⊕ (((Int) ⊕ (Unit)))) :=
  cond (decide (v2 < v)) (cond (inB v2 list.length) ((impl_inodeFault (list.getD v2.toNat zInode_)).bind fun r => cond (r != 0) (some (.inr (.inl r))) (some (.inl (w64 (v2 + 1))))) (none)) (some (.inr (.inr ())))
def impl_inodesFault_l0 (list : List Inode_) (v : Int) : (Int) → Option (((Int) ⊕ (Unit))) :=
  loopL fun s => impl_inodesFault_l0.B list v s
def impl_inodesFault (list : List Inode_) : Option (Int) :=
  cond (decide ((list.length : Int) > 10)) (some 2) ((impl_inodesFault_l0 list (list.length : Int) 0).bind fun o => sel o (fun b => some b) (fun c => some 0))
namespace impl_inodesFault
def G : Gam := mkG [(82, impl_inodeFault.FS)]
theorem Gok : GOk PR G := .cons impl_inodeFault.ok .nil
end impl_inodesFault
namespace impl_inodesFault_l0
def c := codeAt (bodyOf Proofs.Try.f51) [1, 1, 0, 1, 0, 0]
def sp : SP := ⟨[(9, .cs (.sl tInode_)), (10, .cs I64), (11, .cs I64)], []⟩
def out (list : List Inode_) (v : Int) : FOut (((Int) ⊕ (Unit))) := fun o _ k => sel o (fun b => k (.rt) ⟨[(2, .cs I64 b)], []⟩) (fun c => k (.ex 0) ⟨[], []⟩)
def fr := lfrag sp (fun x => impl_inodesFault_l0 x.1.1 x.1.2.1 x.1.2.2.1) fun x => out x.1.1 x.1.2.1
theorem ok : CodeOk PR 21 1 (.loop c) fr :=
  lp_ok tbok hmix h0 .no (G := impl_inodesFault.G) impl_inodesFault.Gok (L := mkL []) (l := []) hT [9, 10, 11] [] [(0, ([], []))] ([2], []) (fun x s => B x.1.1 x.1.2.1 s) (fun x s => ⟨[(9, .cs (.sl tInode_) x.1.1), (10, .cs I64 x.1.2.1), (11, .cs I64 s)], []⟩) (fun x => x.1.2.2.1)
    (fun x s => by simp only [B, mC, mB, mS, mO, mN]; kernel_rfl)
end impl_inodesFault_l0
namespace impl_inodesFault
def pts : List PT := [.cs (.sl tInode_)]
def FS : FS := mkFS [.sh] pts (fun x => impl_inodesFault x.1) fun t => ⟨[.cs I64 t], []⟩
theorem ok : FsOk PR 51 FS :=
  fn_ok tbok hmix Proofs.Try.f51 h0 (.R (.R (.L (.R (.one (.fr 0)))))) (G := G) Gok (L := mkL [(0, impl_inodesFault_l0.fr)]) (l := [(0, .loop impl_inodesFault_l0.c)]) ⟨Lam.cons impl_inodesFault_l0.ok, trivial⟩
    (fun x => by simp only [impl_inodesFault, mC, mB, mS, mO, mN]; kernel_rfl)
end impl_inodesFault
def impl_rootFault (f : Fs_) : Option (Int) :=
  (impl_inodesFault f.1).bind fun r => cond (r != 0) (some r) (cond (cond (!((f.1.length : Int) == 0)) (inB 0 f.1.length) true) ((some (cond ((f.1.length : Int) == 0) true (((f.1.getD (0 : Int).toNat zInode_).1) != 2))).bind fun v => cond (cond v true ((f.2.1.length : Int) != 20)) (some 1) (some 0)) (none))
namespace impl_rootFault
def G : Gam := mkG [(51, impl_inodesFault.FS)]
def pts : List PT := [.cs tFs_]
def FS : FS := mkFS [.sh] pts (fun x => impl_rootFault x.1) fun t => ⟨[.cs I64 t], []⟩
theorem ok : FsOk PR 29 FS :=
  fn_ok tbok hmix Proofs.Try.f29 ⟨[1], [], [], 0⟩ .no (G := G) (show GOk PR G from .cons impl_inodesFault.ok .nil) (L := mkL []) (l := []) hT
    (fun x => by simp only [impl_rootFault, mC, mB, mS, mO, mN]; kernel_rfl)
end impl_rootFault
def impl_treeFault_c1 (b : List Int) : Option (Bool) :=
  some (decide ((b.length : Int) > 8))
namespace impl_treeFault_c1
def pts : List PT := [.cs SB]
def FS : FS := mkFS [.sh] pts (fun x => impl_treeFault_c1 x.1) fun t => ⟨[.cs .bool t], []⟩
theorem ok : FsOk PR 95 FS :=
  fn_ok tbok hmix Proofs.Try.f95 h0 .no (G := (mkG [])) .nil (L := mkL []) (l := []) hT
    (fun x => by simp only [impl_treeFault_c1, mC, mB, mS, mO, mN]; kernel_rfl)
end impl_treeFault_c1
def slices_IndexFunc_Sbyte_treeFault_c1_l0.B (s_ : List (List Int)) (f : Unit) (v : Int) (v2 : Int) : Option ((Int) ⊕ (((Int) ⊕ (Unit)))) :=
  cond (decide (v2 < v)) (cond (inB v2 s_.length) ((impl_treeFault_c1 (s_.getD v2.toNat [])).bind fun r => cond r (some (.inr (.inl v2))) (some (.inl (w64 (v2 + 1))))) (none)) (some (.inr (.inr ())))
def slices_IndexFunc_Sbyte_treeFault_c1_l0 (s_ : List (List Int)) (f : Unit) (v : Int) : (Int) → Option (((Int) ⊕ (Unit))) :=
  loopL fun s => slices_IndexFunc_Sbyte_treeFault_c1_l0.B s_ f v s
def slices_IndexFunc_Sbyte_treeFault_c1 (s_ : List (List Int)) (f : Unit) : Option (Int) :=
  (slices_IndexFunc_Sbyte_treeFault_c1_l0 s_ f (s_.length : Int) 0).bind fun o => sel o (fun b => some b) (fun c => some (-1))
namespace slices_IndexFunc_Sbyte_treeFault_c1
def G : Gam := mkG [(95, impl_treeFault_c1.FS)]
theorem Gok : GOk PR G := .cons impl_treeFault_c1.ok .nil
end slices_IndexFunc_Sbyte_treeFault_c1
namespace slices_IndexFunc_Sbyte_treeFault_c1_l0
def c := codeAt (bodyOf Proofs.Try.f110) [1, 0, 1, 0, 0]
def sp : SP := ⟨[(0, .cs (.sl SB)), (1, .clo 95 (.cs .unit)), (7, .cs I64), (8, .cs I64)], []⟩
def out (s_ : List (List Int)) (f : Unit) (v : Int) : FOut (((Int) ⊕ (Unit))) := fun o _ k => sel o (fun b => k (.rt) ⟨[(4, .cs I64 b)], []⟩) (fun c => k (.ex 0) ⟨[], []⟩)
def fr := lfrag sp (fun x => slices_IndexFunc_Sbyte_treeFault_c1_l0 x.1.1 x.1.2.1 x.1.2.2.1 x.1.2.2.2.1) fun x => out x.1.1 x.1.2.1 x.1.2.2.1
theorem ok : CodeOk PR 19 2 (.loop c) fr :=
  lp_ok tbok hmix h0 .no (G := slices_IndexFunc_Sbyte_treeFault_c1.G) slices_IndexFunc_Sbyte_treeFault_c1.Gok (L := mkL []) (l := []) hT [0, 1, 7, 8] [] [(0, ([], []))] ([4], []) (fun x s => B x.1.1 x.1.2.1 x.1.2.2.1 s) (fun x s => ⟨[(0, .cs (.sl SB) x.1.1), (1, .clo 95 (.cs .unit x.1.2.1)), (7, .cs I64 x.1.2.2.1), (8, .cs I64 s)], []⟩) (fun x => x.1.2.2.2.1)
    (fun x s => by simp only [B, mC, mB, mS, mO, mN]; kernel_rfl)
end slices_IndexFunc_Sbyte_treeFault_c1_l0
namespace slices_IndexFunc_Sbyte_treeFault_c1
def pts : List PT := [.cs (.sl SB), .clo 95 (.cs .unit)]
def FS : FS := mkFS [.sh, .sh] pts (fun x => slices_IndexFunc_Sbyte_treeFault_c1 x.1 x.2.1) fun t => ⟨[.cs I64 t], []⟩
theorem ok : FsOk PR 110 FS :=
  fn_ok tbok hmix Proofs.Try.f110 h0 (.R (.L (.R (.one (.fr 0))))) (G := G) Gok (L := mkL [(0, slices_IndexFunc_Sbyte_treeFault_c1_l0.fr)]) (l := [(0, .loop slices_IndexFunc_Sbyte_treeFault_c1_l0.c)]) ⟨Lam.cons slices_IndexFunc_Sbyte_treeFault_c1_l0.ok, trivial⟩
    (fun x => by simp only [slices_IndexFunc_Sbyte_treeFault_c1, mC, mB, mS, mO, mN]; kernel_rfl)
end slices_IndexFunc_Sbyte_treeFault_c1
def slices_ContainsFunc_Sbyte_treeFault_c1 (s_ : List (List Int)) (f : Unit) : Option (Bool) :=
  (slices_IndexFunc_Sbyte_treeFault_c1 s_ f).bind fun r => some (decide (r ≥ 0))
namespace slices_ContainsFunc_Sbyte_treeFault_c1
def G : Gam := mkG [(110, slices_IndexFunc_Sbyte_treeFault_c1.FS)]
def pts : List PT := [.cs (.sl SB), .clo 95 (.cs .unit)]
def FS : FS := mkFS [.sh, .sh] pts (fun x => slices_ContainsFunc_Sbyte_treeFault_c1 x.1 x.2.1) fun t => ⟨[.cs .bool t], []⟩
theorem ok : FsOk PR 94 FS :=
  fn_ok tbok hmix Proofs.Try.f94 h0 .no (G := G) (show GOk PR G from .cons slices_IndexFunc_Sbyte_treeFault_c1.ok .nil) (L := mkL []) (l := []) hT
    (fun x => by simp only [slices_ContainsFunc_Sbyte_treeFault_c1, mC, mB, mS, mO, mN]; kernel_rfl)
end slices_ContainsFunc_Sbyte_treeFault_c1
def slices_Sort_int64 (s : List Int) : Option (List Int) := sortP s
def slices_Sort_int64.FS : FS := mkFS [.mu] [.cl .deep (.sl (.int .i64))] (fun x => slices_Sort_int64 x.1) fun y => ⟨[], [.cl .deep (.sl (.int .i64)) y]⟩
theorem slices_Sort_int64.ok : FsOk Go.Proofs.Try.prog 111 slices_Sort_int64.FS :=
  sort_fs ⟨Go.Proofs.Try.f111, by kernel_rfl, by kernel_rfl, by kernel_rfl⟩ (fun blk off cap zs w h1 h2 h3 => Go.Proofs.AnyM.slices_Sort_int Go.Proofs.Try.sortLay blk off cap zs w h1 h2 h3) (fun p cap w => Go.Proofs.AnyM.slices_Sort_int_none Go.Proofs.Try.sortLay p cap w)
def slices_Clone_int64 (s : List Int) : Option (List Int) := cloneP s
def slices_Clone_int64.FS : FS := mkFS [.sh] [.cl .sh (.sl (.int .i64))] (fun x => slices_Clone_int64 x.1) fun y => ⟨[.cl .deep (.sl (.int .i64)) y], []⟩
theorem slices_Clone_int64.ok : FsOk Go.Proofs.Try.prog 88 slices_Clone_int64.FS :=
  clone_fs (hn := ⟨[], [], [], 0⟩) tbok hmix (fn := Go.Proofs.Try.f88) (by kernel_rfl) (body_some (by kernel_rfl)) (by kernel_rfl) (by kernel_rfl) .deep (.int .i64) 27 27 2 (by kernel_rfl) (by kernel_rfl) (by kernel_rfl) (by kernel_rfl) (by kernel_rfl) (by kernel_rfl) (by kernel_rfl) (by kernel_rfl) (fun xs => by kernel_rfl) (fun xs => by kernel_rfl) (fun xs => by kernel_rfl) (fun xs => by kernel_rfl)
def slices_Compact_int64_l1.B (s2_ : Nat) (s2_2 : Nat) (k_2 : Int) (k2_ : Int) (s_2 : List Int) : Option ((Int × Int × List Int) ⊕ (Int × List Int)) :=
  cond (decide (k2_ < (s2_2 : Int))) (cond (inB k2_ s2_2) (cond (inB (w64 (k2_ - 1)) s2_2) ((some ((s_2.getD (s2_ + k2_.toNat) 0) != (s_2.getD (s2_ + (w64 (k2_ - 1)).toNat) 0))).bind fun v2 => cond v2 (cond (inB k2_ s2_2) (cond (inB k_2 s_2.length) (some (.inl (w64 (k_2 + 1), w64 (k2_ + 1), s_2.set k_2.toNat (s_2.getD (s2_ + k2_.toNat) 0)))) (none)) (none)) (some (.inl (k_2, w64 (k2_ + 1), s_2)))) (none)) (none)) (some (.inr (k_2, s_2)))
def slices_Compact_int64_l1 (s2_ : Nat) (s2_2 : Nat) : (Int × Int × List Int) → Option (Int × List Int) :=
  loopL fun s => slices_Compact_int64_l1.B s2_ s2_2 s.1 s.2.1 s.2.2
def slices_Compact_int64_l0.B (s_ : List Int) (k_ : Int) : Option ((Int) ⊕ (((Nat × Nat × List Int) ⊕ (Unit)))) :=
  cond (decide (k_ < (s_.length : Int))) (cond (inB k_ s_.length) (cond (inB (w64 (k_ - 1)) s_.length) ((some ((s_.getD k_.toNat 0) == (s_.getD ((w64 (k_ - 1)).toNat) 0))).bind fun v => cond v (cond (decide ((0 : Int) ≤ k_) && decide (k_ ≤ (s_.length : Int))) ((slices_Compact_int64_l1 k_.toNat (s_.length - k_.toNat) (k_, 1, s_)).bind fun o => cond (decide ((0 : Int) ≤ o.1) && decide (o.1 ≤ (o.2.length : Int))) ((some (splice o.2 o.1.toNat (List.replicate (o.2.length - o.1.toNat) 0))).bind fun s_3 => cond (decide ((0 : Int) ≤ o.1) && decide (o.1 ≤ (s_3.length : Int))) (some (.inr (.inl (0, o.1.toNat - 0, s_3)))) (none)) (none)) (none)) (some (.inl (w64 (k_ + 1))))) (none)) (none)) (some (.inr (.inr ())))
def slices_Compact_int64_l0 (s_ : List Int) : (Int) → Option (((Nat × Nat × List Int) ⊕ (Unit))) :=
  loopL fun s => slices_Compact_int64_l0.B s_ s
def slices_Compact_int64 (s_ : List Int) : Option (List Int) :=
  cond (decide ((s_.length : Int) < 2)) (some s_) ((slices_Compact_int64_l0 s_ 1).bind fun o2 => sel o2 (fun b => some ((b.2.2.drop b.1).take b.2.1)) (fun c => some s_))
namespace slices_Compact_int64_l1
def c := codeAt (bodyOf Proofs.Try.f112) [1, 1, 0, 1, 0, 0, 1, 0, 0, 1, 0, 1, 0, 1, 0, 0]
def sp : SP := ⟨[(0, .seg 0 []), (3, .cs I64), (4, .sub 0 []), (5, .cs I64)], [(0, .reg, .cd SI)]⟩
def out (s2_ : Nat) (s2_2 : Nat) : FOut (Int × List Int) := fun b _ k => k (.ex 2) ⟨[(0, .seg 0 []), (3, .cs I64 b.1)], [sr 0 (.cd SI b.2)]⟩
def fr := lfrag sp (fun x => slices_Compact_int64_l1 x.1.2.2.1.2.1 x.1.2.2.1.2.2 (x.1.2.1, x.1.2.2.2.1, x.2.1)) fun x => out x.1.2.2.1.2.1 x.1.2.2.1.2.2
theorem ok : CodeOk PR 61 1 (.loop c) fr :=
  lp_ok tbok hmix h0 .no (G := (mkG [])) .nil (L := mkL []) (l := []) hT [0, 3, 4, 5] [0] [(2, ([0, 3], [0]))] ([], []) (fun x s => B x.1.2.2.1.2.1 x.1.2.2.1.2.2 s.1 s.2.1 s.2.2) (fun x s => ⟨[(0, .seg 0 []), (3, .cs I64 s.1), (4, .sub 0 [] x.1.2.2.1.2.1 x.1.2.2.1.2.2), (5, .cs I64 s.2.1)], [sr 0 (.cd SI s.2.2)]⟩) (fun x => (x.1.2.1, x.1.2.2.2.1, x.2.1))
    (fun x s => by simp only [B, mC, mB, mS, mO, mN]; kernel_rfl)
end slices_Compact_int64_l1
namespace slices_Compact_int64_l0
def c := codeAt (bodyOf Proofs.Try.f112) [1, 1, 0, 1, 0, 0]
def sp : SP := ⟨[(0, .seg 0 []), (3, .cs I64)], [(0, .reg, .cd SI)]⟩
def out (s_ : List Int) : FOut (((Nat × Nat × List Int) ⊕ (Unit))) := fun o _ k => sel o (fun b => k (.rt) ⟨[(2, .sub 0 [] b.1 b.2.1)], [sr 0 (.cd SI b.2.2)]⟩) (fun c => k (.ex 0) ⟨[(0, .seg 0 [])], [sr 0 (.cd SI s_)]⟩)
def fr := lfrag sp (fun x => slices_Compact_int64_l0 x.2.1 x.1.2.1) fun x => out x.2.1
theorem ok : CodeOk PR 61 1 (.loop c) fr :=
  lp_ok tbok hmix h0 (.R (.L (.one (.R (.L (.R (.L (.R (.one (.fr 1)))))))))) (G := (mkG [])) .nil (L := mkL [(1, slices_Compact_int64_l1.fr)]) (l := [(1, .loop slices_Compact_int64_l1.c)]) ⟨Lam.cons slices_Compact_int64_l1.ok, trivial⟩ [0, 3] [0] [(0, ([0], [0]))] ([2], [0]) (fun x s => B x.2.1 s) (fun x s => ⟨[(0, .seg 0 []), (3, .cs I64 s)], [sr 0 (.cd SI x.2.1)]⟩) (fun x => x.1.2.1)
    (fun x s => by simp only [B, mC, mB, mS, mO, mN]; kernel_rfl)
end slices_Compact_int64_l0
namespace slices_Compact_int64
def pts : List PT := [.cd SI]
def FS : FS := mkFS [.mv] pts (fun x => slices_Compact_int64 x.1) fun t => ⟨[.cd SI t], []⟩
theorem ok : FsOk PR 112 FS :=
  fn_ok tbok hmix Proofs.Try.f112 h0 (.R (.R (.L (.R (.one (.fr 0)))))) (G := (mkG [])) .nil (L := mkL [(1, slices_Compact_int64_l1.fr), (0, slices_Compact_int64_l0.fr)]) (l := [(0, .loop slices_Compact_int64_l0.c)]) ⟨Lam.skip rfl (Lam.cons slices_Compact_int64_l0.ok), trivial⟩
    (fun x => by simp only [slices_Compact_int64, mC, mB, mS, mO, mN]; kernel_rfl)
end slices_Compact_int64
def impl_usedBlocks_l0.B (list : List Inode_) (v : Int) (v2 : Int) (used_ : List Int) : Option ((Int × List Int) ⊕ (List Int)) :=
  cond (decide (v2 < v)) (cond (inB v2 list.length) ((some (used_ ++ (((((list.getD v2.toNat zInode_).2).2).2).1))).bind fun v3 => cond (decide (v3.length ≤ 2147483648)) (some (.inl (w64 (v2 + 1), v3))) (none)) (none)) (some (.inr used_))
def impl_usedBlocks_l0 (list : List Inode_) (v : Int) : (Int × List Int) → Option (List Int) :=
  loopL fun s => impl_usedBlocks_l0.B list v s.1 s.2
def impl_usedBlocks (list : List Inode_) : Option ((List Int) × Bool) :=
  (impl_usedBlocks_l0 list (list.length : Int) (0, [])).bind fun o => (slices_Sort_int64 o).bind fun r => (slices_Clone_int64 r).bind fun r2 => (slices_Compact_int64 r2).bind fun r3 => some (r, (r3.length : Int) == (r.length : Int))
namespace impl_usedBlocks
def G : Gam := mkG [(111, slices_Sort_int64.FS), (88, slices_Clone_int64.FS), (112, slices_Compact_int64.FS)]
theorem Gok : GOk PR G := .cons slices_Sort_int64.ok (.cons slices_Clone_int64.ok (.cons slices_Compact_int64.ok .nil))
end impl_usedBlocks
namespace impl_usedBlocks_l0
def c := codeAt (bodyOf Proofs.Try.f96) [1, 1, 0, 1, 0, 0]
def sp : SP := ⟨[(4, .seg 4 []), (7, .cs (.sl tInode_)), (8, .cs I64), (9, .cs I64)], [(4, .reg, .cd SI)]⟩
def out (list : List Inode_) (v : Int) : FOut (List Int) := fun b _ k => k (.ex 0) ⟨[(4, .seg 4 [])], [sr 4 (.cd SI b)]⟩
def fr := lfrag sp (fun x => impl_usedBlocks_l0 x.1.2.1 x.1.2.2.1 (x.1.2.2.2.1, x.2.1)) fun x => out x.1.2.1 x.1.2.2.1
theorem ok : CodeOk PR 28 1 (.loop c) fr :=
  lp_ok tbok hmix h0 .no (G := impl_usedBlocks.G) impl_usedBlocks.Gok (L := mkL []) (l := []) hT [4, 7, 8, 9] [4] [(0, ([4], [4]))] ([], []) (fun x s => B x.1.2.1 x.1.2.2.1 s.1 s.2) (fun x s => ⟨[(4, .seg 4 []), (7, .cs (.sl tInode_) x.1.2.1), (8, .cs I64 x.1.2.2.1), (9, .cs I64 s.1)], [sr 4 (.cd SI s.2)]⟩) (fun x => (x.1.2.2.2.1, x.2.1))
    (fun x s => by simp only [B, mC, mB, mS, mO, mN]; kernel_rfl)
end impl_usedBlocks_l0
namespace impl_usedBlocks
def pts : List PT := [.cs (.sl tInode_)]
def FS : FS := mkFS [.sh] pts (fun x => impl_usedBlocks x.1) fun t => ⟨[.cd SI t.1, .cs .bool t.2], []⟩
theorem ok : FsOk PR 96 FS :=
  fn_ok tbok hmix Proofs.Try.f96 h0 (.R (.R (.L (.R (.one (.fr 0)))))) (G := G) Gok (L := mkL [(0, impl_usedBlocks_l0.fr)]) (l := [(0, .loop impl_usedBlocks_l0.c)]) ⟨Lam.cons impl_usedBlocks_l0.ok, trivial⟩
    (fun x => by simp only [impl_usedBlocks, mC, mB, mS, mO, mN]; kernel_rfl)
end impl_usedBlocks
def impl_size_Inode (l : List Inode_) : Option (Int) :=
  some (l.length : Int)
namespace impl_size_Inode
def pts : List PT := [.cs (.sl tInode_)]
def FS : FS := mkFS [.sh] pts (fun x => impl_size_Inode x.1) fun t => ⟨[.cs I64 t], []⟩
theorem ok : FsOk PR 85 FS :=
  fn_ok tbok hmix Proofs.Try.f85 h0 .no (G := (mkG [])) .nil (L := mkL []) (l := []) hT
    (fun x => by simp only [impl_size_Inode, mC, mB, mS, mO, mN]; kernel_rfl)
end impl_size_Inode
def impl_treeFault_l1.B (f : Fs_) (v : List Inode_) (v2 : Int) (v3 : Int) (v5 : List Entry_) (v4 : Int) (v6 : Int) : Option ((Int) ⊕ (((Int) ⊕ (Unit)))) :=
  cond (decide (v6 < v4)) (cond (inB v6 v5.length) ((impl_size_Inode f.1).bind fun r4 => cond (cond (!(decide ((((v5.getD v6.toNat zEntry_).2).1) ≥ r4))) (inB (((v5.getD v6.toNat zEntry_).2).1) f.1.length) true) ((some (cond (decide ((((v5.getD v6.toNat zEntry_).2).1) ≥ r4)) true (((f.1.getD (((v5.getD v6.toNat zEntry_).2).1).toNat zInode_).1) == 0))).bind fun v7 => cond v7 (some (.inr (.inl 4))) (some (.inl (w64 (v6 + 1))))) (none)) (none)) (some (.inr (.inr ())))
def impl_treeFault_l1 (f : Fs_) (v : List Inode_) (v2 : Int) (v3 : Int) (v5 : List Entry_) (v4 : Int) : (Int) → Option (((Int) ⊕ (Unit))) :=
  loopL fun s => impl_treeFault_l1.B f v v2 v3 v5 v4 s
def impl_treeFault_l0.B (f : Fs_) (v : List Inode_) (v2 : Int) (v3 : Int) : Option ((Int) ⊕ (((Int) ⊕ (Unit)))) :=
  cond (decide (v3 < v2)) (cond (inB v3 v.length) ((some (((((((v.getD v3.toNat zInode_).2).2).2).2).1).length : Int)).bind fun v4 => (impl_treeFault_l1 f v v2 v3 ((((((v.getD v3.toNat zInode_).2).2).2).2).1) v4 0).bind fun o => sel o (fun b => some (.inr (.inl b))) (fun c => some (.inl (w64 (v3 + 1))))) (none)) (some (.inr (.inr ())))
def impl_treeFault_l0 (f : Fs_) (v : List Inode_) (v2 : Int) : (Int) → Option (((Int) ⊕ (Unit))) :=
  loopL fun s => impl_treeFault_l0.B f v v2 s
def impl_treeFault (f : Fs_) : Option (Int) :=
  (impl_rootFault f).bind fun r => cond (r != 0) (some r) ((slices_ContainsFunc_Sbyte_treeFault_c1 f.2.1 ()).bind fun r2 => cond r2 (some 2) ((impl_usedBlocks f.1).bind fun r3 => cond (!r3.2) (some 7) ((impl_treeFault_l0 f f.1 (f.1.length : Int) 0).bind fun o2 => sel o2 (fun b2 => some b2) (fun c2 => some 0))))
namespace impl_treeFault
def G : Gam := mkG [(29, impl_rootFault.FS), (94, slices_ContainsFunc_Sbyte_treeFault_c1.FS), (96, impl_usedBlocks.FS), (85, impl_size_Inode.FS)]
theorem Gok : GOk PR G := .cons impl_rootFault.ok (.cons slices_ContainsFunc_Sbyte_treeFault_c1.ok (.cons impl_usedBlocks.ok (.cons impl_size_Inode.ok .nil)))
end impl_treeFault
namespace impl_treeFault_l1
def c := codeAt (bodyOf Proofs.Try.f69) [1, 1, 1, 1, 0, 1, 0, 0, 1, 1, 0, 0, 1, 1, 0, 0]
def sp : SP := ⟨[(1, .pt tFs_), (27, .cs (.sl tInode_)), (28, .cs I64), (29, .cs I64), (34, .cs (.sl tEntry_)), (35, .cs I64), (36, .cs I64)], []⟩
def out (f : Fs_) (v : List Inode_) (v2 : Int) (v3 : Int) (v5 : List Entry_) (v4 : Int) : FOut (((Int) ⊕ (Unit))) := fun o _ k => sel o (fun b => k (.rt) ⟨[(2, .cs I64 b)], []⟩) (fun c => k (.ex 2) ⟨[(1, .pt tFs_ f), (27, .cs (.sl tInode_) v), (28, .cs I64 v2), (29, .cs I64 v3)], []⟩)
def fr := lfrag sp (fun x => impl_treeFault_l1 x.1.1 x.1.2.1 x.1.2.2.1 x.1.2.2.2.1 x.1.2.2.2.2.1 x.1.2.2.2.2.2.1 x.1.2.2.2.2.2.2.1) fun x => out x.1.1 x.1.2.1 x.1.2.2.1 x.1.2.2.2.1 x.1.2.2.2.2.1 x.1.2.2.2.2.2.1
theorem ok : CodeOk PR 58 1 (.loop c) fr :=
  lp_ok tbok hmix ⟨[1], [], [], 0⟩ .no (G := impl_treeFault.G) impl_treeFault.Gok (L := mkL []) (l := []) hT [1, 27, 28, 29, 34, 35, 36] [] [(2, ([1, 27, 28, 29], []))] ([2], []) (fun x s => B x.1.1 x.1.2.1 x.1.2.2.1 x.1.2.2.2.1 x.1.2.2.2.2.1 x.1.2.2.2.2.2.1 s) (fun x s => ⟨[(1, .pt tFs_ x.1.1), (27, .cs (.sl tInode_) x.1.2.1), (28, .cs I64 x.1.2.2.1), (29, .cs I64 x.1.2.2.2.1), (34, .cs (.sl tEntry_) x.1.2.2.2.2.1), (35, .cs I64 x.1.2.2.2.2.2.1), (36, .cs I64 s)], []⟩) (fun x => x.1.2.2.2.2.2.2.1)
    (fun x s => by simp only [B, mC, mB, mS, mO, mN]; kernel_rfl)
end impl_treeFault_l1
namespace impl_treeFault_l0
def c := codeAt (bodyOf Proofs.Try.f69) [1, 1, 1, 1, 0, 1, 0, 0]
def sp : SP := ⟨[(1, .pt tFs_), (27, .cs (.sl tInode_)), (28, .cs I64), (29, .cs I64)], []⟩
def out (f : Fs_) (v : List Inode_) (v2 : Int) : FOut (((Int) ⊕ (Unit))) := fun o _ k => sel o (fun b => k (.rt) ⟨[(2, .cs I64 b)], []⟩) (fun c => k (.ex 0) ⟨[], []⟩)
def fr := lfrag sp (fun x => impl_treeFault_l0 x.1.1 x.1.2.1 x.1.2.2.1 x.1.2.2.2.1) fun x => out x.1.1 x.1.2.1 x.1.2.2.1
theorem ok : CodeOk PR 58 1 (.loop c) fr :=
  lp_ok tbok hmix ⟨[1], [], [], 0⟩ (.R (.R (.L (.one (.R (.R (.one (.fr 1)))))))) (G := impl_treeFault.G) impl_treeFault.Gok (L := mkL [(1, impl_treeFault_l1.fr)]) (l := [(1, .loop impl_treeFault_l1.c)]) ⟨Lam.cons impl_treeFault_l1.ok, trivial⟩ [1, 27, 28, 29] [] [(0, ([], []))] ([2], []) (fun x s => B x.1.1 x.1.2.1 x.1.2.2.1 s) (fun x s => ⟨[(1, .pt tFs_ x.1.1), (27, .cs (.sl tInode_) x.1.2.1), (28, .cs I64 x.1.2.2.1), (29, .cs I64 s)], []⟩) (fun x => x.1.2.2.2.1)
    (fun x s => by simp only [B, mC, mB, mS, mO, mN]; kernel_rfl)
end impl_treeFault_l0
namespace impl_treeFault
def pts : List PT := [.cs tFs_]
def FS : FS := mkFS [.sh] pts (fun x => impl_treeFault x.1) fun t => ⟨[.cs I64 t], []⟩
theorem ok : FsOk PR 69 FS :=
  fn_ok tbok hmix Proofs.Try.f69 ⟨[1], [], [], 0⟩ (.R (.R (.R (.R (.L (.R (.one (.fr 0)))))))) (G := G) Gok (L := mkL [(1, impl_treeFault_l1.fr), (0, impl_treeFault_l0.fr)]) (l := [(0, .loop impl_treeFault_l0.c)]) ⟨Lam.skip rfl (Lam.cons impl_treeFault_l0.ok), trivial⟩
    (fun x => by simp only [impl_treeFault, mC, mB, mS, mO, mN]; kernel_rfl)
end impl_treeFault
def impl_reachOf_l1.B (list : List Inode_) (v3 : List Entry_) (v2 : Int) (seen_2 : List Bool) (v4 : Int) (open_3 : List Int) : Option ((Int × List Int) ⊕ (List Int)) :=
  cond (decide (v4 < v2)) (cond (inB v4 v3.length) (cond (decide ((open_3 ++ ([((v3.getD v4.toNat zEntry_).2).1])).length ≤ 2147483648)) (some (.inl (w64 (v4 + 1), open_3 ++ ([((v3.getD v4.toNat zEntry_).2).1])))) (none)) (none)) (some (.inr open_3))
def impl_reachOf_l1 (list : List Inode_) (v3 : List Entry_) (v2 : Int) (seen_2 : List Bool) : (Int × List Int) → Option (List Int) :=
  loopL fun s => impl_reachOf_l1.B list v3 v2 seen_2 s.1 s.2
def impl_reachOf_l0.B (list : List Inode_) (seen_ : List Bool) (open_ : List Int) : Option (((List Bool) × List Int) ⊕ (List Bool)) :=
  cond (decide ((open_.length : Int) > 0)) (cond (inB (w64 ((open_.length : Int) - 1)) open_.length) ((some (open_.getD ((w64 ((open_.length : Int) - 1)).toNat) 0)).bind fun v => cond (decide ((0 : Int) ≤ (w64 ((open_.length : Int) - 1))) && decide ((w64 ((open_.length : Int) - 1)) ≤ (open_.length : Int))) ((some ((open_.drop 0).take (((w64 ((open_.length : Int) - 1)).toNat) - 0))).bind fun open_2 => cond (inB v seen_.length) (cond (seen_.getD v.toNat false) (some (.inl (seen_, open_2))) (cond (inB v seen_.length) (cond (inB v list.length) ((some (((((((list.getD v.toNat zInode_).2).2).2).2).1).length : Int)).bind fun v2 => (impl_reachOf_l1 list ((((((list.getD v.toNat zInode_).2).2).2).2).1) v2 (seen_.set v.toNat true) (0, open_2)).bind fun o => some (.inl (seen_.set v.toNat true, o))) (none)) (none))) (none)) (none)) (none)) (some (.inr seen_))
def impl_reachOf_l0 (list : List Inode_) : ((List Bool) × List Int) → Option (List Bool) :=
  loopL fun s => impl_reachOf_l0.B list s.1 s.2
def impl_reachOf_l2.B (v5 : Int) (o2 : List Bool) (v6 : Int) (out_ : List Int) : Option ((Int × List Int) ⊕ (List Int)) :=
  cond (decide (v6 < v5)) (cond (inB v6 o2.length) (cond (o2.getD v6.toNat false) (cond (decide ((out_ ++ ([v6])).length ≤ 2147483648)) (some (.inl (w64 (v6 + 1), out_ ++ ([v6])))) (none)) (some (.inl (w64 (v6 + 1), out_)))) (none)) (some (.inr out_))
def impl_reachOf_l2 (v5 : Int) (o2 : List Bool) : (Int × List Int) → Option (List Int) :=
  loopL fun s => impl_reachOf_l2.B v5 o2 s.1 s.2
def impl_reachOf (list : List Inode_) (from_ : Int) : Option (List Int) :=
  cond (decide ((0 : Int) ≤ (list.length : Int)) && (decide ((list.length : Int) ≤ (list.length : Int)) && decide ((list.length : Int) ≤ 2147483648))) ((impl_reachOf_l0 list (List.replicate (list.length : Int).toNat false, [from_])).bind fun o2 => (impl_reachOf_l2 (o2.length : Int) o2 (0, [])).bind fun o3 => some o3) (none)
namespace impl_reachOf_l1
def c := codeAt (bodyOf Proofs.Try.f97) [1, 1, 1, 0, 0, 0, 1, 0, 1, 1, 1, 1, 1, 0, 0]
def sp : SP := ⟨[(0, .cs (.sl tInode_)), (5, .seg 5 []), (6, .seg 6 []), (43, .cs (.sl tEntry_)), (44, .cs I64), (45, .cs I64)], [(5, .reg, .cd (.sl .bool)), (6, .reg, .cd SI)]⟩
def out (list : List Inode_) (v3 : List Entry_) (v2 : Int) (seen_2 : List Bool) : FOut (List Int) := fun b _ k => k (.ex 2) ⟨[(0, .cs (.sl tInode_) list), (5, .seg 5 []), (6, .seg 6 [])], [sr 5 (.cd (.sl .bool) seen_2), sr 6 (.cd SI b)]⟩
def fr := lfrag sp (fun x => impl_reachOf_l1 x.1.1 x.1.2.2.2.1 x.1.2.2.2.2.1 x.2.1 (x.1.2.2.2.2.2.1, x.2.2.1)) fun x => out x.1.1 x.1.2.2.2.1 x.1.2.2.2.2.1 x.2.1
theorem ok : CodeOk PR 69 2 (.loop c) fr :=
  lp_ok tbok hmix h0 .no (G := (mkG [])) .nil (L := mkL []) (l := []) hT [0, 5, 6, 43, 44, 45] [5, 6] [(2, ([0, 5, 6], [5, 6]))] ([], []) (fun x s => B x.1.1 x.1.2.2.2.1 x.1.2.2.2.2.1 x.2.1 s.1 s.2) (fun x s => ⟨[(0, .cs (.sl tInode_) x.1.1), (5, .seg 5 []), (6, .seg 6 []), (43, .cs (.sl tEntry_) x.1.2.2.2.1), (44, .cs I64 x.1.2.2.2.2.1), (45, .cs I64 s.1)], [sr 5 (.cd (.sl .bool) x.2.1), sr 6 (.cd SI s.2)]⟩) (fun x => (x.1.2.2.2.2.2.1, x.2.2.1))
    (fun x s => by simp only [B, mC, mB, mS, mO, mN]; kernel_rfl)
end impl_reachOf_l1
namespace impl_reachOf_l0
def c := codeAt (bodyOf Proofs.Try.f97) [1, 1, 1, 0, 0, 0]
def sp : SP := ⟨[(0, .cs (.sl tInode_)), (5, .seg 5 []), (6, .seg 6 [])], [(5, .reg, .cd (.sl .bool)), (6, .reg, .cd SI)]⟩
def out (list : List Inode_) : FOut (List Bool) := fun b _ k => k (.ex 0) ⟨[(5, .seg 5 [])], [sr 5 (.cd (.sl .bool) b)]⟩
def fr := lfrag sp (fun x => impl_reachOf_l0 x.1.1 (x.2.1, x.2.2.1)) fun x => out x.1.1
theorem ok : CodeOk PR 69 2 (.loop c) fr :=
  lp_ok tbok hmix h0 (.R (.one (.R (.R (.R (.R (.R (.one (.fr 1))))))))) (G := (mkG [])) .nil (L := mkL [(1, impl_reachOf_l1.fr)]) (l := [(1, .loop impl_reachOf_l1.c)]) ⟨Lam.cons impl_reachOf_l1.ok, trivial⟩ [0, 5, 6] [5, 6] [(0, ([5], [5]))] ([], []) (fun x s => B x.1.1 s.1 s.2) (fun x s => ⟨[(0, .cs (.sl tInode_) x.1.1), (5, .seg 5 []), (6, .seg 6 [])], [sr 5 (.cd (.sl .bool) s.1), sr 6 (.cd SI s.2)]⟩) (fun x => (x.2.1, x.2.2.1))
    (fun x s => by simp only [B, mC, mB, mS, mO, mN]; kernel_rfl)
end impl_reachOf_l0
namespace impl_reachOf_l2
def c := codeAt (bodyOf Proofs.Try.f97) [1, 1, 1, 1, 1, 0, 1, 0, 0]
def sp : SP := ⟨[(10, .seg 10 []), (55, .seg 5 []), (56, .cs I64), (57, .cs I64)], [(5, .reg, .cd (.sl .bool)), (10, .reg, .cd SI)]⟩
def out (v5 : Int) (o2 : List Bool) : FOut (List Int) := fun b _ k => k (.ex 4) ⟨[(10, .seg 10 [])], [sr 10 (.cd SI b)]⟩
def fr := lfrag sp (fun x => impl_reachOf_l2 x.1.2.2.1 x.2.1 (x.1.2.2.2.1, x.2.2.1)) fun x => out x.1.2.2.1 x.2.1
theorem ok : CodeOk PR 69 2 (.loop c) fr :=
  lp_ok tbok hmix h0 .no (G := (mkG [])) .nil (L := mkL []) (l := []) hT [10, 55, 56, 57] [5, 10] [(4, ([10], [10]))] ([], []) (fun x s => B x.1.2.2.1 x.2.1 s.1 s.2) (fun x s => ⟨[(10, .seg 10 []), (55, .seg 5 []), (56, .cs I64 x.1.2.2.1), (57, .cs I64 s.1)], [sr 5 (.cd (.sl .bool) x.2.1), sr 10 (.cd SI s.2)]⟩) (fun x => (x.1.2.2.2.1, x.2.2.1))
    (fun x s => by simp only [B, mC, mB, mS, mO, mN]; kernel_rfl)
end impl_reachOf_l2
namespace impl_reachOf
def pts : List PT := [.cs (.sl tInode_), .cs I64]
def FS : FS := mkFS [.sh, .sh] pts (fun x => impl_reachOf x.1 x.2.1) fun t => ⟨[.cd SI t], []⟩
theorem ok : FsOk PR 97 FS :=
  fn_ok tbok hmix Proofs.Try.f97 h0 (.R (.R (.R (.two (.one (.fr 0)) (.R (.L (.R (.one (.fr 2))))))))) (G := (mkG [])) .nil (L := mkL [(1, impl_reachOf_l1.fr), (0, impl_reachOf_l0.fr), (2, impl_reachOf_l2.fr)]) (l := [(0, .loop impl_reachOf_l0.c), (2, .loop impl_reachOf_l2.c)]) ⟨Lam.skip rfl (Lam.cons impl_reachOf_l0.ok), Lam.skip rfl (Lam.skip rfl (Lam.cons impl_reachOf_l2.ok)), trivial⟩
    (fun x => by simp only [impl_reachOf, mC, mB, mS, mO, mN]; kernel_rfl)
end impl_reachOf
def impl_linksOf_l1.B (at_ : Int) (list : List Inode_) (v : Int) (v2 : Int) (v4 : List Entry_) (v3 : Int) (count_2 : Int) (v5 : Int) : Option ((Int × Int) ⊕ (Int)) :=
  cond (decide (v5 < v3)) (cond (inB v5 v4.length) (cond ((((v4.getD v5.toNat zEntry_).2).1) == at_) (some (.inl (w64 (count_2 + 1), w64 (v5 + 1)))) (some (.inl (count_2, w64 (v5 + 1))))) (none)) (some (.inr count_2))
def impl_linksOf_l1 (at_ : Int) (list : List Inode_) (v : Int) (v2 : Int) (v4 : List Entry_) (v3 : Int) : (Int × Int) → Option (Int) :=
  loopL fun s => impl_linksOf_l1.B at_ list v v2 v4 v3 s.1 s.2
def impl_linksOf_l0.B (at_ : Int) (list : List Inode_) (v : Int) (count_ : Int) (v2 : Int) : Option ((Int × Int) ⊕ (Int)) :=
  cond (decide (v2 < v)) (cond (inB v2 list.length) ((some (((((((list.getD v2.toNat zInode_).2).2).2).2).1).length : Int)).bind fun v3 => (impl_linksOf_l1 at_ list v v2 ((((((list.getD v2.toNat zInode_).2).2).2).2).1) v3 (count_, 0)).bind fun o => some (.inl (o, w64 (v2 + 1)))) (none)) (some (.inr count_))
def impl_linksOf_l0 (at_ : Int) (list : List Inode_) (v : Int) : (Int × Int) → Option (Int) :=
  loopL fun s => impl_linksOf_l0.B at_ list v s.1 s.2
def impl_linksOf (list : List Inode_) (at_ : Int) : Option (Int) :=
  (impl_linksOf_l0 at_ list (list.length : Int) (0, 0)).bind fun o2 => some o2
namespace impl_linksOf_l1
def c := codeAt (bodyOf Proofs.Try.f98) [1, 1, 0, 1, 0, 0, 1, 1, 0, 0, 1, 1, 0, 0]
def sp : SP := ⟨[(1, .cs I64), (5, .cs I64), (10, .cs (.sl tInode_)), (11, .cs I64), (12, .cs I64), (17, .cs (.sl tEntry_)), (18, .cs I64), (19, .cs I64)], []⟩
def out (at_ : Int) (list : List Inode_) (v : Int) (v2 : Int) (v4 : List Entry_) (v3 : Int) : FOut (Int) := fun b _ k => k (.ex 2) ⟨[(1, .cs I64 at_), (5, .cs I64 b), (10, .cs (.sl tInode_) list), (11, .cs I64 v), (12, .cs I64 v2)], []⟩
def fr := lfrag sp (fun x => impl_linksOf_l1 x.1.1 x.1.2.2.1 x.1.2.2.2.1 x.1.2.2.2.2.1 x.1.2.2.2.2.2.1 x.1.2.2.2.2.2.2.1 (x.1.2.1, x.1.2.2.2.2.2.2.2.1)) fun x => out x.1.1 x.1.2.2.1 x.1.2.2.2.1 x.1.2.2.2.2.1 x.1.2.2.2.2.2.1 x.1.2.2.2.2.2.2.1
theorem ok : CodeOk PR 32 2 (.loop c) fr :=
  lp_ok tbok hmix h0 .no (G := (mkG [])) .nil (L := mkL []) (l := []) hT [1, 5, 10, 11, 12, 17, 18, 19] [] [(2, ([1, 5, 10, 11, 12], []))] ([], []) (fun x s => B x.1.1 x.1.2.2.1 x.1.2.2.2.1 x.1.2.2.2.2.1 x.1.2.2.2.2.2.1 x.1.2.2.2.2.2.2.1 s.1 s.2) (fun x s => ⟨[(1, .cs I64 x.1.1), (5, .cs I64 s.1), (10, .cs (.sl tInode_) x.1.2.2.1), (11, .cs I64 x.1.2.2.2.1), (12, .cs I64 x.1.2.2.2.2.1), (17, .cs (.sl tEntry_) x.1.2.2.2.2.2.1), (18, .cs I64 x.1.2.2.2.2.2.2.1), (19, .cs I64 s.2)], []⟩) (fun x => (x.1.2.1, x.1.2.2.2.2.2.2.2.1))
    (fun x s => by simp only [B, mC, mB, mS, mO, mN]; kernel_rfl)
end impl_linksOf_l1
namespace impl_linksOf_l0
def c := codeAt (bodyOf Proofs.Try.f98) [1, 1, 0, 1, 0, 0]
def sp : SP := ⟨[(1, .cs I64), (5, .cs I64), (10, .cs (.sl tInode_)), (11, .cs I64), (12, .cs I64)], []⟩
def out (at_ : Int) (list : List Inode_) (v : Int) : FOut (Int) := fun b _ k => k (.ex 0) ⟨[(5, .cs I64 b)], []⟩
def fr := lfrag sp (fun x => impl_linksOf_l0 x.1.1 x.1.2.2.1 x.1.2.2.2.1 (x.1.2.1, x.1.2.2.2.2.1)) fun x => out x.1.1 x.1.2.2.1 x.1.2.2.2.1
theorem ok : CodeOk PR 32 2 (.loop c) fr :=
  lp_ok tbok hmix h0 (.R (.R (.L (.one (.R (.R (.one (.fr 1)))))))) (G := (mkG [])) .nil (L := mkL [(1, impl_linksOf_l1.fr)]) (l := [(1, .loop impl_linksOf_l1.c)]) ⟨Lam.cons impl_linksOf_l1.ok, trivial⟩ [1, 5, 10, 11, 12] [] [(0, ([5], []))] ([], []) (fun x s => B x.1.1 x.1.2.2.1 x.1.2.2.2.1 s.1 s.2) (fun x s => ⟨[(1, .cs I64 x.1.1), (5, .cs I64 s.1), (10, .cs (.sl tInode_) x.1.2.2.1), (11, .cs I64 x.1.2.2.2.1), (12, .cs I64 s.2)], []⟩) (fun x => (x.1.2.1, x.1.2.2.2.2.1))
    (fun x s => by simp only [B, mC, mB, mS, mO, mN]; kernel_rfl)
end impl_linksOf_l0
namespace impl_linksOf
def pts : List PT := [.cs (.sl tInode_), .cs I64]
def FS : FS := mkFS [.sh, .sh] pts (fun x => impl_linksOf x.1 x.2.1) fun t => ⟨[.cs I64 t], []⟩
theorem ok : FsOk PR 98 FS :=
  fn_ok tbok hmix Proofs.Try.f98 h0 (.R (.R (.L (.R (.one (.fr 0)))))) (G := (mkG [])) .nil (L := mkL [(1, impl_linksOf_l1.fr), (0, impl_linksOf_l0.fr)]) (l := [(0, .loop impl_linksOf_l0.c)]) ⟨Lam.skip rfl (Lam.cons impl_linksOf_l0.ok), trivial⟩
    (fun x => by simp only [impl_linksOf, mC, mB, mS, mO, mN]; kernel_rfl)
end impl_linksOf
def impl_linksFault_l0.B (f : Fs_) (v : List Inode_) (v2 : Int) (r : List Int) (v3 : Int) : Option ((Int) ⊕ (((Int) ⊕ (Unit)))) :=
  cond (decide (v3 < v2)) (cond (inB v3 v.length) ((impl_linksOf f.1 v3).bind fun r2 => (some (cond (((v.getD v3.toNat zInode_).1) == 1) ((((v.getD v3.toNat zInode_).2).1) != r2) false)).bind fun v4 => cond v4 (some (.inr (.inl 1))) ((some (cond (((v.getD v3.toNat zInode_).1) == 2) (v3 == 0) false)).bind fun v5 => cond (cond v5 (r2 != 0) false) (some (.inr (.inl 1))) ((some (cond (((v.getD v3.toNat zInode_).1) == 2) (decide (v3 > 0)) false)).bind fun v6 => cond (cond v6 (r2 != 1) false) (some (.inr (.inl 1))) (cond (((v.getD v3.toNat zInode_).1) != 0) ((slices_Contains_int64 r v3).bind fun r3 => cond (!r3) (some (.inr (.inl 1))) (some (.inl (w64 (v3 + 1))))) (some (.inl (w64 (v3 + 1)))))))) (none)) (some (.inr (.inr ())))
def impl_linksFault_l0 (f : Fs_) (v : List Inode_) (v2 : Int) (r : List Int) : (Int) → Option (((Int) ⊕ (Unit))) :=
  loopL fun s => impl_linksFault_l0.B f v v2 r s
def impl_linksFault (f : Fs_) : Option (Int) :=
  (impl_reachOf f.1 0).bind fun r => (impl_linksFault_l0 f f.1 (f.1.length : Int) r 0).bind fun o => sel o (fun b => some b) (fun c => some 0)
namespace impl_linksFault
def G : Gam := mkG [(97, impl_reachOf.FS), (98, impl_linksOf.FS), (60, slices_Contains_int64.FS)]
theorem Gok : GOk PR G := .cons impl_reachOf.ok (.cons impl_linksOf.ok (.cons slices_Contains_int64.ok .nil))
end impl_linksFault
namespace impl_linksFault_l0
def c := codeAt (bodyOf Proofs.Try.f70) [1, 1, 0, 1, 0, 0]
def sp : SP := ⟨[(1, .pt tFs_), (3, .seg 3 []), (12, .cs (.sl tInode_)), (13, .cs I64), (14, .cs I64)], [(3, .reg, .cd SI)]⟩
def out (f : Fs_) (v : List Inode_) (v2 : Int) (r : List Int) : FOut (((Int) ⊕ (Unit))) := fun o _ k => sel o (fun b => k (.rt) ⟨[(2, .cs I64 b)], []⟩) (fun c => k (.ex 0) ⟨[], []⟩)
def fr := lfrag sp (fun x => impl_linksFault_l0 x.1.1 x.1.2.2.1 x.1.2.2.2.1 x.2.1 x.1.2.2.2.2.1) fun x => out x.1.1 x.1.2.2.1 x.1.2.2.2.1 x.2.1
theorem ok : CodeOk PR 66 1 (.loop c) fr :=
  lp_ok tbok hmix ⟨[1], [], [], 0⟩ .no (G := impl_linksFault.G) impl_linksFault.Gok (L := mkL []) (l := []) hT [1, 3, 12, 13, 14] [3] [(0, ([], []))] ([2], []) (fun x s => B x.1.1 x.1.2.2.1 x.1.2.2.2.1 x.2.1 s) (fun x s => ⟨[(1, .pt tFs_ x.1.1), (3, .seg 3 []), (12, .cs (.sl tInode_) x.1.2.2.1), (13, .cs I64 x.1.2.2.2.1), (14, .cs I64 s)], [sr 3 (.cd SI x.2.1)]⟩) (fun x => x.1.2.2.2.2.1)
    (fun x s => by simp only [B, mC, mB, mS, mO, mN]; kernel_rfl)
end impl_linksFault_l0
namespace impl_linksFault
def pts : List PT := [.cs tFs_]
def FS : FS := mkFS [.sh] pts (fun x => impl_linksFault x.1) fun t => ⟨[.cs I64 t], []⟩
theorem ok : FsOk PR 70 FS :=
  fn_ok tbok hmix Proofs.Try.f70 ⟨[1], [], [], 0⟩ (.R (.R (.L (.R (.one (.fr 0)))))) (G := G) Gok (L := mkL [(0, impl_linksFault_l0.fr)]) (l := [(0, .loop impl_linksFault_l0.c)]) ⟨Lam.cons impl_linksFault_l0.ok, trivial⟩
    (fun x => by simp only [impl_linksFault, mC, mB, mS, mO, mN]; kernel_rfl)
end impl_linksFault
def impl_longs_l1.B (list : List Inode_) (v : Int) (v2 : Int) (v5 : List Int) (v4 : Int) (v3 : List Int) (x_ : Inode_) (v6 : Int) (out_2 : List Int) : Option ((Int × List Int) ⊕ (List Int)) :=
  cond (decide (v6 < v4)) (cond (inB v6 v5.length) ((some (cond (decide ((w64 (x_.2.2.1 - (w64 (v6 * 8)))) < 8)) (w64 (x_.2.2.1 - (w64 (v6 * 8)))) 8)).bind fun v7 => cond (inB (v5.getD v6.toNat 0) 20) (some (.inl (w64 (v6 + 1), out_2.set ((v5.getD v6.toNat 0).toNat) v7))) (none)) (none)) (some (.inr out_2))
def impl_longs_l1 (list : List Inode_) (v : Int) (v2 : Int) (v5 : List Int) (v4 : Int) (v3 : List Int) (x_ : Inode_) : (Int × List Int) → Option (List Int) :=
  loopL fun s => impl_longs_l1.B list v v2 v5 v4 v3 x_ s.1 s.2
def impl_longs_l0.B (list : List Inode_) (v : Int) (v3 : List Int) (v2 : Int) (out_ : List Int) : Option ((Int × List Int) ⊕ (List Int)) :=
  cond (decide (v2 < v)) (cond (inB v2 list.length) ((some ((((((list.getD v2.toNat zInode_).2).2).2).1).length : Int)).bind fun v4 => (impl_longs_l1 list v v2 (((((list.getD v2.toNat zInode_).2).2).2).1) v4 v3 (list.getD v2.toNat zInode_) (0, out_)).bind fun o => some (.inl (w64 (v2 + 1), o))) (none)) (some (.inr out_))
def impl_longs_l0 (list : List Inode_) (v : Int) (v3 : List Int) : (Int × List Int) → Option (List Int) :=
  loopL fun s => impl_longs_l0.B list v v3 s.1 s.2
def impl_longs (list : List Inode_) : Option (List Int) :=
  (impl_longs_l0 list (list.length : Int) (List.replicate 20 0) (0, (List.replicate 20 0))).bind fun o2 => some o2
namespace impl_longs_l1
def c := codeAt (bodyOf Proofs.Try.f53) [1, 1, 0, 1, 0, 0, 1, 1, 0, 0, 1, 1, 0, 0]
def sp : SP := ⟨[(2, .loc 2 []), (3, .loc 3 []), (5, .loc 5 []), (8, .cs (.sl tInode_)), (9, .cs I64), (10, .cs I64), (15, .cs SI), (16, .cs I64), (17, .cs I64)], [(2, .mem, .cd (.arr 20 I64)), (3, .mem, .cd (.arr 20 I64)), (5, .mem, .cs tInode_)]⟩
def out (list : List Inode_) (v : Int) (v2 : Int) (v5 : List Int) (v4 : Int) (v3 : List Int) (x_ : Inode_) : FOut (List Int) := fun b _ k => k (.ex 2) ⟨[(2, .loc 2 []), (3, .loc 3 []), (8, .cs (.sl tInode_) list), (9, .cs I64 v), (10, .cs I64 v2)], [(2, some ⟨.mem, .cd (.arr 20 I64) v3⟩), (3, some ⟨.mem, .cd (.arr 20 I64) b⟩)]⟩
def fr := lfrag sp (fun x => impl_longs_l1 x.1.2.2.2.1 x.1.2.2.2.2.1 x.1.2.2.2.2.2.1 x.1.2.2.2.2.2.2.1 x.1.2.2.2.2.2.2.2.1 x.2.1 x.2.2.2.1 (x.1.2.2.2.2.2.2.2.2.1, x.2.2.1)) fun x => out x.1.2.2.2.1 x.1.2.2.2.2.1 x.1.2.2.2.2.2.1 x.1.2.2.2.2.2.2.1 x.1.2.2.2.2.2.2.2.1 x.2.1 x.2.2.2.1
theorem ok : CodeOk PR 33 1 (.loop c) fr :=
  lp_ok tbok hmix h0 .no (G := (mkG [])) .nil (L := mkL []) (l := []) hT [2, 3, 5, 8, 9, 10, 15, 16, 17] [2, 3, 5] [(2, ([2, 3, 8, 9, 10], [2, 3]))] ([], []) (fun x s => B x.1.2.2.2.1 x.1.2.2.2.2.1 x.1.2.2.2.2.2.1 x.1.2.2.2.2.2.2.1 x.1.2.2.2.2.2.2.2.1 x.2.1 x.2.2.2.1 s.1 s.2) (fun x s => ⟨[(2, .loc 2 []), (3, .loc 3 []), (5, .loc 5 []), (8, .cs (.sl tInode_) x.1.2.2.2.1), (9, .cs I64 x.1.2.2.2.2.1), (10, .cs I64 x.1.2.2.2.2.2.1), (15, .cs SI x.1.2.2.2.2.2.2.1), (16, .cs I64 x.1.2.2.2.2.2.2.2.1), (17, .cs I64 s.1)], [(2, some ⟨.mem, .cd (.arr 20 I64) x.2.1⟩), (3, some ⟨.mem, .cd (.arr 20 I64) s.2⟩), (5, some ⟨.mem, .cs tInode_ x.2.2.2.1⟩)]⟩) (fun x => (x.1.2.2.2.2.2.2.2.2.1, x.2.2.1))
    (fun x s => by simp only [B, mC, mB, mS, mO, mN]; kernel_rfl)
end impl_longs_l1
namespace impl_longs_l0
def c := codeAt (bodyOf Proofs.Try.f53) [1, 1, 0, 1, 0, 0]
def sp : SP := ⟨[(2, .loc 2 []), (3, .loc 3 []), (8, .cs (.sl tInode_)), (9, .cs I64), (10, .cs I64)], [(2, .mem, .cd (.arr 20 I64)), (3, .mem, .cd (.arr 20 I64))]⟩
def out (list : List Inode_) (v : Int) (v3 : List Int) : FOut (List Int) := fun b _ k => k (.ex 0) ⟨[(2, .loc 2 []), (3, .loc 3 [])], [(2, some ⟨.mem, .cd (.arr 20 I64) v3⟩), (3, some ⟨.mem, .cd (.arr 20 I64) b⟩)]⟩
def fr := lfrag sp (fun x => impl_longs_l0 x.1.2.2.1 x.1.2.2.2.1 x.2.1 (x.1.2.2.2.2.1, x.2.2.1)) fun x => out x.1.2.2.1 x.1.2.2.2.1 x.2.1
theorem ok : CodeOk PR 33 1 (.loop c) fr :=
  lp_ok tbok hmix h0 (.R (.R (.L (.one (.R (.R (.one (.fr 1)))))))) (G := (mkG [])) .nil (L := mkL [(1, impl_longs_l1.fr)]) (l := [(1, .loop impl_longs_l1.c)]) ⟨Lam.cons impl_longs_l1.ok, trivial⟩ [2, 3, 8, 9, 10] [2, 3] [(0, ([2, 3], [2, 3]))] ([], []) (fun x s => B x.1.2.2.1 x.1.2.2.2.1 x.2.1 s.1 s.2) (fun x s => ⟨[(2, .loc 2 []), (3, .loc 3 []), (8, .cs (.sl tInode_) x.1.2.2.1), (9, .cs I64 x.1.2.2.2.1), (10, .cs I64 s.1)], [(2, some ⟨.mem, .cd (.arr 20 I64) x.2.1⟩), (3, some ⟨.mem, .cd (.arr 20 I64) s.2⟩)]⟩) (fun x => (x.1.2.2.2.2.1, x.2.2.1))
    (fun x s => by simp only [B, mC, mB, mS, mO, mN]; kernel_rfl)
end impl_longs_l0
namespace impl_longs
def pts : List PT := [.cs (.sl tInode_)]
def FS : FS := mkFS [.sh] pts (fun x => impl_longs x.1) fun t => ⟨[.cs (.arr 20 I64) t], []⟩
theorem ok : FsOk PR 53 FS :=
  fn_ok tbok hmix Proofs.Try.f53 h0 (.R (.R (.L (.R (.one (.fr 0)))))) (G := (mkG [])) .nil (L := mkL [(1, impl_longs_l1.fr), (0, impl_longs_l0.fr)]) (l := [(0, .loop impl_longs_l0.c)]) ⟨Lam.skip rfl (Lam.cons impl_longs_l0.ok), trivial⟩
    (fun x => by simp only [impl_longs, mC, mB, mS, mO, mN]; kernel_rfl)
end impl_longs
def impl_size_byte (l : List Int) : Option (Int) :=
  some (l.length : Int)
namespace impl_size_byte
def pts : List PT := [.cs SB]
def FS : FS := mkFS [.sh] pts (fun x => impl_size_byte x.1) fun t => ⟨[.cs I64 t], []⟩
theorem ok : FsOk PR 54 FS :=
  fn_ok tbok hmix Proofs.Try.f54 h0 .no (G := (mkG [])) .nil (L := mkL []) (l := []) hT
    (fun x => by simp only [impl_size_byte, mC, mB, mS, mO, mN]; kernel_rfl)
end impl_size_byte
def impl_dataFault_l0.B (f : Fs_) (r : List Int) (v : Int) : Option ((Int) ⊕ (((Int) ⊕ (Unit)))) :=
  cond (decide (v < 20)) (cond (inB v 20) (cond (inB v f.2.1.length) ((impl_size_byte (f.2.1.getD v.toNat [])).bind fun r2 => cond (r2 != (r.getD v.toNat 0)) (some (.inr (.inl 1))) (some (.inl (w64 (v + 1))))) (none)) (none)) (some (.inr (.inr ())))
def impl_dataFault_l0 (f : Fs_) (r : List Int) : (Int) → Option (((Int) ⊕ (Unit))) :=
  loopL fun s => impl_dataFault_l0.B f r s
def impl_dataFault (f : Fs_) : Option (Int) :=
  (impl_longs f.1).bind fun r => (impl_dataFault_l0 f r 0).bind fun o => sel o (fun b => some b) (fun c => some 0)
namespace impl_dataFault
def G : Gam := mkG [(53, impl_longs.FS), (54, impl_size_byte.FS)]
theorem Gok : GOk PR G := .cons impl_longs.ok (.cons impl_size_byte.ok .nil)
end impl_dataFault
namespace impl_dataFault_l0
def c := codeAt (bodyOf Proofs.Try.f71) [1, 0, 1, 0, 0]
def sp : SP := ⟨[(1, .pt tFs_), (7, .cs (.arr 20 I64)), (8, .cs I64)], []⟩
def out (f : Fs_) (r : List Int) : FOut (((Int) ⊕ (Unit))) := fun o _ k => sel o (fun b => k (.rt) ⟨[(2, .cs I64 b)], []⟩) (fun c => k (.ex 0) ⟨[], []⟩)
def fr := lfrag sp (fun x => impl_dataFault_l0 x.1.1 x.1.2.1 x.1.2.2.1) fun x => out x.1.1 x.1.2.1
theorem ok : CodeOk PR 21 1 (.loop c) fr :=
  lp_ok tbok hmix ⟨[1], [], [], 0⟩ .no (G := impl_dataFault.G) impl_dataFault.Gok (L := mkL []) (l := []) hT [1, 7, 8] [] [(0, ([], []))] ([2], []) (fun x s => B x.1.1 x.1.2.1 s) (fun x s => ⟨[(1, .pt tFs_ x.1.1), (7, .cs (.arr 20 I64) x.1.2.1), (8, .cs I64 s)], []⟩) (fun x => x.1.2.2.1)
    (fun x s => by simp only [B, mC, mB, mS, mO, mN]; kernel_rfl)
end impl_dataFault_l0
namespace impl_dataFault
def pts : List PT := [.cs tFs_]
def FS : FS := mkFS [.sh] pts (fun x => impl_dataFault x.1) fun t => ⟨[.cs I64 t], []⟩
theorem ok : FsOk PR 71 FS :=
  fn_ok tbok hmix Proofs.Try.f71 ⟨[1], [], [], 0⟩ (.R (.L (.R (.one (.fr 0))))) (G := G) Gok (L := mkL [(0, impl_dataFault_l0.fr)]) (l := [(0, .loop impl_dataFault_l0.c)]) ⟨Lam.cons impl_dataFault_l0.ok, trivial⟩
    (fun x => by simp only [impl_dataFault, mC, mB, mS, mO, mN]; kernel_rfl)
end impl_dataFault
def impl_fsFault (f : Fs_) : Option (Int) :=
  (impl_treeFault f).bind fun r => cond (r != 0) (some r) ((impl_linksFault f).bind fun r2 => cond (r2 != 0) (some r2) ((impl_dataFault f).bind fun r3 => some r3))
namespace impl_fsFault
def G : Gam := mkG [(69, impl_treeFault.FS), (70, impl_linksFault.FS), (71, impl_dataFault.FS)]
def pts : List PT := [.cs tFs_]
def FS : FS := mkFS [.sh] pts (fun x => impl_fsFault x.1) fun t => ⟨[.cs I64 t], []⟩
theorem ok : FsOk PR 42 FS :=
  fn_ok tbok hmix Proofs.Try.f42 ⟨[1], [], [], 0⟩ .no (G := G) (show GOk PR G from .cons impl_treeFault.ok (.cons impl_linksFault.ok (.cons impl_dataFault.ok .nil))) (L := mkL []) (l := []) hT
    (fun x => by simp only [impl_fsFault, mC, mB, mS, mO, mN]; kernel_rfl)
end impl_fsFault
def impl_SizeOf_l0.B (v : List Inode_) (v2 : Int) (v4 : IntResult_) (sum_ : Int) (v3 : Int) : Option ((Int × Int) ⊕ (Int)) :=
  cond (decide (v3 < v2)) (cond (inB v3 v.length) ((some (w64 (sum_ + ((((v.getD v3.toNat zInode_).2).2).1)))).bind fun v5 => some (.inl (v5, w64 (v3 + 1)))) (none)) (some (.inr sum_))
def impl_SizeOf_l0 (v : List Inode_) (v2 : Int) (v4 : IntResult_) : (Int × Int) → Option (Int) :=
  loopL fun s => impl_SizeOf_l0.B v v2 v4 s.1 s.2
def impl_SizeOf (f : Fs_) : Option (IntResult_) :=
  (impl_fsFault f).bind fun r => cond (r != 0) (some (r, 0, ())) ((impl_SizeOf_l0 f.1 (f.1.length : Int) (0, 0, ()) (0, 0)).bind fun o => some (0, o, ()))
namespace impl_SizeOf
def G : Gam := mkG [(42, impl_fsFault.FS)]
theorem Gok : GOk PR G := .cons impl_fsFault.ok .nil
end impl_SizeOf
namespace impl_SizeOf_l0
def c := codeAt (bodyOf Proofs.Try.f21) [1, 1, 1, 0, 1, 0, 0]
def sp : SP := ⟨[(2, .loc 2 []), (4, .cs I64), (14, .cs (.sl tInode_)), (15, .cs I64), (16, .cs I64)], [(2, .mem, .cd tIntResult_)]⟩
def out (v : List Inode_) (v2 : Int) (v4 : IntResult_) : FOut (Int) := fun b _ k => k (.ex 0) ⟨[(2, .loc 2 []), (4, .cs I64 b)], [(2, some ⟨.mem, .cd tIntResult_ v4⟩)]⟩
def fr := lfrag sp (fun x => impl_SizeOf_l0 x.1.2.2.1 x.1.2.2.2.1 x.2.1 (x.1.2.1, x.1.2.2.2.2.1)) fun x => out x.1.2.2.1 x.1.2.2.2.1 x.2.1
theorem ok : CodeOk PR 27 1 (.loop c) fr :=
  lp_ok tbok hmix ⟨[1], [], [], 0⟩ .no (G := impl_SizeOf.G) impl_SizeOf.Gok (L := mkL []) (l := []) hT [2, 4, 14, 15, 16] [2] [(0, ([2, 4], [2]))] ([], []) (fun x s => B x.1.2.2.1 x.1.2.2.2.1 x.2.1 s.1 s.2) (fun x s => ⟨[(2, .loc 2 []), (4, .cs I64 s.1), (14, .cs (.sl tInode_) x.1.2.2.1), (15, .cs I64 x.1.2.2.2.1), (16, .cs I64 s.2)], [(2, some ⟨.mem, .cd tIntResult_ x.2.1⟩)]⟩) (fun x => (x.1.2.1, x.1.2.2.2.2.1))
    (fun x s => by simp only [B, mC, mB, mS, mO, mN]; kernel_rfl)
end impl_SizeOf_l0
namespace impl_SizeOf
def pts : List PT := [.cs tFs_]
def FS : FS := mkFS [.sh] pts (fun x => impl_SizeOf x.1) fun t => ⟨[.cs tIntResult_ t], []⟩
theorem ok : FsOk PR 21 FS :=
  fn_ok tbok hmix Proofs.Try.f21 ⟨[1], [], [], 0⟩ (.R (.R (.R (.L (.R (.one (.fr 0))))))) (G := G) Gok (L := mkL [(0, impl_SizeOf_l0.fr)]) (l := [(0, .loop impl_SizeOf_l0.c)]) ⟨Lam.cons impl_SizeOf_l0.ok, trivial⟩
    (fun x => by simp only [impl_SizeOf, mC, mB, mS, mO, mN]; kernel_rfl)
end impl_SizeOf
def laws_eqIntResult (a : IntResult_) (b : IntResult_) : Option (Bool) :=
  cond (a.1 != b.1) (some false) (cond (a.2.1 != b.2.1) (some false) (some true))
namespace laws_eqIntResult
def pts : List PT := [.cs tIntResult_, .cs tIntResult_]
def FS : FS := mkFS [.sh, .sh] pts (fun x => laws_eqIntResult x.1 x.2.1) fun t => ⟨[.cs .bool t], []⟩
theorem ok : FsOk PR 22 FS :=
  fn_ok tbok hmix Proofs.Try.f22 ⟨[2, 3], [], [], 0⟩ .no (G := (mkG [])) .nil (L := mkL []) (l := []) hT
    (fun x => by simp only [laws_eqIntResult, mC, mB, mS, mO, mN]; kernel_rfl)
end laws_eqIntResult
def laws_eqInt64S_l0.B (a : List Int) (b : List Int) (i_ : Int) : Option ((Int) ⊕ (((Bool) ⊕ (Unit)))) :=
  cond (decide (i_ < (a.length : Int))) (cond (inB i_ a.length) (cond (inB i_ b.length) (cond ((a.getD i_.toNat 0) != (b.getD i_.toNat 0)) (some (.inr (.inl false))) (some (.inl (w64 (i_ + 1))))) (none)) (none)) (some (.inr (.inr ())))
def laws_eqInt64S_l0 (a : List Int) (b : List Int) : (Int) → Option (((Bool) ⊕ (Unit))) :=
  loopL fun s => laws_eqInt64S_l0.B a b s
def laws_eqInt64S (a : List Int) (b : List Int) : Option (Bool) :=
  cond ((a.length : Int) != (b.length : Int)) (some false) ((laws_eqInt64S_l0 a b 0).bind fun o => sel o (fun b2 => some b2) (fun c => some true))
namespace laws_eqInt64S_l0
def c := codeAt (bodyOf Proofs.Try.f31) [1, 1, 0, 1, 0, 0]
def sp : SP := ⟨[(0, .cs SI), (1, .cs SI), (5, .cs I64)], []⟩
def out (a : List Int) (b : List Int) : FOut (((Bool) ⊕ (Unit))) := fun o _ k => sel o (fun b => k (.rt) ⟨[(4, .cs .bool b)], []⟩) (fun c => k (.ex 0) ⟨[], []⟩)
def fr := lfrag sp (fun x => laws_eqInt64S_l0 x.1.1 x.1.2.1 x.1.2.2.1) fun x => out x.1.1 x.1.2.1
theorem ok : CodeOk PR 26 2 (.loop c) fr :=
  lp_ok tbok hmix h0 .no (G := (mkG [])) .nil (L := mkL []) (l := []) hT [0, 1, 5] [] [(0, ([], []))] ([4], []) (fun x s => B x.1.1 x.1.2.1 s) (fun x s => ⟨[(0, .cs SI x.1.1), (1, .cs SI x.1.2.1), (5, .cs I64 s)], []⟩) (fun x => x.1.2.2.1)
    (fun x s => by simp only [B, mC, mB, mS, mO, mN]; kernel_rfl)
end laws_eqInt64S_l0
namespace laws_eqInt64S
def pts : List PT := [.cs SI, .cs SI]
def FS : FS := mkFS [.sh, .sh] pts (fun x => laws_eqInt64S x.1 x.2.1) fun t => ⟨[.cs .bool t], []⟩
theorem ok : FsOk PR 31 FS :=
  fn_ok tbok hmix Proofs.Try.f31 h0 (.R (.R (.L (.R (.one (.fr 0)))))) (G := (mkG [])) .nil (L := mkL [(0, laws_eqInt64S_l0.fr)]) (l := [(0, .loop laws_eqInt64S_l0.c)]) ⟨Lam.cons laws_eqInt64S_l0.ok, trivial⟩
    (fun x => by simp only [laws_eqInt64S, mC, mB, mS, mO, mN]; kernel_rfl)
end laws_eqInt64S
def laws_eqEntry (a : Entry_) (b : Entry_) : Option (Bool) :=
  cond (!(a.1 == b.1)) (some false) (cond (a.2.1 != b.2.1) (some false) (some true))
namespace laws_eqEntry
def pts : List PT := [.cs tEntry_, .cs tEntry_]
def FS : FS := mkFS [.sh, .sh] pts (fun x => laws_eqEntry x.1 x.2.1) fun t => ⟨[.cs .bool t], []⟩
theorem ok : FsOk PR 108 FS :=
  fn_ok tbok hmix Proofs.Try.f108 ⟨[2, 3], [], [], 0⟩ .no (G := (mkG [])) .nil (L := mkL []) (l := []) hT
    (fun x => by simp only [laws_eqEntry, mC, mB, mS, mO, mN]; kernel_rfl)
end laws_eqEntry
def laws_eqEntryS_l0.B (a : List Entry_) (b : List Entry_) (i_ : Int) : Option ((Int) ⊕ (((Bool) ⊕ (Unit)))) :=
  cond (decide (i_ < (a.length : Int))) (cond (inB i_ a.length) (cond (inB i_ b.length) ((laws_eqEntry (a.getD i_.toNat zEntry_) (b.getD i_.toNat zEntry_)).bind fun r => cond (!r) (some (.inr (.inl false))) (some (.inl (w64 (i_ + 1))))) (none)) (none)) (some (.inr (.inr ())))
def laws_eqEntryS_l0 (a : List Entry_) (b : List Entry_) : (Int) → Option (((Bool) ⊕ (Unit))) :=
  loopL fun s => laws_eqEntryS_l0.B a b s
def laws_eqEntryS (a : List Entry_) (b : List Entry_) : Option (Bool) :=
  cond ((a.length : Int) != (b.length : Int)) (some false) ((laws_eqEntryS_l0 a b 0).bind fun o => sel o (fun b2 => some b2) (fun c => some true))
namespace laws_eqEntryS
def G : Gam := mkG [(108, laws_eqEntry.FS)]
theorem Gok : GOk PR G := .cons laws_eqEntry.ok .nil
end laws_eqEntryS
namespace laws_eqEntryS_l0
def c := codeAt (bodyOf Proofs.Try.f83) [1, 1, 0, 1, 0, 0]
def sp : SP := ⟨[(0, .cs (.sl tEntry_)), (1, .cs (.sl tEntry_)), (5, .cs I64)], []⟩
def out (a : List Entry_) (b : List Entry_) : FOut (((Bool) ⊕ (Unit))) := fun o _ k => sel o (fun b => k (.rt) ⟨[(4, .cs .bool b)], []⟩) (fun c => k (.ex 0) ⟨[], []⟩)
def fr := lfrag sp (fun x => laws_eqEntryS_l0 x.1.1 x.1.2.1 x.1.2.2.1) fun x => out x.1.1 x.1.2.1
theorem ok : CodeOk PR 27 2 (.loop c) fr :=
  lp_ok tbok hmix h0 .no (G := laws_eqEntryS.G) laws_eqEntryS.Gok (L := mkL []) (l := []) hT [0, 1, 5] [] [(0, ([], []))] ([4], []) (fun x s => B x.1.1 x.1.2.1 s) (fun x s => ⟨[(0, .cs (.sl tEntry_) x.1.1), (1, .cs (.sl tEntry_) x.1.2.1), (5, .cs I64 s)], []⟩) (fun x => x.1.2.2.1)
    (fun x s => by simp only [B, mC, mB, mS, mO, mN]; kernel_rfl)
end laws_eqEntryS_l0
namespace laws_eqEntryS
def pts : List PT := [.cs (.sl tEntry_), .cs (.sl tEntry_)]
def FS : FS := mkFS [.sh, .sh] pts (fun x => laws_eqEntryS x.1 x.2.1) fun t => ⟨[.cs .bool t], []⟩
theorem ok : FsOk PR 83 FS :=
  fn_ok tbok hmix Proofs.Try.f83 h0 (.R (.R (.L (.R (.one (.fr 0)))))) (G := G) Gok (L := mkL [(0, laws_eqEntryS_l0.fr)]) (l := [(0, .loop laws_eqEntryS_l0.c)]) ⟨Lam.cons laws_eqEntryS_l0.ok, trivial⟩
    (fun x => by simp only [laws_eqEntryS, mC, mB, mS, mO, mN]; kernel_rfl)
end laws_eqEntryS
def laws_eqInode (a : Inode_) (b : Inode_) : Option (Bool) :=
  cond (a.1 != b.1) (some false) (cond (a.2.1 != b.2.1) (some false) (cond (a.2.2.1 != b.2.2.1) (some false) ((laws_eqInt64S a.2.2.2.1 b.2.2.2.1).bind fun r => cond (!r) (some false) ((laws_eqEntryS a.2.2.2.2.1 b.2.2.2.2.1).bind fun r2 => cond (!r2) (some false) (some true)))))
namespace laws_eqInode
def G : Gam := mkG [(31, laws_eqInt64S.FS), (83, laws_eqEntryS.FS)]
def pts : List PT := [.cs tInode_, .cs tInode_]
def FS : FS := mkFS [.sh, .sh] pts (fun x => laws_eqInode x.1 x.2.1) fun t => ⟨[.cs .bool t], []⟩
theorem ok : FsOk PR 55 FS :=
  fn_ok tbok hmix Proofs.Try.f55 ⟨[2, 3], [], [], 0⟩ .no (G := G) (show GOk PR G from .cons laws_eqInt64S.ok (.cons laws_eqEntryS.ok .nil)) (L := mkL []) (l := []) hT
    (fun x => by simp only [laws_eqInode, mC, mB, mS, mO, mN]; kernel_rfl)
end laws_eqInode
def laws_eqInodeS_l0.B (a : List Inode_) (b : List Inode_) (i_ : Int) : Option ((Int) ⊕ (((Bool) ⊕ (Unit)))) :=
  cond (decide (i_ < (a.length : Int))) (cond (inB i_ a.length) (cond (inB i_ b.length) ((laws_eqInode (a.getD i_.toNat zInode_) (b.getD i_.toNat zInode_)).bind fun r => cond (!r) (some (.inr (.inl false))) (some (.inl (w64 (i_ + 1))))) (none)) (none)) (some (.inr (.inr ())))
def laws_eqInodeS_l0 (a : List Inode_) (b : List Inode_) : (Int) → Option (((Bool) ⊕ (Unit))) :=
  loopL fun s => laws_eqInodeS_l0.B a b s
def laws_eqInodeS (a : List Inode_) (b : List Inode_) : Option (Bool) :=
  cond ((a.length : Int) != (b.length : Int)) (some false) ((laws_eqInodeS_l0 a b 0).bind fun o => sel o (fun b2 => some b2) (fun c => some true))
namespace laws_eqInodeS
def G : Gam := mkG [(55, laws_eqInode.FS)]
theorem Gok : GOk PR G := .cons laws_eqInode.ok .nil
end laws_eqInodeS
namespace laws_eqInodeS_l0
def c := codeAt (bodyOf Proofs.Try.f32) [1, 1, 0, 1, 0, 0]
def sp : SP := ⟨[(0, .cs (.sl tInode_)), (1, .cs (.sl tInode_)), (5, .cs I64)], []⟩
def out (a : List Inode_) (b : List Inode_) : FOut (((Bool) ⊕ (Unit))) := fun o _ k => sel o (fun b => k (.rt) ⟨[(4, .cs .bool b)], []⟩) (fun c => k (.ex 0) ⟨[], []⟩)
def fr := lfrag sp (fun x => laws_eqInodeS_l0 x.1.1 x.1.2.1 x.1.2.2.1) fun x => out x.1.1 x.1.2.1
theorem ok : CodeOk PR 27 2 (.loop c) fr :=
  lp_ok tbok hmix h0 .no (G := laws_eqInodeS.G) laws_eqInodeS.Gok (L := mkL []) (l := []) hT [0, 1, 5] [] [(0, ([], []))] ([4], []) (fun x s => B x.1.1 x.1.2.1 s) (fun x s => ⟨[(0, .cs (.sl tInode_) x.1.1), (1, .cs (.sl tInode_) x.1.2.1), (5, .cs I64 s)], []⟩) (fun x => x.1.2.2.1)
    (fun x s => by simp only [B, mC, mB, mS, mO, mN]; kernel_rfl)
end laws_eqInodeS_l0
namespace laws_eqInodeS
def pts : List PT := [.cs (.sl tInode_), .cs (.sl tInode_)]
def FS : FS := mkFS [.sh, .sh] pts (fun x => laws_eqInodeS x.1 x.2.1) fun t => ⟨[.cs .bool t], []⟩
theorem ok : FsOk PR 32 FS :=
  fn_ok tbok hmix Proofs.Try.f32 h0 (.R (.R (.L (.R (.one (.fr 0)))))) (G := G) Gok (L := mkL [(0, laws_eqInodeS_l0.fr)]) (l := [(0, .loop laws_eqInodeS_l0.c)]) ⟨Lam.cons laws_eqInodeS_l0.ok, trivial⟩
    (fun x => by simp only [laws_eqInodeS, mC, mB, mS, mO, mN]; kernel_rfl)
end laws_eqInodeS
def laws_eqByteS_l0.B (a : List Int) (b : List Int) (i_ : Int) : Option ((Int) ⊕ (((Bool) ⊕ (Unit)))) :=
  cond (decide (i_ < (a.length : Int))) (cond (inB i_ a.length) (cond (inB i_ b.length) (cond ((a.getD i_.toNat 0) != (b.getD i_.toNat 0)) (some (.inr (.inl false))) (some (.inl (w64 (i_ + 1))))) (none)) (none)) (some (.inr (.inr ())))
def laws_eqByteS_l0 (a : List Int) (b : List Int) : (Int) → Option (((Bool) ⊕ (Unit))) :=
  loopL fun s => laws_eqByteS_l0.B a b s
def laws_eqByteS (a : List Int) (b : List Int) : Option (Bool) :=
  cond ((a.length : Int) != (b.length : Int)) (some false) ((laws_eqByteS_l0 a b 0).bind fun o => sel o (fun b2 => some b2) (fun c => some true))
namespace laws_eqByteS_l0
def c := codeAt (bodyOf Proofs.Try.f56) [1, 1, 0, 1, 0, 0]
def sp : SP := ⟨[(0, .cs SB), (1, .cs SB), (5, .cs I64)], []⟩
def out (a : List Int) (b : List Int) : FOut (((Bool) ⊕ (Unit))) := fun o _ k => sel o (fun b => k (.rt) ⟨[(4, .cs .bool b)], []⟩) (fun c => k (.ex 0) ⟨[], []⟩)
def fr := lfrag sp (fun x => laws_eqByteS_l0 x.1.1 x.1.2.1 x.1.2.2.1) fun x => out x.1.1 x.1.2.1
theorem ok : CodeOk PR 26 2 (.loop c) fr :=
  lp_ok tbok hmix h0 .no (G := (mkG [])) .nil (L := mkL []) (l := []) hT [0, 1, 5] [] [(0, ([], []))] ([4], []) (fun x s => B x.1.1 x.1.2.1 s) (fun x s => ⟨[(0, .cs SB x.1.1), (1, .cs SB x.1.2.1), (5, .cs I64 s)], []⟩) (fun x => x.1.2.2.1)
    (fun x s => by simp only [B, mC, mB, mS, mO, mN]; kernel_rfl)
end laws_eqByteS_l0
namespace laws_eqByteS
def pts : List PT := [.cs SB, .cs SB]
def FS : FS := mkFS [.sh, .sh] pts (fun x => laws_eqByteS x.1 x.2.1) fun t => ⟨[.cs .bool t], []⟩
theorem ok : FsOk PR 56 FS :=
  fn_ok tbok hmix Proofs.Try.f56 h0 (.R (.R (.L (.R (.one (.fr 0)))))) (G := (mkG [])) .nil (L := mkL [(0, laws_eqByteS_l0.fr)]) (l := [(0, .loop laws_eqByteS_l0.c)]) ⟨Lam.cons laws_eqByteS_l0.ok, trivial⟩
    (fun x => by simp only [laws_eqByteS, mC, mB, mS, mO, mN]; kernel_rfl)
end laws_eqByteS
def laws_eqByteSS_l0.B (a : List (List Int)) (b : List (List Int)) (i_ : Int) : Option ((Int) ⊕ (((Bool) ⊕ (Unit)))) :=
  cond (decide (i_ < (a.length : Int))) (cond (inB i_ a.length) (cond (inB i_ b.length) ((laws_eqByteS (a.getD i_.toNat []) (b.getD i_.toNat [])).bind fun r => cond (!r) (some (.inr (.inl false))) (some (.inl (w64 (i_ + 1))))) (none)) (none)) (some (.inr (.inr ())))
def laws_eqByteSS_l0 (a : List (List Int)) (b : List (List Int)) : (Int) → Option (((Bool) ⊕ (Unit))) :=
  loopL fun s => laws_eqByteSS_l0.B a b s
def laws_eqByteSS (a : List (List Int)) (b : List (List Int)) : Option (Bool) :=
  cond ((a.length : Int) != (b.length : Int)) (some false) ((laws_eqByteSS_l0 a b 0).bind fun o => sel o (fun b2 => some b2) (fun c => some true))
namespace laws_eqByteSS
def G : Gam := mkG [(56, laws_eqByteS.FS)]
theorem Gok : GOk PR G := .cons laws_eqByteS.ok .nil
end laws_eqByteSS
namespace laws_eqByteSS_l0
def c := codeAt (bodyOf Proofs.Try.f33) [1, 1, 0, 1, 0, 0]
def sp : SP := ⟨[(0, .cs (.sl SB)), (1, .cs (.sl SB)), (5, .cs I64)], []⟩
def out (a : List (List Int)) (b : List (List Int)) : FOut (((Bool) ⊕ (Unit))) := fun o _ k => sel o (fun b => k (.rt) ⟨[(4, .cs .bool b)], []⟩) (fun c => k (.ex 0) ⟨[], []⟩)
def fr := lfrag sp (fun x => laws_eqByteSS_l0 x.1.1 x.1.2.1 x.1.2.2.1) fun x => out x.1.1 x.1.2.1
theorem ok : CodeOk PR 27 2 (.loop c) fr :=
  lp_ok tbok hmix h0 .no (G := laws_eqByteSS.G) laws_eqByteSS.Gok (L := mkL []) (l := []) hT [0, 1, 5] [] [(0, ([], []))] ([4], []) (fun x s => B x.1.1 x.1.2.1 s) (fun x s => ⟨[(0, .cs (.sl SB) x.1.1), (1, .cs (.sl SB) x.1.2.1), (5, .cs I64 s)], []⟩) (fun x => x.1.2.2.1)
    (fun x s => by simp only [B, mC, mB, mS, mO, mN]; kernel_rfl)
end laws_eqByteSS_l0
namespace laws_eqByteSS
def pts : List PT := [.cs (.sl SB), .cs (.sl SB)]
def FS : FS := mkFS [.sh, .sh] pts (fun x => laws_eqByteSS x.1 x.2.1) fun t => ⟨[.cs .bool t], []⟩
theorem ok : FsOk PR 33 FS :=
  fn_ok tbok hmix Proofs.Try.f33 h0 (.R (.R (.L (.R (.one (.fr 0)))))) (G := G) Gok (L := mkL [(0, laws_eqByteSS_l0.fr)]) (l := [(0, .loop laws_eqByteSS_l0.c)]) ⟨Lam.cons laws_eqByteSS_l0.ok, trivial⟩
    (fun x => by simp only [laws_eqByteSS, mC, mB, mS, mO, mN]; kernel_rfl)
end laws_eqByteSS
def laws_eqFs (a : Fs_) (b : Fs_) : Option (Bool) :=
  (laws_eqInodeS a.1 b.1).bind fun r => cond (!r) (some false) ((laws_eqByteSS a.2.1 b.2.1).bind fun r2 => cond (!r2) (some false) (some true))
namespace laws_eqFs
def G : Gam := mkG [(32, laws_eqInodeS.FS), (33, laws_eqByteSS.FS)]
def pts : List PT := [.cs tFs_, .cs tFs_]
def FS : FS := mkFS [.sh, .sh] pts (fun x => laws_eqFs x.1 x.2.1) fun t => ⟨[.cs .bool t], []⟩
theorem ok : FsOk PR 11 FS :=
  fn_ok tbok hmix Proofs.Try.f11 ⟨[2, 3], [], [], 0⟩ .no (G := G) (show GOk PR G from .cons laws_eqInodeS.ok (.cons laws_eqByteSS.ok .nil)) (L := mkL []) (l := []) hT
    (fun x => by simp only [laws_eqFs, mC, mB, mS, mO, mN]; kernel_rfl)
end laws_eqFs
def laws_FnExactSizeOf (aF : Fs_) : Option (Bool) :=
  (laws_szFs aF 1048576).bind fun r => cond (decide (r < 0)) (some true) ((laws_toFs aF).bind fun r2 => (spec_SizeOf (r2.1, r2.2.1, r2.2.2)).bind fun r3 => (laws_toFs aF).bind fun r4 => (impl_SizeOf (r4.1, r4.2.1, r4.2.2)).bind fun r5 => (laws_eqIntResult r5 r3).bind fun r6 => cond (!r6) (some false) ((laws_toFs aF).bind fun r7 => (laws_eqFs (r4.1, r4.2.1, r4.2.2) (r7.1, r7.2.1, r7.2.2)).bind fun r8 => cond (!r8) (some false) (some true)))
namespace laws_FnExactSizeOf
def G : Gam := mkG [(6, laws_szFs.FS), (8, laws_toFs.FS), (20, spec_SizeOf.FS), (21, impl_SizeOf.FS), (22, laws_eqIntResult.FS), (11, laws_eqFs.FS)]
def pts : List PT := [.cs tFs_]
def FS : FS := mkFS [.sh] pts (fun x => laws_FnExactSizeOf x.1) fun t => ⟨[.cs .bool t], []⟩
theorem ok : FsOk PR 5 FS :=
  fn_ok tbok hmix Proofs.Try.f5 ⟨[1], [], [], 0⟩ .no (G := G) (show GOk PR G from .cons laws_szFs.ok (.cons laws_toFs.ok (.cons spec_SizeOf.ok (.cons impl_SizeOf.ok (.cons laws_eqIntResult.ok (.cons laws_eqFs.ok .nil)))))) (L := mkL []) (l := []) hT
    (fun x => by simp only [laws_FnExactSizeOf, mC, mB, mS, mO, mN]; kernel_rfl)
end laws_FnExactSizeOf
end Mf
