/- The functions that FnExactDataPuts reaches: what each computes, and that it does. -/
import Derived.Test.YtgdajbngfigjdaaGreatMf7
import Derived.Test.YtgdajbngfigjdaaGreatProg
import Derived.KernelRfl
import Derived.Shelf.SortM.Plain
import Derived.Shelf.SortM.SortNone
import Derived.Shelf.SlGeneric
import Derived.Ground.SlgmProg
namespace Go.Proofs
open Go.Shelf
def Tryz.sortLay_ren : Go.Shelf.Ren := ⟨fun | 5 => 97 | 8 => 139 | 7 => 138 | 19 => 167 | 20 => 168 | 10 => 158 | 11 => 159 | 12 => 160 | 13 => 161 | 14 => 162 | 15 => 163 | 16 => 164 | 17 => 165 | 18 => 166 | 30 => 176 | 31 => 177 | 32 => 178 | 33 => 179 | 34 => 180 | 35 => 181 | 40 => 185 | n => n, fun | 23 => 26 | 25 => 2 | 3 => 3 | 32 => 159 | 22 => 26 | 0 => 0 | 44 => 183 | 46 => 185 | 4 => 4 | 36 => 175 | 35 => 174 | 41 => 180 | 5 => 5 | 9 => 9 | 53 => 189 | 57 => 193 | 63 => 195 | 64 => 196 | n => n, fun | n => n⟩
theorem Tryz.sortLay : Go.Proofs.SlLaysM.n5 Tryz.prog Tryz.sortLay_ren := {
  mixed := by kernel_rfl
  f5 := ⟨Tryz.f97.name, by decide, Tryz.func97.trans (congrArg some (by kernel_rfl))⟩
  f7 := ⟨Tryz.f138.name, by decide, Tryz.func138.trans (congrArg some (by kernel_rfl))⟩
  f8 := Tryz.func139.trans (congrArg some (by kernel_rfl))
  f10 := ⟨Tryz.f158.name, by decide, Tryz.func158.trans (congrArg some (by kernel_rfl))⟩
  f11 := ⟨Tryz.f159.name, by decide, Tryz.func159.trans (congrArg some (by kernel_rfl))⟩
  f12 := ⟨Tryz.f160.name, by decide, Tryz.func160.trans (congrArg some (by kernel_rfl))⟩
  f13 := ⟨Tryz.f161.name, by decide, Tryz.func161.trans (congrArg some (by kernel_rfl))⟩
  f14 := ⟨Tryz.f162.name, by decide, Tryz.func162.trans (congrArg some (by kernel_rfl))⟩
  f15 := ⟨Tryz.f163.name, by decide, Tryz.func163.trans (congrArg some (by kernel_rfl))⟩
  f16 := ⟨Tryz.f164.name, by decide, Tryz.func164.trans (congrArg some (by kernel_rfl))⟩
  f17 := ⟨Tryz.f165.name, by decide, Tryz.func165.trans (congrArg some (by kernel_rfl))⟩
  f18 := ⟨Tryz.f166.name, by decide, Tryz.func166.trans (congrArg some (by kernel_rfl))⟩
  f19 := Tryz.func167.trans (congrArg some (by kernel_rfl))
  f20 := Tryz.func168.trans (congrArg some (by kernel_rfl))
  f30 := ⟨Tryz.f176.name, by decide, Tryz.func176.trans (congrArg some (by kernel_rfl))⟩
  f31 := Tryz.func177.trans (congrArg some (by kernel_rfl))
  f32 := Tryz.func178.trans (congrArg some (by kernel_rfl))
  f33 := ⟨Tryz.f179.name, by decide, Tryz.func179.trans (congrArg some (by kernel_rfl))⟩
  f34 := ⟨Tryz.f180.name, by decide, Tryz.func180.trans (congrArg some (by kernel_rfl))⟩
  f35 := ⟨Tryz.f181.name, by decide, Tryz.func181.trans (congrArg some (by kernel_rfl))⟩
  f40 := ⟨Tryz.f185.name, by decide, Tryz.func185.trans (congrArg some (by kernel_rfl))⟩
  t0 := Tryz.underlying0
  a0 := Tryz.isAgg0
  z0 := Tryz.sizeOf0
  v0 := Tryz.zeroValue0
  t3 := Tryz.underlying3
  a3 := Tryz.isAgg3
  z3 := Tryz.sizeOf3
  v3 := Tryz.zeroValue3
  t4 := Tryz.underlying4
  a4 := Tryz.isAgg4
  z4 := Tryz.sizeOf4
  v4 := Tryz.zeroValue4
  t5 := Tryz.underlying5
  a5 := Tryz.isAgg5
  z5 := Tryz.sizeOf5
  v5 := Tryz.zeroValue5
  t9 := Tryz.underlying9
  a9 := Tryz.isAgg9
  z9 := Tryz.sizeOf9
  v9 := Tryz.zeroValue9
  t22 := Tryz.underlying26
  a22 := Tryz.isAgg26
  z22 := Tryz.sizeOf26
  v22 := Tryz.zeroValue26
  t23 := Tryz.underlying26
  a23 := Tryz.isAgg26
  z23 := Tryz.sizeOf26
  v23 := Tryz.zeroValue26
  t25 := Tryz.underlying2
  a25 := Tryz.isAgg2
  z25 := Tryz.sizeOf2
  v25 := Tryz.zeroValue2
  t32 := Tryz.underlying159
  a32 := Tryz.isAgg159
  z32 := Tryz.sizeOf159
  v32 := Tryz.zeroValue159
  t35 := Tryz.underlying174
  a35 := Tryz.isAgg174
  z35 := Tryz.sizeOf174
  v35 := Tryz.zeroValue174
  t36 := Tryz.underlying175
  a36 := Tryz.isAgg175
  z36 := Tryz.sizeOf175
  v36 := Tryz.zeroValue175
  t41 := Tryz.underlying180
  a41 := Tryz.isAgg180
  z41 := Tryz.sizeOf180
  v41 := Tryz.zeroValue180
  t44 := Tryz.underlying183
  a44 := Tryz.isAgg183
  z44 := Tryz.sizeOf183
  v44 := Tryz.zeroValue183
  t46 := Tryz.underlying185
  a46 := Tryz.isAgg185
  z46 := Tryz.sizeOf185
  v46 := Tryz.zeroValue185
  t53 := Tryz.underlying189
  a53 := Tryz.isAgg189
  z53 := Tryz.sizeOf189
  v53 := Tryz.zeroValue189
  t57 := Tryz.underlying193
  a57 := Tryz.isAgg193
  z57 := Tryz.sizeOf193
  v57 := Tryz.zeroValue193
  t63 := Tryz.underlying195
  a63 := Tryz.isAgg195
  z63 := Tryz.sizeOf195
  v63 := Tryz.zeroValue195
  t64 := Tryz.underlying196
  a64 := Tryz.isAgg196
  z64 := Tryz.sizeOf196
  v64 := Tryz.zeroValue196 }
end Go.Proofs
noncomputable section
namespace Mf
open Go
set_option linter.unusedVariables false
set_option linter.unusedSimpArgs false
set_option maxRecDepth 100000
abbrev tPut_ : Ty := (.pair (.int .i64) (.pair (.sl (.int .i64)) .unit))
abbrev Put_ : Type := Int × (List Int) × Unit
def zPut_ : Put_ := (0, [], ())
abbrev tDisk_ : Ty := (.pair (.sl (.sl (.int .i64))) (.pair (.sl tPut_) .unit))
abbrev Disk_ : Type := (List (List Int)) × (List Put_) × Unit
def zDisk_ : Disk_ := ([], [], ())
abbrev tEntry_ : Ty := (.pair .str (.pair (.int .i64) .unit))
abbrev Entry_ : Type := (List UInt8) × Int × Unit
def zEntry_ : Entry_ := ([], 0, ())
abbrev tInode_ : Ty := (.pair (.int .i64) (.pair (.int .i64) (.pair (.int .i64) (.pair (.sl (.int .i64)) (.pair (.sl tEntry_) .unit)))))
abbrev Inode_ : Type := Int × Int × Int × (List Int) × (List Entry_) × Unit
def zInode_ : Inode_ := (0, 0, 0, [], [], ())
abbrev tFs_ : Ty := (.pair (.sl tInode_) (.pair (.sl (.sl (.int .u8))) .unit))
abbrev Fs_ : Type := (List Inode_) × (List (List Int)) × Unit
def zFs_ : Fs_ := ([], [], ())
abbrev tFsResult_ : Ty := (.pair (.int .i64) (.pair tFs_ .unit))
abbrev FsResult_ : Type := Int × Fs_ × Unit
def zFsResult_ : FsResult_ := (0, ([], [], ()), ())
abbrev tIntResult_ : Ty := (.pair (.int .i64) (.pair (.int .i64) .unit))
abbrev IntResult_ : Type := Int × Int × Unit
def zIntResult_ : IntResult_ := (0, 0, ())
abbrev tPutsResult_ : Ty := (.pair (.int .i64) (.pair (.sl tPut_) .unit))
abbrev PutsResult_ : Type := Int × (List Put_) × Unit
def zPutsResult_ : PutsResult_ := (0, [], ())
abbrev tBoundsError_ : Ty := (.pair (.int .i64) (.pair (.int .i64) (.pair .bool (.pair (.int .u8) .unit))))
abbrev BoundsError_ : Type := Int × Int × Bool × Int × Unit
def zBoundsError_ : BoundsError_ := (0, 0, false, 0, ())
abbrev tErrorAddressString_ : Ty := (.pair .str (.pair (.int .u64) .unit))
abbrev ErrorAddressString_ : Type := (List UInt8) × Int × Unit
def zErrorAddressString_ : ErrorAddressString_ := ([], 0, ())
abbrev PR : Program := Go.Proofs.Tryz.prog
def tb : Tb := [(2, ⟨.int .i64, (.int .i64), 8⟩), (3, ⟨.int .i64, (.int .i64), 8⟩), (4, ⟨.bool, .bool, 1⟩), (5, ⟨.int .u8, (.int .u8), 1⟩), (6, ⟨.int .u8, (.int .u8), 1⟩), (7, ⟨.st [0, 1, 2, 3], tBoundsError_, 24⟩), (8, ⟨.st [0, 1, 2, 3], tBoundsError_, 24⟩), (9, ⟨.str, .str, 16⟩), (10, ⟨.str, .str, 16⟩), (11, ⟨.str, .str, 16⟩), (12, ⟨.int .u64, (.int .u64), 8⟩), (13, ⟨.st [0, 1], tErrorAddressString_, 24⟩), (14, ⟨.st [0, 1], tErrorAddressString_, 24⟩), (21, ⟨.int .i32, (.int .i32), 4⟩), (22, ⟨.sl 111, (.sl tInode_), 24⟩), (23, ⟨.sl 113, (.sl (.sl (.int .u8))), 24⟩), (24, ⟨.st [0, 1], tFs_, 48⟩), (25, ⟨.st [0, 1], tFs_, 48⟩), (26, ⟨.sl 2, (.sl (.int .i64)), 24⟩), (28, ⟨.st [0, 1], tIntResult_, 16⟩), (29, ⟨.st [0, 1], tIntResult_, 16⟩), (31, ⟨.sl 96, (.sl tInode_), 24⟩), (32, ⟨.st [0, 1], tFs_, 48⟩), (33, ⟨.st [0, 1], tFs_, 48⟩), (40, ⟨.st [0, 1], tPut_, 32⟩), (41, ⟨.st [0, 1], tPut_, 32⟩), (47, ⟨.sl 127, (.sl tPut_), 24⟩), (48, ⟨.st [0, 1], tPutsResult_, 32⟩), (49, ⟨.st [0, 1], tPutsResult_, 32⟩), (53, ⟨.sl 26, (.sl (.sl (.int .i64))), 24⟩), (54, ⟨.sl 132, (.sl tPut_), 24⟩), (55, ⟨.st [0, 1], tDisk_, 48⟩), (56, ⟨.st [0, 1], tDisk_, 48⟩), (58, ⟨.st [0, 1], tFsResult_, 56⟩), (59, ⟨.st [0, 1], tFsResult_, 56⟩), (61, ⟨.st [0, 1], tDisk_, 48⟩), (62, ⟨.st [0, 1], tDisk_, 48⟩), (94, ⟨.sl 136, (.sl tEntry_), 24⟩), (95, ⟨.st [0, 1, 2, 3, 4], tInode_, 72⟩), (96, ⟨.st [0, 1, 2, 3, 4], tInode_, 72⟩), (109, ⟨.sl 168, (.sl tEntry_), 24⟩), (110, ⟨.st [0, 1, 2, 3, 4], tInode_, 72⟩), (111, ⟨.st [0, 1, 2, 3, 4], tInode_, 72⟩), (113, ⟨.sl 5, (.sl (.int .u8)), 24⟩), (126, ⟨.st [0, 1], tPut_, 32⟩), (127, ⟨.st [0, 1], tPut_, 32⟩), (132, ⟨.st [0, 1], tPut_, 32⟩), (135, ⟨.st [0, 1], tEntry_, 24⟩), (136, ⟨.st [0, 1], tEntry_, 24⟩), (145, ⟨.arr 20 2, (.arr 20 (.int .i64)), 160⟩), (159, ⟨.int .u64, (.int .u64), 8⟩), (168, ⟨.st [0, 1], tEntry_, 24⟩), (169, ⟨.sl 4, (.sl .bool), 24⟩), (174, ⟨.int .i64, (.int .i64), 8⟩), (183, ⟨.int .u32, (.int .u32), 4⟩), (185, ⟨.int .u64, (.int .u64), 8⟩), (189, ⟨.int .u64, (.int .u64), 8⟩), (205, ⟨.int .u8, (.int .u8), 1⟩), (206, ⟨.int .u8, (.int .u8), 1⟩), (209, ⟨.int .i32, (.int .i32), 4⟩), (210, ⟨.int .i32, (.int .i32), 4⟩)]
theorem tbok : TbOk Go.Proofs.Tryz.prog tb := tbB_ok (by kernel_rfl)
theorem hmix : Go.Proofs.Tryz.prog.follows .mixedOrders = true := by kernel_rfl
def laws_szInt64S (a : List Int) (left : Int) : Option (Int) :=
  cond (decide ((w64 (left - (a.length : Int))) < 0)) (some (-1)) (some (w64 (left - (a.length : Int))))
namespace laws_szInt64S
def pts : List PT := [.cs SI, .cs I64]
def FS : FS := mkFS [.sh, .sh] pts (fun x => laws_szInt64S x.1 x.2.1) fun t => ⟨[.cs I64 t], []⟩
theorem ok : FsOk PR 106 FS :=
  fn_ok tbok hmix Proofs.Tryz.f106 h0 .no (G := (mkG [])) .nil (L := mkL []) (l := []) hT
    (fun x => by simp only [laws_szInt64S, mC, mB, mS, mO, mN]; kernel_rfl)
end laws_szInt64S
def laws_szEntry (a : Entry_) (left : Int) : Option (Int) :=
  cond (decide ((w64 (left - (a.1.length : Int))) < 0)) (some (-1)) (some (w64 (left - (a.1.length : Int))))
namespace laws_szEntry
def pts : List PT := [.cs tEntry_, .cs I64]
def FS : FS := mkFS [.sh, .sh] pts (fun x => laws_szEntry x.1 x.2.1) fun t => ⟨[.cs I64 t], []⟩
theorem ok : FsOk PR 153 FS :=
  fn_ok tbok hmix Proofs.Tryz.f153 ⟨[2], [], [], 0⟩ .no (G := (mkG [])) .nil (L := mkL []) (l := []) hT
    (fun x => by simp only [laws_szEntry, mC, mB, mS, mO, mN]; kernel_rfl)
end laws_szEntry
def laws_szEntryS_l0.B (a : List Entry_) (left_ : Int) (i_ : Int) : Option ((Int × Int) ⊕ (((Int) ⊕ (Int)))) :=
  cond (decide (i_ < (a.length : Int))) (cond (inB i_ a.length) ((laws_szEntry (a.getD i_.toNat zEntry_) left_).bind fun r => cond (decide (r < 0)) (some (.inr (.inl (-1)))) (some (.inl (r, w64 (i_ + 1))))) (none)) (some (.inr (.inr left_)))
def laws_szEntryS_l0 (a : List Entry_) : (Int × Int) → Option (((Int) ⊕ (Int))) :=
  loopL fun s => laws_szEntryS_l0.B a s.1 s.2
def laws_szEntryS (a : List Entry_) (left : Int) : Option (Int) :=
  cond (decide ((w64 (left - (a.length : Int))) < 0)) (some (-1)) ((laws_szEntryS_l0 a (w64 (left - (a.length : Int)), 0)).bind fun o => sel o (fun b => some b) (fun c => some c))
namespace laws_szEntryS
def G : Gam := mkG [(153, laws_szEntry.FS)]
theorem Gok : GOk PR G := .cons laws_szEntry.ok .nil
end laws_szEntryS
namespace laws_szEntryS_l0
def c := codeAt (bodyOf Proofs.Tryz.f125) [1, 1, 1, 0, 1, 0, 0]
def sp : SP := ⟨[(0, .cs (.sl tEntry_)), (1, .cs I64), (5, .cs I64)], []⟩
def out (a : List Entry_) : FOut (((Int) ⊕ (Int))) := fun o _ k => sel o (fun b => k (.rt) ⟨[(4, .cs I64 b)], []⟩) (fun c => k (.ex 0) ⟨[(1, .cs I64 c)], []⟩)
def fr := lfrag sp (fun x => laws_szEntryS_l0 x.1.1 (x.1.2.1, x.1.2.2.1)) fun x => out x.1.1
theorem ok : CodeOk PR 27 2 (.loop c) fr :=
  lp_ok tbok hmix h0 .no (G := laws_szEntryS.G) laws_szEntryS.Gok (L := mkL []) (l := []) hT [0, 1, 5] [] [(0, ([1], []))] ([4], []) (fun x s => B x.1.1 s.1 s.2) (fun x s => ⟨[(0, .cs (.sl tEntry_) x.1.1), (1, .cs I64 s.1), (5, .cs I64 s.2)], []⟩) (fun x => (x.1.2.1, x.1.2.2.1))
    (fun x s => by simp only [B, mC, mB, mS, mO, mN]; kernel_rfl)
end laws_szEntryS_l0
namespace laws_szEntryS
def pts : List PT := [.cs (.sl tEntry_), .cs I64]
def FS : FS := mkFS [.sh, .sh] pts (fun x => laws_szEntryS x.1 x.2.1) fun t => ⟨[.cs I64 t], []⟩
theorem ok : FsOk PR 125 FS :=
  fn_ok tbok hmix Proofs.Tryz.f125 h0 (.R (.R (.R (.L (.R (.one (.fr 0))))))) (G := G) Gok (L := mkL [(0, laws_szEntryS_l0.fr)]) (l := [(0, .loop laws_szEntryS_l0.c)]) ⟨Lam.cons laws_szEntryS_l0.ok, trivial⟩
    (fun x => by simp only [laws_szEntryS, mC, mB, mS, mO, mN]; kernel_rfl)
end laws_szEntryS
def laws_szInode (a : Inode_) (left : Int) : Option (Int) :=
  (laws_szInt64S a.2.2.2.1 left).bind fun r => cond (decide (r < 0)) (some (-1)) ((laws_szEntryS a.2.2.2.2.1 r).bind fun r2 => cond (decide (r2 < 0)) (some (-1)) (some r2))
namespace laws_szInode
def G : Gam := mkG [(106, laws_szInt64S.FS), (125, laws_szEntryS.FS)]
def pts : List PT := [.cs tInode_, .cs I64]
def FS : FS := mkFS [.sh, .sh] pts (fun x => laws_szInode x.1 x.2.1) fun t => ⟨[.cs I64 t], []⟩
theorem ok : FsOk PR 79 FS :=
  fn_ok tbok hmix Proofs.Tryz.f79 ⟨[2], [], [], 0⟩ .no (G := G) (show GOk PR G from .cons laws_szInt64S.ok (.cons laws_szEntryS.ok .nil)) (L := mkL []) (l := []) hT
    (fun x => by simp only [laws_szInode, mC, mB, mS, mO, mN]; kernel_rfl)
end laws_szInode
def laws_szInodeS_l0.B (a : List Inode_) (left_ : Int) (i_ : Int) : Option ((Int × Int) ⊕ (((Int) ⊕ (Int)))) :=
  cond (decide (i_ < (a.length : Int))) (cond (inB i_ a.length) ((laws_szInode (a.getD i_.toNat zInode_) left_).bind fun r => cond (decide (r < 0)) (some (.inr (.inl (-1)))) (some (.inl (r, w64 (i_ + 1))))) (none)) (some (.inr (.inr left_)))
def laws_szInodeS_l0 (a : List Inode_) : (Int × Int) → Option (((Int) ⊕ (Int))) :=
  loopL fun s => laws_szInodeS_l0.B a s.1 s.2
def laws_szInodeS (a : List Inode_) (left : Int) : Option (Int) :=
  cond (decide ((w64 (left - (a.length : Int))) < 0)) (some (-1)) ((laws_szInodeS_l0 a (w64 (left - (a.length : Int)), 0)).bind fun o => sel o (fun b => some b) (fun c => some c))
namespace laws_szInodeS
def G : Gam := mkG [(79, laws_szInode.FS)]
theorem Gok : GOk PR G := .cons laws_szInode.ok .nil
end laws_szInodeS
namespace laws_szInodeS_l0
def c := codeAt (bodyOf Proofs.Tryz.f38) [1, 1, 1, 0, 1, 0, 0]
def sp : SP := ⟨[(0, .cs (.sl tInode_)), (1, .cs I64), (5, .cs I64)], []⟩
def out (a : List Inode_) : FOut (((Int) ⊕ (Int))) := fun o _ k => sel o (fun b => k (.rt) ⟨[(4, .cs I64 b)], []⟩) (fun c => k (.ex 0) ⟨[(1, .cs I64 c)], []⟩)
def fr := lfrag sp (fun x => laws_szInodeS_l0 x.1.1 (x.1.2.1, x.1.2.2.1)) fun x => out x.1.1
theorem ok : CodeOk PR 27 2 (.loop c) fr :=
  lp_ok tbok hmix h0 .no (G := laws_szInodeS.G) laws_szInodeS.Gok (L := mkL []) (l := []) hT [0, 1, 5] [] [(0, ([1], []))] ([4], []) (fun x s => B x.1.1 s.1 s.2) (fun x s => ⟨[(0, .cs (.sl tInode_) x.1.1), (1, .cs I64 s.1), (5, .cs I64 s.2)], []⟩) (fun x => (x.1.2.1, x.1.2.2.1))
    (fun x s => by simp only [B, mC, mB, mS, mO, mN]; kernel_rfl)
end laws_szInodeS_l0
namespace laws_szInodeS
def pts : List PT := [.cs (.sl tInode_), .cs I64]
def FS : FS := mkFS [.sh, .sh] pts (fun x => laws_szInodeS x.1 x.2.1) fun t => ⟨[.cs I64 t], []⟩
theorem ok : FsOk PR 38 FS :=
  fn_ok tbok hmix Proofs.Tryz.f38 h0 (.R (.R (.R (.L (.R (.one (.fr 0))))))) (G := G) Gok (L := mkL [(0, laws_szInodeS_l0.fr)]) (l := [(0, .loop laws_szInodeS_l0.c)]) ⟨Lam.cons laws_szInodeS_l0.ok, trivial⟩
    (fun x => by simp only [laws_szInodeS, mC, mB, mS, mO, mN]; kernel_rfl)
end laws_szInodeS
def laws_szByteS (a : List Int) (left : Int) : Option (Int) :=
  cond (decide ((w64 (left - (a.length : Int))) < 0)) (some (-1)) (some (w64 (left - (a.length : Int))))
namespace laws_szByteS
def pts : List PT := [.cs SB, .cs I64]
def FS : FS := mkFS [.sh, .sh] pts (fun x => laws_szByteS x.1 x.2.1) fun t => ⟨[.cs I64 t], []⟩
theorem ok : FsOk PR 80 FS :=
  fn_ok tbok hmix Proofs.Tryz.f80 h0 .no (G := (mkG [])) .nil (L := mkL []) (l := []) hT
    (fun x => by simp only [laws_szByteS, mC, mB, mS, mO, mN]; kernel_rfl)
end laws_szByteS
def laws_szByteSS_l0.B (a : List (List Int)) (left_ : Int) (i_ : Int) : Option ((Int × Int) ⊕ (((Int) ⊕ (Int)))) :=
  cond (decide (i_ < (a.length : Int))) (cond (inB i_ a.length) ((laws_szByteS (a.getD i_.toNat []) left_).bind fun r => cond (decide (r < 0)) (some (.inr (.inl (-1)))) (some (.inl (r, w64 (i_ + 1))))) (none)) (some (.inr (.inr left_)))
def laws_szByteSS_l0 (a : List (List Int)) : (Int × Int) → Option (((Int) ⊕ (Int))) :=
  loopL fun s => laws_szByteSS_l0.B a s.1 s.2
def laws_szByteSS (a : List (List Int)) (left : Int) : Option (Int) :=
  cond (decide ((w64 (left - (a.length : Int))) < 0)) (some (-1)) ((laws_szByteSS_l0 a (w64 (left - (a.length : Int)), 0)).bind fun o => sel o (fun b => some b) (fun c => some c))
namespace laws_szByteSS
def G : Gam := mkG [(80, laws_szByteS.FS)]
theorem Gok : GOk PR G := .cons laws_szByteS.ok .nil
end laws_szByteSS
namespace laws_szByteSS_l0
def c := codeAt (bodyOf Proofs.Tryz.f39) [1, 1, 1, 0, 1, 0, 0]
def sp : SP := ⟨[(0, .cs (.sl SB)), (1, .cs I64), (5, .cs I64)], []⟩
def out (a : List (List Int)) : FOut (((Int) ⊕ (Int))) := fun o _ k => sel o (fun b => k (.rt) ⟨[(4, .cs I64 b)], []⟩) (fun c => k (.ex 0) ⟨[(1, .cs I64 c)], []⟩)
def fr := lfrag sp (fun x => laws_szByteSS_l0 x.1.1 (x.1.2.1, x.1.2.2.1)) fun x => out x.1.1
theorem ok : CodeOk PR 27 2 (.loop c) fr :=
  lp_ok tbok hmix h0 .no (G := laws_szByteSS.G) laws_szByteSS.Gok (L := mkL []) (l := []) hT [0, 1, 5] [] [(0, ([1], []))] ([4], []) (fun x s => B x.1.1 s.1 s.2) (fun x s => ⟨[(0, .cs (.sl SB) x.1.1), (1, .cs I64 s.1), (5, .cs I64 s.2)], []⟩) (fun x => (x.1.2.1, x.1.2.2.1))
    (fun x s => by simp only [B, mC, mB, mS, mO, mN]; kernel_rfl)
end laws_szByteSS_l0
namespace laws_szByteSS
def pts : List PT := [.cs (.sl SB), .cs I64]
def FS : FS := mkFS [.sh, .sh] pts (fun x => laws_szByteSS x.1 x.2.1) fun t => ⟨[.cs I64 t], []⟩
theorem ok : FsOk PR 39 FS :=
  fn_ok tbok hmix Proofs.Tryz.f39 h0 (.R (.R (.R (.L (.R (.one (.fr 0))))))) (G := G) Gok (L := mkL [(0, laws_szByteSS_l0.fr)]) (l := [(0, .loop laws_szByteSS_l0.c)]) ⟨Lam.cons laws_szByteSS_l0.ok, trivial⟩
    (fun x => by simp only [laws_szByteSS, mC, mB, mS, mO, mN]; kernel_rfl)
end laws_szByteSS
def laws_szFs (a : Fs_) (left : Int) : Option (Int) :=
  (laws_szInodeS a.1 left).bind fun r => cond (decide (r < 0)) (some (-1)) ((laws_szByteSS a.2.1 r).bind fun r2 => cond (decide (r2 < 0)) (some (-1)) (some r2))
namespace laws_szFs
def G : Gam := mkG [(38, laws_szInodeS.FS), (39, laws_szByteSS.FS)]
def pts : List PT := [.cs tFs_, .cs I64]
def FS : FS := mkFS [.sh, .sh] pts (fun x => laws_szFs x.1 x.2.1) fun t => ⟨[.cs I64 t], []⟩
theorem ok : FsOk PR 8 FS :=
  fn_ok tbok hmix Proofs.Tryz.f8 ⟨[2], [], [], 0⟩ .no (G := G) (show GOk PR G from .cons laws_szInodeS.ok (.cons laws_szByteSS.ok .nil)) (L := mkL []) (l := []) hT
    (fun x => by simp only [laws_szFs, mC, mB, mS, mO, mN]; kernel_rfl)
end laws_szFs
def laws_toInt64S_l0.B (a : List Int) (i_ : Int) (out_ : List Int) : Option ((Int × List Int) ⊕ (List Int)) :=
  cond (decide (i_ < (a.length : Int))) (cond (inB i_ a.length) (cond (inB i_ out_.length) (some (.inl (w64 (i_ + 1), out_.set i_.toNat (a.getD i_.toNat 0)))) (none)) (none)) (some (.inr out_))
def laws_toInt64S_l0 (a : List Int) : (Int × List Int) → Option (List Int) :=
  loopL fun s => laws_toInt64S_l0.B a s.1 s.2
def laws_toInt64S (a : List Int) : Option (List Int) :=
  cond (decide ((0 : Int) ≤ (a.length : Int)) && (decide ((a.length : Int) ≤ (a.length : Int)) && decide ((a.length : Int) ≤ 2147483648))) ((laws_toInt64S_l0 a (0, List.replicate (a.length : Int).toNat 0)).bind fun o => some o) (none)
namespace laws_toInt64S_l0
def c := codeAt (bodyOf Proofs.Tryz.f11) [1, 1, 0, 1, 0, 0]
def sp : SP := ⟨[(0, .cs SI), (3, .seg 3 []), (4, .cs I64)], [(3, .reg, .cd SI)]⟩
def out (a : List Int) : FOut (List Int) := fun b _ k => k (.ex 0) ⟨[(3, .seg 3 [])], [sr 3 (.cd SI b)]⟩
def fr := lfrag sp (fun x => laws_toInt64S_l0 x.1.1 (x.1.2.2.1, x.2.1)) fun x => out x.1.1
theorem ok : CodeOk PR 22 1 (.loop c) fr :=
  lp_ok tbok hmix h0 .no (G := (mkG [])) .nil (L := mkL []) (l := []) hT [0, 3, 4] [3] [(0, ([3], [3]))] ([], []) (fun x s => B x.1.1 s.1 s.2) (fun x s => ⟨[(0, .cs SI x.1.1), (3, .seg 3 []), (4, .cs I64 s.1)], [sr 3 (.cd SI s.2)]⟩) (fun x => (x.1.2.2.1, x.2.1))
    (fun x s => by simp only [B, mC, mB, mS, mO, mN]; kernel_rfl)
end laws_toInt64S_l0
namespace laws_toInt64S
def pts : List PT := [.cs SI]
def FS : FS := mkFS [.sh] pts (fun x => laws_toInt64S x.1) fun t => ⟨[.cd SI t], []⟩
theorem ok : FsOk PR 11 FS :=
  fn_ok tbok hmix Proofs.Tryz.f11 h0 (.R (.R (.L (.R (.one (.fr 0)))))) (G := (mkG [])) .nil (L := mkL [(0, laws_toInt64S_l0.fr)]) (l := [(0, .loop laws_toInt64S_l0.c)]) ⟨Lam.cons laws_toInt64S_l0.ok, trivial⟩
    (fun x => by simp only [laws_toInt64S, mC, mB, mS, mO, mN]; kernel_rfl)
end laws_toInt64S
def laws_toEntry (a : Entry_) : Option (Entry_) :=
  some (a.1, a.2.1, ())
namespace laws_toEntry
def pts : List PT := [.cs tEntry_]
def FS : FS := mkFS [.sh] pts (fun x => laws_toEntry x.1) fun t => ⟨[.cs tEntry_ t], []⟩
theorem ok : FsOk PR 154 FS :=
  fn_ok tbok hmix Proofs.Tryz.f154 ⟨[1], [], [], 0⟩ .no (G := (mkG [])) .nil (L := mkL []) (l := []) hT
    (fun x => by simp only [laws_toEntry, mC, mB, mS, mO, mN]; kernel_rfl)
end laws_toEntry
def laws_toEntryS_l0.B (a : List Entry_) (i_ : Int) (out_ : List Entry_) : Option ((Int × List Entry_) ⊕ (List Entry_)) :=
  cond (decide (i_ < (a.length : Int))) (cond (inB i_ a.length) ((laws_toEntry (a.getD i_.toNat zEntry_)).bind fun r => cond (inB i_ out_.length) (some (.inl (w64 (i_ + 1), out_.set i_.toNat r))) (none)) (none)) (some (.inr out_))
def laws_toEntryS_l0 (a : List Entry_) : (Int × List Entry_) → Option (List Entry_) :=
  loopL fun s => laws_toEntryS_l0.B a s.1 s.2
def laws_toEntryS (a : List Entry_) : Option (List Entry_) :=
  cond (decide ((0 : Int) ≤ (a.length : Int)) && (decide ((a.length : Int) ≤ (a.length : Int)) && decide ((a.length : Int) ≤ 2147483648))) ((laws_toEntryS_l0 a (0, List.replicate (a.length : Int).toNat zEntry_)).bind fun o => some o) (none)
namespace laws_toEntryS
def G : Gam := mkG [(154, laws_toEntry.FS)]
theorem Gok : GOk PR G := .cons laws_toEntry.ok .nil
end laws_toEntryS
namespace laws_toEntryS_l0
def c := codeAt (bodyOf Proofs.Tryz.f128) [1, 1, 0, 1, 0, 0]
def sp : SP := ⟨[(0, .cs (.sl tEntry_)), (3, .seg 3 []), (4, .cs I64)], [(3, .reg, .cd (.sl tEntry_))]⟩
def out (a : List Entry_) : FOut (List Entry_) := fun b _ k => k (.ex 0) ⟨[(3, .seg 3 [])], [sr 3 (.cd (.sl tEntry_) b)]⟩
def fr := lfrag sp (fun x => laws_toEntryS_l0 x.1.1 (x.1.2.2.1, x.2.1)) fun x => out x.1.1
theorem ok : CodeOk PR 23 1 (.loop c) fr :=
  lp_ok tbok hmix h0 .no (G := laws_toEntryS.G) laws_toEntryS.Gok (L := mkL []) (l := []) hT [0, 3, 4] [3] [(0, ([3], [3]))] ([], []) (fun x s => B x.1.1 s.1 s.2) (fun x s => ⟨[(0, .cs (.sl tEntry_) x.1.1), (3, .seg 3 []), (4, .cs I64 s.1)], [sr 3 (.cd (.sl tEntry_) s.2)]⟩) (fun x => (x.1.2.2.1, x.2.1))
    (fun x s => by simp only [B, mC, mB, mS, mO, mN]; kernel_rfl)
end laws_toEntryS_l0
namespace laws_toEntryS
def pts : List PT := [.cs (.sl tEntry_)]
def FS : FS := mkFS [.sh] pts (fun x => laws_toEntryS x.1) fun t => ⟨[.cd (.sl tEntry_) t], []⟩
theorem ok : FsOk PR 128 FS :=
  fn_ok tbok hmix Proofs.Tryz.f128 h0 (.R (.R (.L (.R (.one (.fr 0)))))) (G := G) Gok (L := mkL [(0, laws_toEntryS_l0.fr)]) (l := [(0, .loop laws_toEntryS_l0.c)]) ⟨Lam.cons laws_toEntryS_l0.ok, trivial⟩
    (fun x => by simp only [laws_toEntryS, mC, mB, mS, mO, mN]; kernel_rfl)
end laws_toEntryS
def laws_toInode (a : Inode_) : Option (Inode_) :=
  (laws_toInt64S a.2.2.2.1).bind fun r => (laws_toEntryS a.2.2.2.2.1).bind fun r2 => some (a.1, a.2.1, a.2.2.1, r, r2, ())
namespace laws_toInode
def G : Gam := mkG [(11, laws_toInt64S.FS), (128, laws_toEntryS.FS)]
def pts : List PT := [.cs tInode_]
def FS : FS := mkFS [.sh] pts (fun x => laws_toInode x.1) fun t => ⟨[.cd tInode_ t], []⟩
theorem ok : FsOk PR 86 FS :=
  fn_ok tbok hmix Proofs.Tryz.f86 ⟨[1], [], [], 0⟩ .no (G := G) (show GOk PR G from .cons laws_toInt64S.ok (.cons laws_toEntryS.ok .nil)) (L := mkL []) (l := []) hT
    (fun x => by simp only [laws_toInode, mC, mB, mS, mO, mN]; kernel_rfl)
end laws_toInode
def laws_toInodeS_l0.B (a : List Inode_) (i_ : Int) (out_ : List Inode_) : Option ((Int × List Inode_) ⊕ (List Inode_)) :=
  cond (decide (i_ < (a.length : Int))) (cond (inB i_ a.length) ((laws_toInode (a.getD i_.toNat zInode_)).bind fun r => cond (inB i_ out_.length) ((some (out_.set i_.toNat (r.1, r.2.1, r.2.2.1, r.2.2.2.1, r.2.2.2.2.1, r.2.2.2.2.2))).bind fun out_2 => some (.inl (w64 (i_ + 1), out_2))) (none)) (none)) (some (.inr out_))
def laws_toInodeS_l0 (a : List Inode_) : (Int × List Inode_) → Option (List Inode_) :=
  loopL fun s => laws_toInodeS_l0.B a s.1 s.2
def laws_toInodeS (a : List Inode_) : Option (List Inode_) :=
  cond (decide ((0 : Int) ≤ (a.length : Int)) && (decide ((a.length : Int) ≤ (a.length : Int)) && decide ((a.length : Int) ≤ 2147483648))) ((laws_toInodeS_l0 a (0, List.replicate (a.length : Int).toNat zInode_)).bind fun o => some o) (none)
namespace laws_toInodeS
def G : Gam := mkG [(86, laws_toInode.FS)]
theorem Gok : GOk PR G := .cons laws_toInode.ok .nil
end laws_toInodeS
namespace laws_toInodeS_l0
def c := codeAt (bodyOf Proofs.Tryz.f43) [1, 1, 0, 1, 0, 0]
def sp : SP := ⟨[(0, .cs (.sl tInode_)), (3, .seg 3 []), (4, .cs I64)], [(3, .reg, .cd (.sl tInode_))]⟩
def out (a : List Inode_) : FOut (List Inode_) := fun b _ k => k (.ex 0) ⟨[(3, .seg 3 [])], [sr 3 (.cd (.sl tInode_) b)]⟩
def fr := lfrag sp (fun x => laws_toInodeS_l0 x.1.1 (x.1.2.2.1, x.2.1)) fun x => out x.1.1
theorem ok : CodeOk PR 23 1 (.loop c) fr :=
  lp_ok tbok hmix h0 .no (G := laws_toInodeS.G) laws_toInodeS.Gok (L := mkL []) (l := []) hT [0, 3, 4] [3] [(0, ([3], [3]))] ([], []) (fun x s => B x.1.1 s.1 s.2) (fun x s => ⟨[(0, .cs (.sl tInode_) x.1.1), (3, .seg 3 []), (4, .cs I64 s.1)], [sr 3 (.cd (.sl tInode_) s.2)]⟩) (fun x => (x.1.2.2.1, x.2.1))
    (fun x s => by simp only [B, mC, mB, mS, mO, mN]; kernel_rfl)
end laws_toInodeS_l0
namespace laws_toInodeS
def pts : List PT := [.cs (.sl tInode_)]
def FS : FS := mkFS [.sh] pts (fun x => laws_toInodeS x.1) fun t => ⟨[.cd (.sl tInode_) t], []⟩
theorem ok : FsOk PR 43 FS :=
  fn_ok tbok hmix Proofs.Tryz.f43 h0 (.R (.R (.L (.R (.one (.fr 0)))))) (G := G) Gok (L := mkL [(0, laws_toInodeS_l0.fr)]) (l := [(0, .loop laws_toInodeS_l0.c)]) ⟨Lam.cons laws_toInodeS_l0.ok, trivial⟩
    (fun x => by simp only [laws_toInodeS, mC, mB, mS, mO, mN]; kernel_rfl)
end laws_toInodeS
def laws_toByteS_l0.B (a : List Int) (i_ : Int) (out_ : List Int) : Option ((Int × List Int) ⊕ (List Int)) :=
  cond (decide (i_ < (a.length : Int))) (cond (inB i_ a.length) (cond (inB i_ out_.length) (some (.inl (w64 (i_ + 1), out_.set i_.toNat (a.getD i_.toNat 0)))) (none)) (none)) (some (.inr out_))
def laws_toByteS_l0 (a : List Int) : (Int × List Int) → Option (List Int) :=
  loopL fun s => laws_toByteS_l0.B a s.1 s.2
def laws_toByteS (a : List Int) : Option (List Int) :=
  cond (decide ((0 : Int) ≤ (a.length : Int)) && (decide ((a.length : Int) ≤ (a.length : Int)) && decide ((a.length : Int) ≤ 2147483648))) ((laws_toByteS_l0 a (0, List.replicate (a.length : Int).toNat 0)).bind fun o => some o) (none)
namespace laws_toByteS_l0
def c := codeAt (bodyOf Proofs.Tryz.f87) [1, 1, 0, 1, 0, 0]
def sp : SP := ⟨[(0, .cs SB), (3, .seg 3 []), (4, .cs I64)], [(3, .reg, .cd SB)]⟩
def out (a : List Int) : FOut (List Int) := fun b _ k => k (.ex 0) ⟨[(3, .seg 3 [])], [sr 3 (.cd SB b)]⟩
def fr := lfrag sp (fun x => laws_toByteS_l0 x.1.1 (x.1.2.2.1, x.2.1)) fun x => out x.1.1
theorem ok : CodeOk PR 22 1 (.loop c) fr :=
  lp_ok tbok hmix h0 .no (G := (mkG [])) .nil (L := mkL []) (l := []) hT [0, 3, 4] [3] [(0, ([3], [3]))] ([], []) (fun x s => B x.1.1 s.1 s.2) (fun x s => ⟨[(0, .cs SB x.1.1), (3, .seg 3 []), (4, .cs I64 s.1)], [sr 3 (.cd SB s.2)]⟩) (fun x => (x.1.2.2.1, x.2.1))
    (fun x s => by simp only [B, mC, mB, mS, mO, mN]; kernel_rfl)
end laws_toByteS_l0
namespace laws_toByteS
def pts : List PT := [.cs SB]
def FS : FS := mkFS [.sh] pts (fun x => laws_toByteS x.1) fun t => ⟨[.cd SB t], []⟩
theorem ok : FsOk PR 87 FS :=
  fn_ok tbok hmix Proofs.Tryz.f87 h0 (.R (.R (.L (.R (.one (.fr 0)))))) (G := (mkG [])) .nil (L := mkL [(0, laws_toByteS_l0.fr)]) (l := [(0, .loop laws_toByteS_l0.c)]) ⟨Lam.cons laws_toByteS_l0.ok, trivial⟩
    (fun x => by simp only [laws_toByteS, mC, mB, mS, mO, mN]; kernel_rfl)
end laws_toByteS
def laws_toByteSS_l0.B (a : List (List Int)) (i_ : Int) (out_ : List (List Int)) : Option ((Int × List (List Int)) ⊕ (List (List Int))) :=
  cond (decide (i_ < (a.length : Int))) (cond (inB i_ a.length) ((laws_toByteS (a.getD i_.toNat [])).bind fun r => cond (inB i_ out_.length) (some (.inl (w64 (i_ + 1), out_.set i_.toNat r))) (none)) (none)) (some (.inr out_))
def laws_toByteSS_l0 (a : List (List Int)) : (Int × List (List Int)) → Option (List (List Int)) :=
  loopL fun s => laws_toByteSS_l0.B a s.1 s.2
def laws_toByteSS (a : List (List Int)) : Option (List (List Int)) :=
  cond (decide ((0 : Int) ≤ (a.length : Int)) && (decide ((a.length : Int) ≤ (a.length : Int)) && decide ((a.length : Int) ≤ 2147483648))) ((some (List.replicate (a.length : Int).toNat ([] : List Int))).bind fun v => (laws_toByteSS_l0 a (0, v)).bind fun o => some o) (none)
namespace laws_toByteSS
def G : Gam := mkG [(87, laws_toByteS.FS)]
theorem Gok : GOk PR G := .cons laws_toByteS.ok .nil
end laws_toByteSS
namespace laws_toByteSS_l0
def c := codeAt (bodyOf Proofs.Tryz.f44) [1, 1, 0, 1, 0, 0]
def sp : SP := ⟨[(0, .cs (.sl SB)), (3, .seg 3 []), (4, .cs I64)], [(3, .reg, .cd (.sl SB))]⟩
def out (a : List (List Int)) : FOut (List (List Int)) := fun b _ k => k (.ex 0) ⟨[(3, .seg 3 [])], [sr 3 (.cd (.sl SB) b)]⟩
def fr := lfrag sp (fun x => laws_toByteSS_l0 x.1.1 (x.1.2.2.1, x.2.1)) fun x => out x.1.1
theorem ok : CodeOk PR 23 1 (.loop c) fr :=
  lp_ok tbok hmix h0 .no (G := laws_toByteSS.G) laws_toByteSS.Gok (L := mkL []) (l := []) hT [0, 3, 4] [3] [(0, ([3], [3]))] ([], []) (fun x s => B x.1.1 s.1 s.2) (fun x s => ⟨[(0, .cs (.sl SB) x.1.1), (3, .seg 3 []), (4, .cs I64 s.1)], [sr 3 (.cd (.sl SB) s.2)]⟩) (fun x => (x.1.2.2.1, x.2.1))
    (fun x s => by simp only [B, mC, mB, mS, mO, mN]; kernel_rfl)
end laws_toByteSS_l0
namespace laws_toByteSS
def pts : List PT := [.cs (.sl SB)]
def FS : FS := mkFS [.sh] pts (fun x => laws_toByteSS x.1) fun t => ⟨[.cd (.sl SB) t], []⟩
theorem ok : FsOk PR 44 FS :=
  fn_ok tbok hmix Proofs.Tryz.f44 h0 (.R (.R (.L (.R (.one (.fr 0)))))) (G := G) Gok (L := mkL [(0, laws_toByteSS_l0.fr)]) (l := [(0, .loop laws_toByteSS_l0.c)]) ⟨Lam.cons laws_toByteSS_l0.ok, trivial⟩
    (fun x => by simp only [laws_toByteSS, mC, mB, mS, mO, mN]; kernel_rfl)
end laws_toByteSS
def laws_toFs (a : Fs_) : Option (Fs_) :=
  (laws_toInodeS a.1).bind fun r => (laws_toByteSS a.2.1).bind fun r2 => some (r, r2, ())
namespace laws_toFs
def G : Gam := mkG [(43, laws_toInodeS.FS), (44, laws_toByteSS.FS)]
def pts : List PT := [.cs tFs_]
def FS : FS := mkFS [.sh] pts (fun x => laws_toFs x.1) fun t => ⟨[.cd tFs_ t], []⟩
theorem ok : FsOk PR 10 FS :=
  fn_ok tbok hmix Proofs.Tryz.f10 ⟨[1], [], [], 0⟩ .no (G := G) (show GOk PR G from .cons laws_toInodeS.ok (.cons laws_toByteSS.ok .nil)) (L := mkL []) (l := []) hT
    (fun x => by simp only [laws_toFs, mC, mB, mS, mO, mN]; kernel_rfl)
end laws_toFs
def spec_l1In (v : Int) (low : Int) (high : Int) : Option (Bool) :=
  (some (cond (decide (v ≥ low)) (decide (v ≤ high)) false)).bind fun v2 => some v2
namespace spec_l1In
def pts : List PT := [.cs I64, .cs I64, .cs I64]
def FS : FS := mkFS [.sh, .sh, .sh] pts (fun x => spec_l1In x.1 x.2.1 x.2.2.1) fun t => ⟨[.cs .bool t], []⟩
theorem ok : FsOk PR 83 FS :=
  fn_ok tbok hmix Proofs.Tryz.f83 h0 .no (G := (mkG [])) .nil (L := mkL []) (l := []) hT
    (fun x => by simp only [spec_l1In, mC, mB, mS, mO, mN]; kernel_rfl)
end spec_l1In
def spec_l4Size (n : Int) : Option (Bool) :=
  (spec_l1In n 0 32).bind fun r => some r
namespace spec_l4Size
def G : Gam := mkG [(83, spec_l1In.FS)]
def pts : List PT := [.cs I64]
def FS : FS := mkFS [.sh] pts (fun x => spec_l4Size x.1) fun t => ⟨[.cs .bool t], []⟩
theorem ok : FsOk PR 169 FS :=
  fn_ok tbok hmix Proofs.Tryz.f169 h0 .no (G := G) (show GOk PR G from .cons spec_l1In.ok .nil) (L := mkL []) (l := []) hT
    (fun x => by simp only [spec_l4Size, mC, mB, mS, mO, mN]; kernel_rfl)
end spec_l4Size
def spec_l4For (size : Int) : Option (Int) :=
  cond (!((8 : Int) == 0)) (some (w64 ((w64 ((w64 (size + 8)) - 1)).tdiv 8))) (none)
namespace spec_l4For
def pts : List PT := [.cs I64]
def FS : FS := mkFS [.sh] pts (fun x => spec_l4For x.1) fun t => ⟨[.cs I64 t], []⟩
theorem ok : FsOk PR 170 FS :=
  fn_ok tbok hmix Proofs.Tryz.f170 h0 .no (G := (mkG [])) .nil (L := mkL []) (l := []) hT
    (fun x => by simp only [spec_l4For, mC, mB, mS, mO, mN]; kernel_rfl)
end spec_l4For
def spec_l4File_l0.B (x : Inode_) (i_ : Int) : Option ((Int) ⊕ (((Int) ⊕ (Unit)))) :=
  cond (decide (i_ < (x.2.2.2.1.length : Int))) (cond (inB i_ x.2.2.2.1.length) ((spec_l1In (x.2.2.2.1.getD i_.toNat 0) 0 19).bind fun r4 => cond (!r4) (some (.inr (.inl 3))) (some (.inl (w64 (i_ + 1))))) (none)) (some (.inr (.inr ())))
def spec_l4File_l0 (x : Inode_) : (Int) → Option (((Int) ⊕ (Unit))) :=
  loopL fun s => spec_l4File_l0.B x s
def spec_l4File_l2.B (x : Inode_) (i_2 : Int) (k_ : Int) : Option ((Int) ⊕ (((Int) ⊕ (Unit)))) :=
  cond (decide (k_ < i_2)) (cond (inB k_ x.2.2.2.1.length) (cond (inB i_2 x.2.2.2.1.length) ((some ((x.2.2.2.1.getD k_.toNat 0) == (x.2.2.2.1.getD i_2.toNat 0))).bind fun v => cond v (some (.inr (.inl 7))) (some (.inl (w64 (k_ + 1))))) (none)) (none)) (some (.inr (.inr ())))
def spec_l4File_l2 (x : Inode_) (i_2 : Int) : (Int) → Option (((Int) ⊕ (Unit))) :=
  loopL fun s => spec_l4File_l2.B x i_2 s
def spec_l4File_l1.B (x : Inode_) (i_2 : Int) : Option ((Int) ⊕ (((Int) ⊕ (Unit)))) :=
  cond (decide (i_2 < (x.2.2.2.1.length : Int))) ((spec_l4File_l2 x i_2 0).bind fun o2 => sel o2 (fun b2 => some (.inr (.inl b2))) (fun c2 => some (.inl (w64 (i_2 + 1))))) (some (.inr (.inr ())))
def spec_l4File_l1 (x : Inode_) : (Int) → Option (((Int) ⊕ (Unit))) :=
  loopL fun s => spec_l4File_l1.B x s
def spec_l4File (x : Inode_) : Option (Int) :=
  (spec_l1In x.2.1 1 60).bind fun r => cond (!r) (some 3) ((spec_l4Size x.2.2.1).bind fun r2 => cond (!r2) (some 3) ((spec_l4For x.2.2.1).bind fun r3 => cond ((x.2.2.2.1.length : Int) != r3) (some 1) ((spec_l4File_l0 x 0).bind fun o => sel o (fun b => some b) (fun c => (spec_l4File_l1 x 0).bind fun o3 => sel o3 (fun b3 => some b3) (fun c3 => some 0)))))
namespace spec_l4File
def G : Gam := mkG [(83, spec_l1In.FS), (169, spec_l4Size.FS), (170, spec_l4For.FS)]
theorem Gok : GOk PR G := .cons spec_l1In.ok (.cons spec_l4Size.ok (.cons spec_l4For.ok .nil))
end spec_l4File
namespace spec_l4File_l0
def c := codeAt (bodyOf Proofs.Tryz.f143) [1, 1, 1, 0, 1, 0, 0]
def sp : SP := ⟨[(0, .pt tInode_), (3, .cs I64)], []⟩
def out (x : Inode_) : FOut (((Int) ⊕ (Unit))) := fun o _ k => sel o (fun b => k (.rt) ⟨[(2, .cs I64 b)], []⟩) (fun c => k (.ex 0) ⟨[(0, .pt tInode_ x)], []⟩)
def fr := lfrag sp (fun x => spec_l4File_l0 x.1.1 x.1.2.1) fun x => out x.1.1
theorem ok : CodeOk PR 78 1 (.loop c) fr :=
  lp_ok tbok hmix h0 .no (G := spec_l4File.G) spec_l4File.Gok (L := mkL []) (l := []) hT [0, 3] [] [(0, ([0], []))] ([2], []) (fun x s => B x.1.1 s) (fun x s => ⟨[(0, .pt tInode_ x.1.1), (3, .cs I64 s)], []⟩) (fun x => x.1.2.1)
    (fun x s => by simp only [B, mC, mB, mS, mO, mN]; kernel_rfl)
end spec_l4File_l0
namespace spec_l4File_l2
def c := codeAt (bodyOf Proofs.Tryz.f143) [1, 1, 1, 1, 0, 1, 0, 0, 1, 0, 0, 1, 0, 0]
def sp : SP := ⟨[(0, .pt tInode_), (4, .cs I64), (5, .cs I64)], []⟩
def out (x : Inode_) (i_2 : Int) : FOut (((Int) ⊕ (Unit))) := fun o _ k => sel o (fun b => k (.rt) ⟨[(2, .cs I64 b)], []⟩) (fun c => k (.ex 4) ⟨[(0, .pt tInode_ x), (4, .cs I64 i_2)], []⟩)
def fr := lfrag sp (fun x => spec_l4File_l2 x.1.1 x.1.2.1 x.1.2.2.1) fun x => out x.1.1 x.1.2.1
theorem ok : CodeOk PR 78 1 (.loop c) fr :=
  lp_ok tbok hmix h0 .no (G := spec_l4File.G) spec_l4File.Gok (L := mkL []) (l := []) hT [0, 4, 5] [] [(4, ([0, 4], []))] ([2], []) (fun x s => B x.1.1 x.1.2.1 s) (fun x s => ⟨[(0, .pt tInode_ x.1.1), (4, .cs I64 x.1.2.1), (5, .cs I64 s)], []⟩) (fun x => x.1.2.2.1)
    (fun x s => by simp only [B, mC, mB, mS, mO, mN]; kernel_rfl)
end spec_l4File_l2
namespace spec_l4File_l1
def c := codeAt (bodyOf Proofs.Tryz.f143) [1, 1, 1, 1, 0, 1, 0, 0]
def sp : SP := ⟨[(0, .pt tInode_), (4, .cs I64)], []⟩
def out (x : Inode_) : FOut (((Int) ⊕ (Unit))) := fun o _ k => sel o (fun b => k (.rt) ⟨[(2, .cs I64 b)], []⟩) (fun c => k (.ex 2) ⟨[], []⟩)
def fr := lfrag sp (fun x => spec_l4File_l1 x.1.1 x.1.2.1) fun x => out x.1.1
theorem ok : CodeOk PR 78 1 (.loop c) fr :=
  lp_ok tbok hmix h0 (.R (.L (.one (.R (.one (.fr 2)))))) (G := spec_l4File.G) spec_l4File.Gok (L := mkL [(2, spec_l4File_l2.fr)]) (l := [(2, .loop spec_l4File_l2.c)]) ⟨Lam.cons spec_l4File_l2.ok, trivial⟩ [0, 4] [] [(2, ([], []))] ([2], []) (fun x s => B x.1.1 s) (fun x s => ⟨[(0, .pt tInode_ x.1.1), (4, .cs I64 s)], []⟩) (fun x => x.1.2.1)
    (fun x s => by simp only [B, mC, mB, mS, mO, mN]; kernel_rfl)
end spec_l4File_l1
namespace spec_l4File
def pts : List PT := [.pt tInode_]
def FS : FS := mkFS [.sh] pts (fun x => spec_l4File x.1) fun t => ⟨[.cs I64 t], []⟩
theorem ok : FsOk PR 143 FS :=
  fn_ok tbok hmix Proofs.Tryz.f143 h0 (.R (.R (.R (.two (.R (.one (.fr 0))) (.L (.R (.one (.fr 1)))))))) (G := G) Gok (L := mkL [(0, spec_l4File_l0.fr), (2, spec_l4File_l2.fr), (1, spec_l4File_l1.fr)]) (l := [(0, .loop spec_l4File_l0.c), (1, .loop spec_l4File_l1.c)]) ⟨Lam.cons spec_l4File_l0.ok, Lam.skip rfl (Lam.skip rfl (Lam.cons spec_l4File_l1.ok)), trivial⟩
    (fun x => by simp only [spec_l4File, mC, mB, mS, mO, mN]; kernel_rfl)
end spec_l4File
def spec_NameFault_l0.B (name : List UInt8) (i_ : Int) : Option ((Int) ⊕ (((Int) ⊕ (Unit)))) :=
  cond (decide (i_ < (name.length : Int))) (cond (inB i_ name.length) ((some (decide (((name.getD i_.toNat 0).toNat : Int) < 97))).bind fun v => cond (cond (!v) (inB i_ name.length) true) ((some (cond v true (decide (((name.getD i_.toNat 0).toNat : Int) > 122)))).bind fun v2 => cond v2 (some (.inr (.inl 5))) (some (.inl (w64 (i_ + 1))))) (none)) (none)) (some (.inr (.inr ())))
def spec_NameFault_l0 (name : List UInt8) : (Int) → Option (((Int) ⊕ (Unit))) :=
  loopL fun s => spec_NameFault_l0.B name s
def spec_NameFault (name : List UInt8) : Option (Int) :=
  (spec_NameFault_l0 name 0).bind fun o => sel o (fun b => some b) (fun c => cond (name == ([] : List UInt8)) (some 5) (cond (decide ((name.length : Int) > 4)) (some 2) (some 0)))
namespace spec_NameFault_l0
def c := codeAt (bodyOf Proofs.Tryz.f171) [1, 0, 1, 0, 0]
def sp : SP := ⟨[(0, .cs .str), (3, .cs I64)], []⟩
def out (name : List UInt8) : FOut (((Int) ⊕ (Unit))) := fun o _ k => sel o (fun b => k (.rt) ⟨[(2, .cs I64 b)], []⟩) (fun c => k (.ex 0) ⟨[(0, .cs .str name)], []⟩)
def fr := lfrag sp (fun x => spec_NameFault_l0 x.1.1 x.1.2.1) fun x => out x.1.1
theorem ok : CodeOk PR 25 1 (.loop c) fr :=
  lp_ok tbok hmix h0 .no (G := (mkG [])) .nil (L := mkL []) (l := []) hT [0, 3] [] [(0, ([0], []))] ([2], []) (fun x s => B x.1.1 s) (fun x s => ⟨[(0, .cs .str x.1.1), (3, .cs I64 s)], []⟩) (fun x => x.1.2.1)
    (fun x s => by simp only [B, mC, mB, mS, mO, mN]; kernel_rfl)
end spec_NameFault_l0
namespace spec_NameFault
def pts : List PT := [.cs .str]
def FS : FS := mkFS [.sh] pts (fun x => spec_NameFault x.1) fun t => ⟨[.cs I64 t], []⟩
theorem ok : FsOk PR 171 FS :=
  fn_ok tbok hmix Proofs.Tryz.f171 h0 (.R (.L (.R (.one (.fr 0))))) (G := (mkG [])) .nil (L := mkL [(0, spec_NameFault_l0.fr)]) (l := [(0, .loop spec_NameFault_l0.c)]) ⟨Lam.cons spec_NameFault_l0.ok, trivial⟩
    (fun x => by simp only [spec_NameFault, mC, mB, mS, mO, mN]; kernel_rfl)
end spec_NameFault
def spec_l4Dir_l0.B (x : Inode_) (i_ : Int) : Option ((Int) ⊕ (((Int) ⊕ (Unit)))) :=
  cond (decide (i_ < (x.2.2.2.2.1.length : Int))) (cond (inB i_ x.2.2.2.2.1.length) ((spec_NameFault ((x.2.2.2.2.1.getD i_.toNat zEntry_).1)).bind fun r => cond (r != 0) (some (.inr (.inl r))) (cond (inB i_ x.2.2.2.2.1.length) ((spec_l1In (((x.2.2.2.2.1.getD i_.toNat zEntry_).2).1) 0 9).bind fun r2 => cond (!r2) (some (.inr (.inl 3))) (cond (cond (decide (i_ > 0)) (inB i_ x.2.2.2.2.1.length) true) (cond (cond (decide (i_ > 0)) (inB (w64 (i_ - 1)) x.2.2.2.2.1.length) true) ((some (cond (decide (i_ > 0)) (leB ((x.2.2.2.2.1.getD i_.toNat zEntry_).1) ((x.2.2.2.2.1.getD (w64 (i_ - 1)).toNat zEntry_).1) || ((x.2.2.2.2.1.getD i_.toNat zEntry_).1) == ((x.2.2.2.2.1.getD (w64 (i_ - 1)).toNat zEntry_).1)) false)).bind fun v => cond v (some (.inr (.inl 1))) (some (.inl (w64 (i_ + 1))))) (none)) (none))) (none))) (none)) (some (.inr (.inr ())))
def spec_l4Dir_l0 (x : Inode_) : (Int) → Option (((Int) ⊕ (Unit))) :=
  loopL fun s => spec_l4Dir_l0.B x s
def spec_l4Dir (x : Inode_) : Option (Int) :=
  cond (decide ((x.2.2.2.2.1.length : Int) > 6)) (some 2) ((spec_l4Dir_l0 x 0).bind fun o => sel o (fun b => some b) (fun c => some 0))
namespace spec_l4Dir
def G : Gam := mkG [(171, spec_NameFault.FS), (83, spec_l1In.FS)]
theorem Gok : GOk PR G := .cons spec_NameFault.ok (.cons spec_l1In.ok .nil)
end spec_l4Dir
namespace spec_l4Dir_l0
def c := codeAt (bodyOf Proofs.Tryz.f144) [1, 1, 0, 1, 0, 0]
def sp : SP := ⟨[(0, .pt tInode_), (3, .cs I64)], []⟩
def out (x : Inode_) : FOut (((Int) ⊕ (Unit))) := fun o _ k => sel o (fun b => k (.rt) ⟨[(2, .cs I64 b)], []⟩) (fun c => k (.ex 0) ⟨[], []⟩)
def fr := lfrag sp (fun x => spec_l4Dir_l0 x.1.1 x.1.2.1) fun x => out x.1.1
theorem ok : CodeOk PR 64 1 (.loop c) fr :=
  lp_ok tbok hmix h0 .no (G := spec_l4Dir.G) spec_l4Dir.Gok (L := mkL []) (l := []) hT [0, 3] [] [(0, ([], []))] ([2], []) (fun x s => B x.1.1 s) (fun x s => ⟨[(0, .pt tInode_ x.1.1), (3, .cs I64 s)], []⟩) (fun x => x.1.2.1)
    (fun x s => by simp only [B, mC, mB, mS, mO, mN]; kernel_rfl)
end spec_l4Dir_l0
namespace spec_l4Dir
def pts : List PT := [.pt tInode_]
def FS : FS := mkFS [.sh] pts (fun x => spec_l4Dir x.1) fun t => ⟨[.cs I64 t], []⟩
theorem ok : FsOk PR 144 FS :=
  fn_ok tbok hmix Proofs.Tryz.f144 h0 (.R (.R (.L (.R (.one (.fr 0)))))) (G := G) Gok (L := mkL [(0, spec_l4Dir_l0.fr)]) (l := [(0, .loop spec_l4Dir_l0.c)]) ⟨Lam.cons spec_l4Dir_l0.ok, trivial⟩
    (fun x => by simp only [spec_l4Dir, mC, mB, mS, mO, mN]; kernel_rfl)
end spec_l4Dir
def spec_l4Fault (x : Inode_) : Option (Int) :=
  (spec_l1In x.1 0 2).bind fun r => cond (!r) (some 1) ((some (cond (x.1 != 1) (cond (cond (x.2.1 != 0) true (x.2.2.1 != 0)) true (decide ((x.2.2.2.1.length : Int) > 0))) false)).bind fun v => (some (cond v true (cond (x.1 != 2) (decide ((x.2.2.2.2.1.length : Int) > 0)) false))).bind fun v2 => cond v2 (some 1) (cond (x.1 == 1) ((spec_l4File x).bind fun r2 => some r2) (cond (x.1 == 2) ((spec_l4Dir x).bind fun r3 => some r3) (some 0))))
namespace spec_l4Fault
def G : Gam := mkG [(83, spec_l1In.FS), (143, spec_l4File.FS), (144, spec_l4Dir.FS)]
def pts : List PT := [.pt tInode_]
def FS : FS := mkFS [.sh] pts (fun x => spec_l4Fault x.1) fun t => ⟨[.cs I64 t], []⟩
theorem ok : FsOk PR 112 FS :=
  fn_ok tbok hmix Proofs.Tryz.f112 h0 .no (G := G) (show GOk PR G from .cons spec_l1In.ok (.cons spec_l4File.ok (.cons spec_l4Dir.ok .nil))) (L := mkL []) (l := []) hT
    (fun x => by simp only [spec_l4Fault, mC, mB, mS, mO, mN]; kernel_rfl)
end spec_l4Fault
def spec_l5Fault_l0.B (list : List Inode_) (i_ : Int) : Option ((Int) ⊕ (((Int) ⊕ (Unit)))) :=
  cond (decide (i_ < (list.length : Int))) (cond (inB i_ list.length) ((spec_l4Fault (list.getD i_.toNat zInode_)).bind fun r => cond (r != 0) (some (.inr (.inl r))) (some (.inl (w64 (i_ + 1))))) (none)) (some (.inr (.inr ())))
def spec_l5Fault_l0 (list : List Inode_) : (Int) → Option (((Int) ⊕ (Unit))) :=
  loopL fun s => spec_l5Fault_l0.B list s
def spec_l5Fault (list : List Inode_) : Option (Int) :=
  cond (decide ((list.length : Int) > 10)) (some 2) ((spec_l5Fault_l0 list 0).bind fun o => sel o (fun b => some b) (fun c => some 0))
namespace spec_l5Fault
def G : Gam := mkG [(112, spec_l4Fault.FS)]
theorem Gok : GOk PR G := .cons spec_l4Fault.ok .nil
end spec_l5Fault
namespace spec_l5Fault_l0
def c := codeAt (bodyOf Proofs.Tryz.f114) [1, 1, 0, 1, 0, 0]
def sp : SP := ⟨[(0, .cs (.sl tInode_)), (3, .cs I64)], []⟩
def out (list : List Inode_) : FOut (((Int) ⊕ (Unit))) := fun o _ k => sel o (fun b => k (.rt) ⟨[(2, .cs I64 b)], []⟩) (fun c => k (.ex 0) ⟨[], []⟩)
def fr := lfrag sp (fun x => spec_l5Fault_l0 x.1.1 x.1.2.1) fun x => out x.1.1
theorem ok : CodeOk PR 21 1 (.loop c) fr :=
  lp_ok tbok hmix h0 .no (G := spec_l5Fault.G) spec_l5Fault.Gok (L := mkL []) (l := []) hT [0, 3] [] [(0, ([], []))] ([2], []) (fun x s => B x.1.1 s) (fun x s => ⟨[(0, .cs (.sl tInode_) x.1.1), (3, .cs I64 s)], []⟩) (fun x => x.1.2.1)
    (fun x s => by simp only [B, mC, mB, mS, mO, mN]; kernel_rfl)
end spec_l5Fault_l0
namespace spec_l5Fault
def pts : List PT := [.cs (.sl tInode_)]
def FS : FS := mkFS [.sh] pts (fun x => spec_l5Fault x.1) fun t => ⟨[.cs I64 t], []⟩
theorem ok : FsOk PR 114 FS :=
  fn_ok tbok hmix Proofs.Tryz.f114 h0 (.R (.R (.L (.R (.one (.fr 0)))))) (G := G) Gok (L := mkL [(0, spec_l5Fault_l0.fr)]) (l := [(0, .loop spec_l5Fault_l0.c)]) ⟨Lam.cons spec_l5Fault_l0.ok, trivial⟩
    (fun x => by simp only [spec_l5Fault, mC, mB, mS, mO, mN]; kernel_rfl)
end spec_l5Fault
def spec_l5Count_l1.B (list : List Inode_) (at_ : Int) (i_ : Int) (n_2 : Int) (k_ : Int) : Option ((Int × Int) ⊕ (Int)) :=
  cond (inB i_ list.length) ((some ((((((list.getD i_.toNat zInode_).2).2).2).1).length : Int)).bind fun v => cond (decide (k_ < v)) (cond (inB i_ list.length) (cond (inB k_ ((((((list.getD i_.toNat zInode_).2).2).2).1).length)) ((some ((((((list.getD i_.toNat zInode_).2).2).2).1).getD k_.toNat 0)).bind fun v2 => cond (v2 == at_) (some (.inl (w64 (n_2 + 1), w64 (k_ + 1)))) (some (.inl (n_2, w64 (k_ + 1))))) (none)) (none)) (some (.inr n_2))) (none)
def spec_l5Count_l1 (list : List Inode_) (at_ : Int) (i_ : Int) : (Int × Int) → Option (Int) :=
  loopL fun s => spec_l5Count_l1.B list at_ i_ s.1 s.2
def spec_l5Count_l0.B (list : List Inode_) (at_ : Int) (n_ : Int) (i_ : Int) : Option ((Int × Int) ⊕ (Int)) :=
  cond (decide (i_ < (list.length : Int))) ((spec_l5Count_l1 list at_ i_ (n_, 0)).bind fun o => some (.inl (o, w64 (i_ + 1)))) (some (.inr n_))
def spec_l5Count_l0 (list : List Inode_) (at_ : Int) : (Int × Int) → Option (Int) :=
  loopL fun s => spec_l5Count_l0.B list at_ s.1 s.2
def spec_l5Count (list : List Inode_) (at_ : Int) : Option (Int) :=
  (spec_l5Count_l0 list at_ (0, 0)).bind fun o2 => some o2
namespace spec_l5Count_l1
def c := codeAt (bodyOf Proofs.Tryz.f84) [1, 1, 0, 1, 0, 0, 1, 0, 0, 1, 0, 0]
def sp : SP := ⟨[(0, .cs (.sl tInode_)), (1, .cs I64), (5, .cs I64), (6, .cs I64), (7, .cs I64)], []⟩
def out (list : List Inode_) (at_ : Int) (i_ : Int) : FOut (Int) := fun b _ k => k (.ex 2) ⟨[(0, .cs (.sl tInode_) list), (1, .cs I64 at_), (5, .cs I64 b), (6, .cs I64 i_)], []⟩
def fr := lfrag sp (fun x => spec_l5Count_l1 x.1.1 x.1.2.1 x.1.2.2.2.1 (x.1.2.2.1, x.1.2.2.2.2.1)) fun x => out x.1.1 x.1.2.1 x.1.2.2.2.1
theorem ok : CodeOk PR 37 2 (.loop c) fr :=
  lp_ok tbok hmix h0 .no (G := (mkG [])) .nil (L := mkL []) (l := []) hT [0, 1, 5, 6, 7] [] [(2, ([0, 1, 5, 6], []))] ([], []) (fun x s => B x.1.1 x.1.2.1 x.1.2.2.2.1 s.1 s.2) (fun x s => ⟨[(0, .cs (.sl tInode_) x.1.1), (1, .cs I64 x.1.2.1), (5, .cs I64 s.1), (6, .cs I64 x.1.2.2.2.1), (7, .cs I64 s.2)], []⟩) (fun x => (x.1.2.2.1, x.1.2.2.2.2.1))
    (fun x s => by simp only [B, mC, mB, mS, mO, mN]; kernel_rfl)
end spec_l5Count_l1
namespace spec_l5Count_l0
def c := codeAt (bodyOf Proofs.Tryz.f84) [1, 1, 0, 1, 0, 0]
def sp : SP := ⟨[(0, .cs (.sl tInode_)), (1, .cs I64), (5, .cs I64), (6, .cs I64)], []⟩
def out (list : List Inode_) (at_ : Int) : FOut (Int) := fun b _ k => k (.ex 0) ⟨[(5, .cs I64 b)], []⟩
def fr := lfrag sp (fun x => spec_l5Count_l0 x.1.1 x.1.2.1 (x.1.2.2.1, x.1.2.2.2.1)) fun x => out x.1.1 x.1.2.1
theorem ok : CodeOk PR 37 2 (.loop c) fr :=
  lp_ok tbok hmix h0 (.R (.L (.one (.R (.one (.fr 1)))))) (G := (mkG [])) .nil (L := mkL [(1, spec_l5Count_l1.fr)]) (l := [(1, .loop spec_l5Count_l1.c)]) ⟨Lam.cons spec_l5Count_l1.ok, trivial⟩ [0, 1, 5, 6] [] [(0, ([5], []))] ([], []) (fun x s => B x.1.1 x.1.2.1 s.1 s.2) (fun x s => ⟨[(0, .cs (.sl tInode_) x.1.1), (1, .cs I64 x.1.2.1), (5, .cs I64 s.1), (6, .cs I64 s.2)], []⟩) (fun x => (x.1.2.2.1, x.1.2.2.2.1))
    (fun x s => by simp only [B, mC, mB, mS, mO, mN]; kernel_rfl)
end spec_l5Count_l0
namespace spec_l5Count
def pts : List PT := [.cs (.sl tInode_), .cs I64]
def FS : FS := mkFS [.sh, .sh] pts (fun x => spec_l5Count x.1 x.2.1) fun t => ⟨[.cs I64 t], []⟩
theorem ok : FsOk PR 84 FS :=
  fn_ok tbok hmix Proofs.Tryz.f84 h0 (.R (.R (.L (.R (.one (.fr 0)))))) (G := (mkG [])) .nil (L := mkL [(1, spec_l5Count_l1.fr), (0, spec_l5Count_l0.fr)]) (l := [(0, .loop spec_l5Count_l0.c)]) ⟨Lam.skip rfl (Lam.cons spec_l5Count_l0.ok), trivial⟩
    (fun x => by simp only [spec_l5Count, mC, mB, mS, mO, mN]; kernel_rfl)
end spec_l5Count
def spec_l5Used_l0.B (list : List Inode_) (once_ : Bool) (at_ : Int) (out_ : List Int) : Option ((Bool × Int × List Int) ⊕ (Bool × List Int)) :=
  cond (decide (at_ < 20)) ((spec_l5Count list at_).bind fun r => cond (decide (r > 0)) (cond (decide ((out_ ++ ([at_])).length ≤ 2147483648)) (some (.inl (cond once_ (decide (r ≤ 1)) false, w64 (at_ + 1), out_ ++ ([at_])))) (none)) (some (.inl (cond once_ (decide (r ≤ 1)) false, w64 (at_ + 1), out_)))) (some (.inr (once_, out_)))
def spec_l5Used_l0 (list : List Inode_) : (Bool × Int × List Int) → Option (Bool × List Int) :=
  loopL fun s => spec_l5Used_l0.B list s.1 s.2.1 s.2.2
def spec_l5Used (list : List Inode_) : Option ((List Int) × Bool) :=
  (spec_l5Used_l0 list (true, 0, [])).bind fun o => some (o.2, o.1)
namespace spec_l5Used
def G : Gam := mkG [(84, spec_l5Count.FS)]
theorem Gok : GOk PR G := .cons spec_l5Count.ok .nil
end spec_l5Used
namespace spec_l5Used_l0
def c := codeAt (bodyOf Proofs.Tryz.f51) [1, 1, 1, 0, 1, 0, 0]
def sp : SP := ⟨[(0, .cs (.sl tInode_)), (4, .seg 4 []), (5, .cs .bool), (6, .cs I64)], [(4, .reg, .cd SI)]⟩
def out (list : List Inode_) : FOut (Bool × List Int) := fun b _ k => k (.ex 0) ⟨[(4, .seg 4 []), (5, .cs .bool b.1)], [sr 4 (.cd SI b.2)]⟩
def fr := lfrag sp (fun x => spec_l5Used_l0 x.1.1 (x.1.2.2.1, x.1.2.2.2.1, x.2.1)) fun x => out x.1.1
theorem ok : CodeOk PR 29 1 (.loop c) fr :=
  lp_ok tbok hmix h0 .no (G := spec_l5Used.G) spec_l5Used.Gok (L := mkL []) (l := []) hT [0, 4, 5, 6] [4] [(0, ([4, 5], [4]))] ([], []) (fun x s => B x.1.1 s.1 s.2.1 s.2.2) (fun x s => ⟨[(0, .cs (.sl tInode_) x.1.1), (4, .seg 4 []), (5, .cs .bool s.1), (6, .cs I64 s.2.1)], [sr 4 (.cd SI s.2.2)]⟩) (fun x => (x.1.2.2.1, x.1.2.2.2.1, x.2.1))
    (fun x s => by simp only [B, mC, mB, mS, mO, mN]; kernel_rfl)
end spec_l5Used_l0
namespace spec_l5Used
def pts : List PT := [.cs (.sl tInode_)]
def FS : FS := mkFS [.sh] pts (fun x => spec_l5Used x.1) fun t => ⟨[.cd SI t.1, .cs .bool t.2], []⟩
theorem ok : FsOk PR 51 FS :=
  fn_ok tbok hmix Proofs.Tryz.f51 h0 (.R (.R (.R (.L (.R (.one (.fr 0))))))) (G := G) Gok (L := mkL [(0, spec_l5Used_l0.fr)]) (l := [(0, .loop spec_l5Used_l0.c)]) ⟨Lam.cons spec_l5Used_l0.ok, trivial⟩
    (fun x => by simp only [spec_l5Used, mC, mB, mS, mO, mN]; kernel_rfl)
end spec_l5Used
def spec_l6Entries_l0.B (f : Fs_) (i_ : Int) : Option ((Int) ⊕ (((Int) ⊕ (Unit)))) :=
  cond (decide (i_ < (f.2.1.length : Int))) (cond (inB i_ f.2.1.length) ((some (decide (((f.2.1.getD i_.toNat []).length : Int) > 8))).bind fun v2 => cond v2 (some (.inr (.inl 2))) (some (.inl (w64 (i_ + 1))))) (none)) (some (.inr (.inr ())))
def spec_l6Entries_l0 (f : Fs_) : (Int) → Option (((Int) ⊕ (Unit))) :=
  loopL fun s => spec_l6Entries_l0.B f s
def spec_l6Entries_l2.B (f : Fs_) (i_2 : Int) (k_ : Int) : Option ((Int) ⊕ (((Int) ⊕ (Unit)))) :=
  cond (inB i_2 f.1.length) ((some (((((((f.1.getD i_2.toNat zInode_).2).2).2).2).1).length : Int)).bind fun v3 => cond (decide (k_ < v3)) (cond (inB i_2 f.1.length) (cond (inB k_ (((((((f.1.getD i_2.toNat zInode_).2).2).2).2).1).length)) ((some (((((((((f.1.getD i_2.toNat zInode_).2).2).2).2).1).getD k_.toNat zEntry_).2).1)).bind fun v4 => cond (cond (!(decide (v4 ≥ (f.1.length : Int)))) (inB v4 f.1.length) true) ((some (cond (decide (v4 ≥ (f.1.length : Int))) true (((f.1.getD v4.toNat zInode_).1) == 0))).bind fun v5 => cond v5 (some (.inr (.inl 4))) (some (.inl (w64 (k_ + 1))))) (none)) (none)) (none)) (some (.inr (.inr ())))) (none)
def spec_l6Entries_l2 (f : Fs_) (i_2 : Int) : (Int) → Option (((Int) ⊕ (Unit))) :=
  loopL fun s => spec_l6Entries_l2.B f i_2 s
def spec_l6Entries_l1.B (f : Fs_) (i_2 : Int) : Option ((Int) ⊕ (((Int) ⊕ (Unit)))) :=
  cond (decide (i_2 < (f.1.length : Int))) ((spec_l6Entries_l2 f i_2 0).bind fun o2 => sel o2 (fun b2 => some (.inr (.inl b2))) (fun c2 => some (.inl (w64 (i_2 + 1))))) (some (.inr (.inr ())))
def spec_l6Entries_l1 (f : Fs_) : (Int) → Option (((Int) ⊕ (Unit))) :=
  loopL fun s => spec_l6Entries_l1.B f s
def spec_l6Entries (f : Fs_) : Option (Int) :=
  (spec_l5Fault f.1).bind fun r => cond (r != 0) (some r) (cond (cond (!((f.1.length : Int) == 0)) (inB 0 f.1.length) true) ((some (cond ((f.1.length : Int) == 0) true (((f.1.getD (0 : Int).toNat zInode_).1) != 2))).bind fun v => cond (cond v true ((f.2.1.length : Int) != 20)) (some 1) ((spec_l6Entries_l0 f 0).bind fun o => sel o (fun b => some b) (fun c => (spec_l5Used f.1).bind fun r2 => cond (!r2.2) (some 7) ((spec_l6Entries_l1 f 0).bind fun o3 => sel o3 (fun b3 => some b3) (fun c3 => some 0))))) (none))
namespace spec_l6Entries
def G : Gam := mkG [(114, spec_l5Fault.FS), (51, spec_l5Used.FS)]
theorem Gok : GOk PR G := .cons spec_l5Fault.ok (.cons spec_l5Used.ok .nil)
end spec_l6Entries
namespace spec_l6Entries_l0
def c := codeAt (bodyOf Proofs.Tryz.f69) [1, 1, 1, 0, 1, 0, 0]
def sp : SP := ⟨[(0, .pt tFs_), (4, .cs I64)], []⟩
def out (f : Fs_) : FOut (((Int) ⊕ (Unit))) := fun o _ k => sel o (fun b => k (.rt) ⟨[(2, .cs I64 b)], []⟩) (fun c => k (.ex 0) ⟨[(0, .pt tFs_ f)], []⟩)
def fr := lfrag sp (fun x => spec_l6Entries_l0 x.1.1 x.1.2.1) fun x => out x.1.1
theorem ok : CodeOk PR 122 1 (.loop c) fr :=
  lp_ok tbok hmix h0 .no (G := spec_l6Entries.G) spec_l6Entries.Gok (L := mkL []) (l := []) hT [0, 4] [] [(0, ([0], []))] ([2], []) (fun x s => B x.1.1 s) (fun x s => ⟨[(0, .pt tFs_ x.1.1), (4, .cs I64 s)], []⟩) (fun x => x.1.2.1)
    (fun x s => by simp only [B, mC, mB, mS, mO, mN]; kernel_rfl)
end spec_l6Entries_l0
namespace spec_l6Entries_l2
def c := codeAt (bodyOf Proofs.Tryz.f69) [1, 1, 1, 1, 1, 0, 1, 0, 0, 1, 0, 0, 1, 0, 0]
def sp : SP := ⟨[(0, .pt tFs_), (7, .cs I64), (8, .cs I64)], []⟩
def out (f : Fs_) (i_2 : Int) : FOut (((Int) ⊕ (Unit))) := fun o _ k => sel o (fun b => k (.rt) ⟨[(2, .cs I64 b)], []⟩) (fun c => k (.ex 4) ⟨[(0, .pt tFs_ f), (7, .cs I64 i_2)], []⟩)
def fr := lfrag sp (fun x => spec_l6Entries_l2 x.1.1 x.1.2.1 x.1.2.2.1) fun x => out x.1.1 x.1.2.1
theorem ok : CodeOk PR 122 1 (.loop c) fr :=
  lp_ok tbok hmix h0 .no (G := spec_l6Entries.G) spec_l6Entries.Gok (L := mkL []) (l := []) hT [0, 7, 8] [] [(4, ([0, 7], []))] ([2], []) (fun x s => B x.1.1 x.1.2.1 s) (fun x s => ⟨[(0, .pt tFs_ x.1.1), (7, .cs I64 x.1.2.1), (8, .cs I64 s)], []⟩) (fun x => x.1.2.2.1)
    (fun x s => by simp only [B, mC, mB, mS, mO, mN]; kernel_rfl)
end spec_l6Entries_l2
namespace spec_l6Entries_l1
def c := codeAt (bodyOf Proofs.Tryz.f69) [1, 1, 1, 1, 1, 0, 1, 0, 0]
def sp : SP := ⟨[(0, .pt tFs_), (7, .cs I64)], []⟩
def out (f : Fs_) : FOut (((Int) ⊕ (Unit))) := fun o _ k => sel o (fun b => k (.rt) ⟨[(2, .cs I64 b)], []⟩) (fun c => k (.ex 2) ⟨[], []⟩)
def fr := lfrag sp (fun x => spec_l6Entries_l1 x.1.1 x.1.2.1) fun x => out x.1.1
theorem ok : CodeOk PR 122 1 (.loop c) fr :=
  lp_ok tbok hmix h0 (.R (.L (.one (.R (.one (.fr 2)))))) (G := spec_l6Entries.G) spec_l6Entries.Gok (L := mkL [(2, spec_l6Entries_l2.fr)]) (l := [(2, .loop spec_l6Entries_l2.c)]) ⟨Lam.cons spec_l6Entries_l2.ok, trivial⟩ [0, 7] [] [(2, ([], []))] ([2], []) (fun x s => B x.1.1 s) (fun x s => ⟨[(0, .pt tFs_ x.1.1), (7, .cs I64 s)], []⟩) (fun x => x.1.2.1)
    (fun x s => by simp only [B, mC, mB, mS, mO, mN]; kernel_rfl)
end spec_l6Entries_l1
namespace spec_l6Entries
def pts : List PT := [.pt tFs_]
def FS : FS := mkFS [.sh] pts (fun x => spec_l6Entries x.1) fun t => ⟨[.cs I64 t], []⟩
theorem ok : FsOk PR 69 FS :=
  fn_ok tbok hmix Proofs.Tryz.f69 h0 (.R (.R (.R (.two (.R (.one (.fr 0))) (.R (.L (.R (.one (.fr 1))))))))) (G := G) Gok (L := mkL [(0, spec_l6Entries_l0.fr), (2, spec_l6Entries_l2.fr), (1, spec_l6Entries_l1.fr)]) (l := [(0, .loop spec_l6Entries_l0.c), (1, .loop spec_l6Entries_l1.c)]) ⟨Lam.cons spec_l6Entries_l0.ok, Lam.skip rfl (Lam.skip rfl (Lam.cons spec_l6Entries_l1.ok)), trivial⟩
    (fun x => by simp only [spec_l6Entries, mC, mB, mS, mO, mN]; kernel_rfl)
end spec_l6Entries
def spec_l6Reach_l2.B (f : Fs_) (round_ : Int) (i_ : Int) (k_ : Int) (in_4 : List Bool) : Option ((Int × List Bool) ⊕ (List Bool)) :=
  cond (inB i_ in_4.length) (cond (cond (in_4.getD i_.toNat false) (inB i_ f.1.length) true) ((some (cond (in_4.getD i_.toNat false) (decide (k_ < (((((((f.1.getD i_.toNat zInode_).2).2).2).2).1).length : Int))) false)).bind fun v => cond v (cond (inB i_ f.1.length) (cond (inB k_ (((((((f.1.getD i_.toNat zInode_).2).2).2).2).1).length)) ((some (((((((((f.1.getD i_.toNat zInode_).2).2).2).2).1).getD k_.toNat zEntry_).2).1)).bind fun v2 => cond (inB v2 in_4.length) (some (.inl (w64 (k_ + 1), in_4.set v2.toNat true))) (none)) (none)) (none)) (some (.inr in_4))) (none)) (none)
def spec_l6Reach_l2 (f : Fs_) (round_ : Int) (i_ : Int) : (Int × List Bool) → Option (List Bool) :=
  loopL fun s => spec_l6Reach_l2.B f round_ i_ s.1 s.2
def spec_l6Reach_l1.B (f : Fs_) (round_ : Int) (i_ : Int) (in_3 : List Bool) : Option ((Int × List Bool) ⊕ (List Bool)) :=
  cond (decide (i_ < (f.1.length : Int))) ((spec_l6Reach_l2 f round_ i_ (0, in_3)).bind fun o => some (.inl (w64 (i_ + 1), o))) (some (.inr in_3))
def spec_l6Reach_l1 (f : Fs_) (round_ : Int) : (Int × List Bool) → Option (List Bool) :=
  loopL fun s => spec_l6Reach_l1.B f round_ s.1 s.2
def spec_l6Reach_l0.B (f : Fs_) (round_ : Int) (in_2 : List Bool) : Option ((Int × List Bool) ⊕ (List Bool)) :=
  cond (decide (round_ < (f.1.length : Int))) ((spec_l6Reach_l1 f round_ (0, in_2)).bind fun o2 => some (.inl (w64 (round_ + 1), o2))) (some (.inr in_2))
def spec_l6Reach_l0 (f : Fs_) : (Int × List Bool) → Option (List Bool) :=
  loopL fun s => spec_l6Reach_l0.B f s.1 s.2
def spec_l6Reach_l3.B (o3 : List Bool) (i_2 : Int) (out_ : List Int) : Option ((Int × List Int) ⊕ (List Int)) :=
  cond (decide (i_2 < (o3.length : Int))) (cond (inB i_2 o3.length) (cond (o3.getD i_2.toNat false) (cond (decide ((out_ ++ ([i_2])).length ≤ 2147483648)) (some (.inl (w64 (i_2 + 1), out_ ++ ([i_2])))) (none)) (some (.inl (w64 (i_2 + 1), out_)))) (none)) (some (.inr out_))
def spec_l6Reach_l3 (o3 : List Bool) : (Int × List Int) → Option (List Int) :=
  loopL fun s => spec_l6Reach_l3.B o3 s.1 s.2
def spec_l6Reach (f : Fs_) : Option (List Int) :=
  cond (decide ((0 : Int) ≤ (f.1.length : Int)) && (decide ((f.1.length : Int) ≤ (f.1.length : Int)) && decide ((f.1.length : Int) ≤ 2147483648))) (cond (inB 0 ((List.replicate (f.1.length : Int).toNat false).length)) ((some ((List.replicate (f.1.length : Int).toNat false).set ((0 : Int).toNat) true)).bind fun in_ => (spec_l6Reach_l0 f (0, in_)).bind fun o3 => (spec_l6Reach_l3 o3 (0, [])).bind fun o4 => some o4) (none)) (none)
namespace spec_l6Reach_l2
def c := codeAt (bodyOf Proofs.Tryz.f126) [1, 1, 1, 0, 1, 0, 0, 1, 0, 0, 1, 0, 0, 1, 0, 0, 1, 0, 0]
def sp : SP := ⟨[(0, .pt tFs_), (3, .seg 3 []), (4, .cs I64), (5, .cs I64), (6, .cs I64)], [(3, .reg, .cd (.sl .bool))]⟩
def out (f : Fs_) (round_ : Int) (i_ : Int) : FOut (List Bool) := fun b _ k => k (.ex 4) ⟨[(0, .pt tFs_ f), (3, .seg 3 []), (4, .cs I64 round_), (5, .cs I64 i_)], [sr 3 (.cd (.sl .bool) b)]⟩
def fr := lfrag sp (fun x => spec_l6Reach_l2 x.1.1 x.1.2.2.1 x.1.2.2.2.1 (x.1.2.2.2.2.1, x.2.1)) fun x => out x.1.1 x.1.2.2.1 x.1.2.2.2.1
theorem ok : CodeOk PR 84 1 (.loop c) fr :=
  lp_ok tbok hmix h0 .no (G := (mkG [])) .nil (L := mkL []) (l := []) hT [0, 3, 4, 5, 6] [3] [(4, ([0, 3, 4, 5], [3]))] ([], []) (fun x s => B x.1.1 x.1.2.2.1 x.1.2.2.2.1 s.1 s.2) (fun x s => ⟨[(0, .pt tFs_ x.1.1), (3, .seg 3 []), (4, .cs I64 x.1.2.2.1), (5, .cs I64 x.1.2.2.2.1), (6, .cs I64 s.1)], [sr 3 (.cd (.sl .bool) s.2)]⟩) (fun x => (x.1.2.2.2.2.1, x.2.1))
    (fun x s => by simp only [B, mC, mB, mS, mO, mN]; kernel_rfl)
end spec_l6Reach_l2
namespace spec_l6Reach_l1
def c := codeAt (bodyOf Proofs.Tryz.f126) [1, 1, 1, 0, 1, 0, 0, 1, 0, 0, 1, 0, 0]
def sp : SP := ⟨[(0, .pt tFs_), (3, .seg 3 []), (4, .cs I64), (5, .cs I64)], [(3, .reg, .cd (.sl .bool))]⟩
def out (f : Fs_) (round_ : Int) : FOut (List Bool) := fun b _ k => k (.ex 2) ⟨[(0, .pt tFs_ f), (3, .seg 3 []), (4, .cs I64 round_)], [sr 3 (.cd (.sl .bool) b)]⟩
def fr := lfrag sp (fun x => spec_l6Reach_l1 x.1.1 x.1.2.2.1 (x.1.2.2.2.1, x.2.1)) fun x => out x.1.1 x.1.2.2.1
theorem ok : CodeOk PR 84 1 (.loop c) fr :=
  lp_ok tbok hmix h0 (.R (.L (.one (.R (.one (.fr 2)))))) (G := (mkG [])) .nil (L := mkL [(2, spec_l6Reach_l2.fr)]) (l := [(2, .loop spec_l6Reach_l2.c)]) ⟨Lam.cons spec_l6Reach_l2.ok, trivial⟩ [0, 3, 4, 5] [3] [(2, ([0, 3, 4], [3]))] ([], []) (fun x s => B x.1.1 x.1.2.2.1 s.1 s.2) (fun x s => ⟨[(0, .pt tFs_ x.1.1), (3, .seg 3 []), (4, .cs I64 x.1.2.2.1), (5, .cs I64 s.1)], [sr 3 (.cd (.sl .bool) s.2)]⟩) (fun x => (x.1.2.2.2.1, x.2.1))
    (fun x s => by simp only [B, mC, mB, mS, mO, mN]; kernel_rfl)
end spec_l6Reach_l1
namespace spec_l6Reach_l0
def c := codeAt (bodyOf Proofs.Tryz.f126) [1, 1, 1, 0, 1, 0, 0]
def sp : SP := ⟨[(0, .pt tFs_), (3, .seg 3 []), (4, .cs I64)], [(3, .reg, .cd (.sl .bool))]⟩
def out (f : Fs_) : FOut (List Bool) := fun b _ k => k (.ex 0) ⟨[(3, .seg 3 [])], [sr 3 (.cd (.sl .bool) b)]⟩
def fr := lfrag sp (fun x => spec_l6Reach_l0 x.1.1 (x.1.2.2.1, x.2.1)) fun x => out x.1.1
theorem ok : CodeOk PR 84 1 (.loop c) fr :=
  lp_ok tbok hmix h0 (.R (.L (.one (.R (.one (.fr 1)))))) (G := (mkG [])) .nil (L := mkL [(2, spec_l6Reach_l2.fr), (1, spec_l6Reach_l1.fr)]) (l := [(1, .loop spec_l6Reach_l1.c)]) ⟨Lam.skip rfl (Lam.cons spec_l6Reach_l1.ok), trivial⟩ [0, 3, 4] [3] [(0, ([3], [3]))] ([], []) (fun x s => B x.1.1 s.1 s.2) (fun x s => ⟨[(0, .pt tFs_ x.1.1), (3, .seg 3 []), (4, .cs I64 s.1)], [sr 3 (.cd (.sl .bool) s.2)]⟩) (fun x => (x.1.2.2.1, x.2.1))
    (fun x s => by simp only [B, mC, mB, mS, mO, mN]; kernel_rfl)
end spec_l6Reach_l0
namespace spec_l6Reach_l3
def c := codeAt (bodyOf Proofs.Tryz.f126) [1, 1, 1, 1, 1, 0, 1, 0, 0]
def sp : SP := ⟨[(3, .seg 3 []), (7, .seg 7 []), (8, .cs I64)], [(3, .reg, .cd (.sl .bool)), (7, .reg, .cd SI)]⟩
def out (o3 : List Bool) : FOut (List Int) := fun b _ k => k (.ex 6) ⟨[(7, .seg 7 [])], [sr 7 (.cd SI b)]⟩
def fr := lfrag sp (fun x => spec_l6Reach_l3 x.2.1 (x.1.2.2.1, x.2.2.1)) fun x => out x.2.1
theorem ok : CodeOk PR 84 1 (.loop c) fr :=
  lp_ok tbok hmix h0 .no (G := (mkG [])) .nil (L := mkL []) (l := []) hT [3, 7, 8] [3, 7] [(6, ([7], [7]))] ([], []) (fun x s => B x.2.1 s.1 s.2) (fun x s => ⟨[(3, .seg 3 []), (7, .seg 7 []), (8, .cs I64 s.1)], [sr 3 (.cd (.sl .bool) x.2.1), sr 7 (.cd SI s.2)]⟩) (fun x => (x.1.2.2.1, x.2.2.1))
    (fun x s => by simp only [B, mC, mB, mS, mO, mN]; kernel_rfl)
end spec_l6Reach_l3
namespace spec_l6Reach
def pts : List PT := [.pt tFs_]
def FS : FS := mkFS [.sh] pts (fun x => spec_l6Reach x.1) fun t => ⟨[.cd SI t], []⟩
theorem ok : FsOk PR 126 FS :=
  fn_ok tbok hmix Proofs.Tryz.f126 h0 (.R (.R (.R (.two (.R (.one (.fr 0))) (.R (.L (.R (.one (.fr 3))))))))) (G := (mkG [])) .nil (L := mkL [(2, spec_l6Reach_l2.fr), (1, spec_l6Reach_l1.fr), (0, spec_l6Reach_l0.fr), (3, spec_l6Reach_l3.fr)]) (l := [(0, .loop spec_l6Reach_l0.c), (3, .loop spec_l6Reach_l3.c)]) ⟨Lam.skip rfl (Lam.skip rfl (Lam.cons spec_l6Reach_l0.ok)), Lam.skip rfl (Lam.skip rfl (Lam.skip rfl (Lam.cons spec_l6Reach_l3.ok))), trivial⟩
    (fun x => by simp only [spec_l6Reach, mC, mB, mS, mO, mN]; kernel_rfl)
end spec_l6Reach
def spec_l5Links_l1.B (list : List Inode_) (at_ : Int) (i_ : Int) (n_2 : Int) (k_ : Int) : Option ((Int × Int) ⊕ (Int)) :=
  cond (inB i_ list.length) ((some (((((((list.getD i_.toNat zInode_).2).2).2).2).1).length : Int)).bind fun v => cond (decide (k_ < v)) (cond (inB i_ list.length) (cond (inB k_ (((((((list.getD i_.toNat zInode_).2).2).2).2).1).length)) ((some (((((((((list.getD i_.toNat zInode_).2).2).2).2).1).getD k_.toNat zEntry_).2).1)).bind fun v2 => cond (v2 == at_) (some (.inl (w64 (n_2 + 1), w64 (k_ + 1)))) (some (.inl (n_2, w64 (k_ + 1))))) (none)) (none)) (some (.inr n_2))) (none)
def spec_l5Links_l1 (list : List Inode_) (at_ : Int) (i_ : Int) : (Int × Int) → Option (Int) :=
  loopL fun s => spec_l5Links_l1.B list at_ i_ s.1 s.2
def spec_l5Links_l0.B (list : List Inode_) (at_ : Int) (n_ : Int) (i_ : Int) : Option ((Int × Int) ⊕ (Int)) :=
  cond (decide (i_ < (list.length : Int))) ((spec_l5Links_l1 list at_ i_ (n_, 0)).bind fun o => some (.inl (o, w64 (i_ + 1)))) (some (.inr n_))
def spec_l5Links_l0 (list : List Inode_) (at_ : Int) : (Int × Int) → Option (Int) :=
  loopL fun s => spec_l5Links_l0.B list at_ s.1 s.2
def spec_l5Links (list : List Inode_) (at_ : Int) : Option (Int) :=
  (spec_l5Links_l0 list at_ (0, 0)).bind fun o2 => some o2
namespace spec_l5Links_l1
def c := codeAt (bodyOf Proofs.Tryz.f127) [1, 1, 0, 1, 0, 0, 1, 0, 0, 1, 0, 0]
def sp : SP := ⟨[(0, .cs (.sl tInode_)), (1, .cs I64), (5, .cs I64), (6, .cs I64), (7, .cs I64)], []⟩
def out (list : List Inode_) (at_ : Int) (i_ : Int) : FOut (Int) := fun b _ k => k (.ex 2) ⟨[(0, .cs (.sl tInode_) list), (1, .cs I64 at_), (5, .cs I64 b), (6, .cs I64 i_)], []⟩
def fr := lfrag sp (fun x => spec_l5Links_l1 x.1.1 x.1.2.1 x.1.2.2.2.1 (x.1.2.2.1, x.1.2.2.2.2.1)) fun x => out x.1.1 x.1.2.1 x.1.2.2.2.1
theorem ok : CodeOk PR 38 2 (.loop c) fr :=
  lp_ok tbok hmix h0 .no (G := (mkG [])) .nil (L := mkL []) (l := []) hT [0, 1, 5, 6, 7] [] [(2, ([0, 1, 5, 6], []))] ([], []) (fun x s => B x.1.1 x.1.2.1 x.1.2.2.2.1 s.1 s.2) (fun x s => ⟨[(0, .cs (.sl tInode_) x.1.1), (1, .cs I64 x.1.2.1), (5, .cs I64 s.1), (6, .cs I64 x.1.2.2.2.1), (7, .cs I64 s.2)], []⟩) (fun x => (x.1.2.2.1, x.1.2.2.2.2.1))
    (fun x s => by simp only [B, mC, mB, mS, mO, mN]; kernel_rfl)
end spec_l5Links_l1
namespace spec_l5Links_l0
def c := codeAt (bodyOf Proofs.Tryz.f127) [1, 1, 0, 1, 0, 0]
def sp : SP := ⟨[(0, .cs (.sl tInode_)), (1, .cs I64), (5, .cs I64), (6, .cs I64)], []⟩
def out (list : List Inode_) (at_ : Int) : FOut (Int) := fun b _ k => k (.ex 0) ⟨[(5, .cs I64 b)], []⟩
def fr := lfrag sp (fun x => spec_l5Links_l0 x.1.1 x.1.2.1 (x.1.2.2.1, x.1.2.2.2.1)) fun x => out x.1.1 x.1.2.1
theorem ok : CodeOk PR 38 2 (.loop c) fr :=
  lp_ok tbok hmix h0 (.R (.L (.one (.R (.one (.fr 1)))))) (G := (mkG [])) .nil (L := mkL [(1, spec_l5Links_l1.fr)]) (l := [(1, .loop spec_l5Links_l1.c)]) ⟨Lam.cons spec_l5Links_l1.ok, trivial⟩ [0, 1, 5, 6] [] [(0, ([5], []))] ([], []) (fun x s => B x.1.1 x.1.2.1 s.1 s.2) (fun x s => ⟨[(0, .cs (.sl tInode_) x.1.1), (1, .cs I64 x.1.2.1), (5, .cs I64 s.1), (6, .cs I64 s.2)], []⟩) (fun x => (x.1.2.2.1, x.1.2.2.2.1))
    (fun x s => by simp only [B, mC, mB, mS, mO, mN]; kernel_rfl)
end spec_l5Links_l0
namespace spec_l5Links
def pts : List PT := [.cs (.sl tInode_), .cs I64]
def FS : FS := mkFS [.sh, .sh] pts (fun x => spec_l5Links x.1 x.2.1) fun t => ⟨[.cs I64 t], []⟩
theorem ok : FsOk PR 127 FS :=
  fn_ok tbok hmix Proofs.Tryz.f127 h0 (.R (.R (.L (.R (.one (.fr 0)))))) (G := (mkG [])) .nil (L := mkL [(1, spec_l5Links_l1.fr), (0, spec_l5Links_l0.fr)]) (l := [(0, .loop spec_l5Links_l0.c)]) ⟨Lam.skip rfl (Lam.cons spec_l5Links_l0.ok), trivial⟩
    (fun x => by simp only [spec_l5Links, mC, mB, mS, mO, mN]; kernel_rfl)
end spec_l5Links
def spec_l5Among_l0.B (list : List Int) (v : Int) (i_ : Int) : Option ((Int) ⊕ (((Bool) ⊕ (Unit)))) :=
  cond (decide (i_ < (list.length : Int))) (cond (inB i_ list.length) (cond ((list.getD i_.toNat 0) == v) (some (.inr (.inl true))) (some (.inl (w64 (i_ + 1))))) (none)) (some (.inr (.inr ())))
def spec_l5Among_l0 (list : List Int) (v : Int) : (Int) → Option (((Bool) ⊕ (Unit))) :=
  loopL fun s => spec_l5Among_l0.B list v s
def spec_l5Among (list : List Int) (v : Int) : Option (Bool) :=
  (spec_l5Among_l0 list v 0).bind fun o => sel o (fun b => some b) (fun c => some false)
namespace spec_l5Among_l0
def c := codeAt (bodyOf Proofs.Tryz.f85) [1, 0, 1, 0, 0]
def sp : SP := ⟨[(0, .cs SI), (1, .cs I64), (5, .cs I64)], []⟩
def out (list : List Int) (v : Int) : FOut (((Bool) ⊕ (Unit))) := fun o _ k => sel o (fun b => k (.rt) ⟨[(4, .cs .bool b)], []⟩) (fun c => k (.ex 0) ⟨[], []⟩)
def fr := lfrag sp (fun x => spec_l5Among_l0 x.1.1 x.1.2.1 x.1.2.2.1) fun x => out x.1.1 x.1.2.1
theorem ok : CodeOk PR 18 2 (.loop c) fr :=
  lp_ok tbok hmix h0 .no (G := (mkG [])) .nil (L := mkL []) (l := []) hT [0, 1, 5] [] [(0, ([], []))] ([4], []) (fun x s => B x.1.1 x.1.2.1 s) (fun x s => ⟨[(0, .cs SI x.1.1), (1, .cs I64 x.1.2.1), (5, .cs I64 s)], []⟩) (fun x => x.1.2.2.1)
    (fun x s => by simp only [B, mC, mB, mS, mO, mN]; kernel_rfl)
end spec_l5Among_l0
namespace spec_l5Among
def pts : List PT := [.cs SI, .cs I64]
def FS : FS := mkFS [.sh, .sh] pts (fun x => spec_l5Among x.1 x.2.1) fun t => ⟨[.cs .bool t], []⟩
theorem ok : FsOk PR 85 FS :=
  fn_ok tbok hmix Proofs.Tryz.f85 h0 (.R (.L (.R (.one (.fr 0))))) (G := (mkG [])) .nil (L := mkL [(0, spec_l5Among_l0.fr)]) (l := [(0, .loop spec_l5Among_l0.c)]) ⟨Lam.cons spec_l5Among_l0.ok, trivial⟩
    (fun x => by simp only [spec_l5Among, mC, mB, mS, mO, mN]; kernel_rfl)
end spec_l5Among
def spec_l6Links_l0.B (f : Fs_) (r : List Int) (i_ : Int) : Option ((Int) ⊕ (((Bool) ⊕ (Unit)))) :=
  cond (decide (i_ < (f.1.length : Int))) (cond (inB i_ f.1.length) ((spec_l5Links f.1 i_).bind fun r2 => cond (((f.1.getD i_.toNat zInode_).1) == 0) (some (.inl (w64 (i_ + 1)))) (cond (((f.1.getD i_.toNat zInode_).1) == 1) (cond (r2 != (((f.1.getD i_.toNat zInode_).2).1)) (some (.inr (.inl false))) ((spec_l5Among r i_).bind fun r3 => cond (!r3) (some (.inr (.inl false))) (some (.inl (w64 (i_ + 1)))))) (cond (i_ == 0) (cond (r2 != 0) (some (.inr (.inl false))) ((spec_l5Among r i_).bind fun r4 => cond (!r4) (some (.inr (.inl false))) (some (.inl (w64 (i_ + 1)))))) (cond (r2 != 1) (some (.inr (.inl false))) ((spec_l5Among r i_).bind fun r5 => cond (!r5) (some (.inr (.inl false))) (some (.inl (w64 (i_ + 1))))))))) (none)) (some (.inr (.inr ())))
def spec_l6Links_l0 (f : Fs_) (r : List Int) : (Int) → Option (((Bool) ⊕ (Unit))) :=
  loopL fun s => spec_l6Links_l0.B f r s
def spec_l6Links (f : Fs_) : Option (Bool) :=
  (spec_l6Reach f).bind fun r => (spec_l6Links_l0 f r 0).bind fun o => sel o (fun b => some b) (fun c => some true)
namespace spec_l6Links
def G : Gam := mkG [(126, spec_l6Reach.FS), (127, spec_l5Links.FS), (85, spec_l5Among.FS)]
theorem Gok : GOk PR G := .cons spec_l6Reach.ok (.cons spec_l5Links.ok (.cons spec_l5Among.ok .nil))
end spec_l6Links
namespace spec_l6Links_l0
def c := codeAt (bodyOf Proofs.Tryz.f81) [1, 1, 0, 1, 0, 0]
def sp : SP := ⟨[(0, .pt tFs_), (3, .seg 3 []), (4, .cs I64)], [(3, .reg, .cd SI)]⟩
def out (f : Fs_) (r : List Int) : FOut (((Bool) ⊕ (Unit))) := fun o _ k => sel o (fun b => k (.rt) ⟨[(2, .cs .bool b)], []⟩) (fun c => k (.ex 0) ⟨[], []⟩)
def fr := lfrag sp (fun x => spec_l6Links_l0 x.1.1 x.2.1 x.1.2.2.1) fun x => out x.1.1 x.2.1
theorem ok : CodeOk PR 59 1 (.loop c) fr :=
  lp_ok tbok hmix h0 .no (G := spec_l6Links.G) spec_l6Links.Gok (L := mkL []) (l := []) hT [0, 3, 4] [3] [(0, ([], []))] ([2], []) (fun x s => B x.1.1 x.2.1 s) (fun x s => ⟨[(0, .pt tFs_ x.1.1), (3, .seg 3 []), (4, .cs I64 s)], [sr 3 (.cd SI x.2.1)]⟩) (fun x => x.1.2.2.1)
    (fun x s => by simp only [B, mC, mB, mS, mO, mN]; kernel_rfl)
end spec_l6Links_l0
namespace spec_l6Links
def pts : List PT := [.pt tFs_]
def FS : FS := mkFS [.sh] pts (fun x => spec_l6Links x.1) fun t => ⟨[.cs .bool t], []⟩
theorem ok : FsOk PR 81 FS :=
  fn_ok tbok hmix Proofs.Tryz.f81 h0 (.R (.R (.L (.R (.one (.fr 0)))))) (G := G) Gok (L := mkL [(0, spec_l6Links_l0.fr)]) (l := [(0, .loop spec_l6Links_l0.c)]) ⟨Lam.cons spec_l6Links_l0.ok, trivial⟩
    (fun x => by simp only [spec_l6Links, mC, mB, mS, mO, mN]; kernel_rfl)
end spec_l6Links
def spec_l1Min (a : Int) (b : Int) : Option (Int) :=
  cond (decide (a < b)) (some a) (some b)
namespace spec_l1Min
def pts : List PT := [.cs I64, .cs I64]
def FS : FS := mkFS [.sh, .sh] pts (fun x => spec_l1Min x.1 x.2.1) fun t => ⟨[.cs I64 t], []⟩
theorem ok : FsOk PR 115 FS :=
  fn_ok tbok hmix Proofs.Tryz.f115 h0 .no (G := (mkG [])) .nil (L := mkL []) (l := []) hT
    (fun x => by simp only [spec_l1Min, mC, mB, mS, mO, mN]; kernel_rfl)
end spec_l1Min
def spec_l6Sizes_l1.B (f : Fs_) (i_ : Int) (x_ : Inode_) (k_ : Int) (want_2 : List Int) : Option ((Int × List Int) ⊕ (List Int)) :=
  cond (decide (k_ < (x_.2.2.2.1.length : Int))) (cond (inB k_ x_.2.2.2.1.length) ((spec_l1Min 8 (w64 (x_.2.2.1 - (w64 (k_ * 8))))).bind fun r => cond (inB (x_.2.2.2.1.getD k_.toNat 0) want_2.length) ((some (want_2.set ((x_.2.2.2.1.getD k_.toNat 0).toNat) r)).bind fun want_3 => some (.inl (w64 (k_ + 1), want_3))) (none)) (none)) (some (.inr want_2))
def spec_l6Sizes_l1 (f : Fs_) (i_ : Int) (x_ : Inode_) : (Int × List Int) → Option (List Int) :=
  loopL fun s => spec_l6Sizes_l1.B f i_ x_ s.1 s.2
def spec_l6Sizes_l0.B (f : Fs_) (i_ : Int) (want_ : List Int) : Option ((Int × List Int) ⊕ (List Int)) :=
  cond (decide (i_ < (f.1.length : Int))) (cond (inB i_ f.1.length) ((spec_l6Sizes_l1 f i_ (f.1.getD i_.toNat zInode_) (0, want_)).bind fun o => some (.inl (w64 (i_ + 1), o))) (none)) (some (.inr want_))
def spec_l6Sizes_l0 (f : Fs_) : (Int × List Int) → Option (List Int) :=
  loopL fun s => spec_l6Sizes_l0.B f s.1 s.2
def spec_l6Sizes_l2.B (f : Fs_) (o2 : List Int) (i_2 : Int) : Option ((Int) ⊕ (((Bool) ⊕ (Unit)))) :=
  cond (decide (i_2 < (f.2.1.length : Int))) (cond (inB i_2 f.2.1.length) (cond (inB i_2 o2.length) ((some (((f.2.1.getD i_2.toNat []).length : Int) != (o2.getD i_2.toNat 0))).bind fun v => cond v (some (.inr (.inl false))) (some (.inl (w64 (i_2 + 1))))) (none)) (none)) (some (.inr (.inr ())))
def spec_l6Sizes_l2 (f : Fs_) (o2 : List Int) : (Int) → Option (((Bool) ⊕ (Unit))) :=
  loopL fun s => spec_l6Sizes_l2.B f o2 s
def spec_l6Sizes (f : Fs_) : Option (Bool) :=
  cond (decide ((0 : Int) ≤ (20 : Int)) && (decide ((20 : Int) ≤ (20 : Int)) && decide ((20 : Int) ≤ 2147483648))) ((spec_l6Sizes_l0 f (0, List.replicate (20 : Int).toNat 0)).bind fun o2 => (spec_l6Sizes_l2 f o2 0).bind fun o3 => sel o3 (fun b => some b) (fun c => some true)) (none)
namespace spec_l6Sizes
def G : Gam := mkG [(115, spec_l1Min.FS)]
theorem Gok : GOk PR G := .cons spec_l1Min.ok .nil
end spec_l6Sizes
namespace spec_l6Sizes_l1
def c := codeAt (bodyOf Proofs.Tryz.f82) [1, 1, 0, 1, 0, 0, 1, 0, 0, 1, 1, 0, 0]
def sp : SP := ⟨[(0, .pt tFs_), (3, .seg 3 []), (4, .cs I64), (5, .pt tInode_), (6, .cs I64)], [(3, .reg, .cd SI)]⟩
def out (f : Fs_) (i_ : Int) (x_ : Inode_) : FOut (List Int) := fun b _ k => k (.ex 2) ⟨[(0, .pt tFs_ f), (3, .seg 3 []), (4, .cs I64 i_)], [sr 3 (.cd SI b)]⟩
def fr := lfrag sp (fun x => spec_l6Sizes_l1 x.1.1 x.1.2.2.1 x.1.2.2.2.1 (x.1.2.2.2.2.1, x.2.1)) fun x => out x.1.1 x.1.2.2.1 x.1.2.2.2.1
theorem ok : CodeOk PR 72 1 (.loop c) fr :=
  lp_ok tbok hmix h0 .no (G := spec_l6Sizes.G) spec_l6Sizes.Gok (L := mkL []) (l := []) hT [0, 3, 4, 5, 6] [3] [(2, ([0, 3, 4], [3]))] ([], []) (fun x s => B x.1.1 x.1.2.2.1 x.1.2.2.2.1 s.1 s.2) (fun x s => ⟨[(0, .pt tFs_ x.1.1), (3, .seg 3 []), (4, .cs I64 x.1.2.2.1), (5, .pt tInode_ x.1.2.2.2.1), (6, .cs I64 s.1)], [sr 3 (.cd SI s.2)]⟩) (fun x => (x.1.2.2.2.2.1, x.2.1))
    (fun x s => by simp only [B, mC, mB, mS, mO, mN]; kernel_rfl)
end spec_l6Sizes_l1
namespace spec_l6Sizes_l0
def c := codeAt (bodyOf Proofs.Tryz.f82) [1, 1, 0, 1, 0, 0]
def sp : SP := ⟨[(0, .pt tFs_), (3, .seg 3 []), (4, .cs I64)], [(3, .reg, .cd SI)]⟩
def out (f : Fs_) : FOut (List Int) := fun b _ k => k (.ex 0) ⟨[(0, .pt tFs_ f), (3, .seg 3 [])], [sr 3 (.cd SI b)]⟩
def fr := lfrag sp (fun x => spec_l6Sizes_l0 x.1.1 (x.1.2.2.1, x.2.1)) fun x => out x.1.1
theorem ok : CodeOk PR 72 1 (.loop c) fr :=
  lp_ok tbok hmix h0 (.R (.L (.one (.R (.R (.one (.fr 1))))))) (G := spec_l6Sizes.G) spec_l6Sizes.Gok (L := mkL [(1, spec_l6Sizes_l1.fr)]) (l := [(1, .loop spec_l6Sizes_l1.c)]) ⟨Lam.cons spec_l6Sizes_l1.ok, trivial⟩ [0, 3, 4] [3] [(0, ([0, 3], [3]))] ([], []) (fun x s => B x.1.1 s.1 s.2) (fun x s => ⟨[(0, .pt tFs_ x.1.1), (3, .seg 3 []), (4, .cs I64 s.1)], [sr 3 (.cd SI s.2)]⟩) (fun x => (x.1.2.2.1, x.2.1))
    (fun x s => by simp only [B, mC, mB, mS, mO, mN]; kernel_rfl)
end spec_l6Sizes_l0
namespace spec_l6Sizes_l2
def c := codeAt (bodyOf Proofs.Tryz.f82) [1, 1, 1, 0, 1, 0, 0]
def sp : SP := ⟨[(0, .pt tFs_), (3, .seg 3 []), (7, .cs I64)], [(3, .reg, .cd SI)]⟩
def out (f : Fs_) (o2 : List Int) : FOut (((Bool) ⊕ (Unit))) := fun o _ k => sel o (fun b => k (.rt) ⟨[(2, .cs .bool b)], []⟩) (fun c => k (.ex 4) ⟨[], []⟩)
def fr := lfrag sp (fun x => spec_l6Sizes_l2 x.1.1 x.2.1 x.1.2.2.1) fun x => out x.1.1 x.2.1
theorem ok : CodeOk PR 72 1 (.loop c) fr :=
  lp_ok tbok hmix h0 .no (G := spec_l6Sizes.G) spec_l6Sizes.Gok (L := mkL []) (l := []) hT [0, 3, 7] [3] [(4, ([], []))] ([2], []) (fun x s => B x.1.1 x.2.1 s) (fun x s => ⟨[(0, .pt tFs_ x.1.1), (3, .seg 3 []), (7, .cs I64 s)], [sr 3 (.cd SI x.2.1)]⟩) (fun x => x.1.2.2.1)
    (fun x s => by simp only [B, mC, mB, mS, mO, mN]; kernel_rfl)
end spec_l6Sizes_l2
namespace spec_l6Sizes
def pts : List PT := [.pt tFs_]
def FS : FS := mkFS [.sh] pts (fun x => spec_l6Sizes x.1) fun t => ⟨[.cs .bool t], []⟩
theorem ok : FsOk PR 82 FS :=
  fn_ok tbok hmix Proofs.Tryz.f82 h0 (.R (.R (.two (.R (.one (.fr 0))) (.L (.R (.one (.fr 2))))))) (G := G) Gok (L := mkL [(1, spec_l6Sizes_l1.fr), (0, spec_l6Sizes_l0.fr), (2, spec_l6Sizes_l2.fr)]) (l := [(0, .loop spec_l6Sizes_l0.c), (2, .loop spec_l6Sizes_l2.c)]) ⟨Lam.skip rfl (Lam.cons spec_l6Sizes_l0.ok), Lam.skip rfl (Lam.skip rfl (Lam.cons spec_l6Sizes_l2.ok)), trivial⟩
    (fun x => by simp only [spec_l6Sizes, mC, mB, mS, mO, mN]; kernel_rfl)
end spec_l6Sizes
def spec_l6Fault (f : Fs_) : Option (Int) :=
  (spec_l6Entries f).bind fun r => cond (r != 0) (some r) ((spec_l6Links f).bind fun r2 => cond (!r2) (some 1) ((spec_l6Sizes f).bind fun r3 => cond (!r3) (some 1) (some 0)))
namespace spec_l6Fault
def G : Gam := mkG [(69, spec_l6Entries.FS), (81, spec_l6Links.FS), (82, spec_l6Sizes.FS)]
def pts : List PT := [.pt tFs_]
def FS : FS := mkFS [.sh] pts (fun x => spec_l6Fault x.1) fun t => ⟨[.cs I64 t], []⟩
theorem ok : FsOk PR 40 FS :=
  fn_ok tbok hmix Proofs.Tryz.f40 h0 .no (G := G) (show GOk PR G from .cons spec_l6Entries.ok (.cons spec_l6Links.ok (.cons spec_l6Sizes.ok .nil))) (L := mkL []) (l := []) hT
    (fun x => by simp only [spec_l6Fault, mC, mB, mS, mO, mN]; kernel_rfl)
end spec_l6Fault
def spec_l12Data_l1.B (f : Fs_) (i_ : Int) (out_ : List Put_) (v : List Int) (v2 : Bool) (v3 : Unit) (k_ : Int) (p_ : Put_) : Option ((Int × Put_) ⊕ (Put_)) :=
  cond (inB i_ v.length) (cond (inB (v.getD i_.toNat 0) f.2.1.length) ((some ((f.2.1.getD (v.getD i_.toNat 0).toNat []).length : Int)).bind fun v4 => cond (decide (k_ < v4)) (cond (inB i_ v.length) (cond (inB (v.getD i_.toNat 0) f.2.1.length) (cond (inB k_ ((f.2.1.getD (v.getD i_.toNat 0).toNat []).length)) ((some ((f.2.1.getD (v.getD i_.toNat 0).toNat []).getD k_.toNat 0)).bind fun v5 => cond (decide ((p_.2.1 ++ ([w64 (v5)])).length ≤ 2147483648)) (some (.inl (w64 (k_ + 1), (p_.1, p_.2.1 ++ ([w64 (v5)]), p_.2.2)))) (none)) (none)) (none)) (none)) (some (.inr p_))) (none)) (none)
def spec_l12Data_l1 (f : Fs_) (i_ : Int) (out_ : List Put_) (v : List Int) (v2 : Bool) (v3 : Unit) : (Int × Put_) → Option (Put_) :=
  loopL fun s => spec_l12Data_l1.B f i_ out_ v v2 v3 s.1 s.2
def spec_l12Data_l0.B (f : Fs_) (v : List Int) (v2 : Bool) (v3 : Unit) (i_ : Int) (out_ : List Put_) : Option ((Int × List Put_) ⊕ (List Put_)) :=
  cond (decide (i_ < (v.length : Int))) (cond (inB i_ v.length) ((spec_l12Data_l1 f i_ out_ v v2 v3 (0, (w64 ((27 : Int) + (v.getD i_.toNat 0)), [], ()))).bind fun o => cond (decide ((out_ ++ ([(o.1, o.2.1, o.2.2)])).length ≤ 2147483648)) (some (.inl (w64 (i_ + 1), out_ ++ ([(o.1, o.2.1, o.2.2)])))) (none)) (none)) (some (.inr out_))
def spec_l12Data_l0 (f : Fs_) (v : List Int) (v2 : Bool) (v3 : Unit) : (Int × List Put_) → Option (List Put_) :=
  loopL fun s => spec_l12Data_l0.B f v v2 v3 s.1 s.2
def spec_l12Data (f : Fs_) : Option (List Put_) :=
  (spec_l5Used f.1).bind fun r => (spec_l12Data_l0 f r.1 r.2 () (0, [])).bind fun o2 => some o2
namespace spec_l12Data
def G : Gam := mkG [(51, spec_l5Used.FS)]
theorem Gok : GOk PR G := .cons spec_l5Used.ok .nil
end spec_l12Data
namespace spec_l12Data_l1
def c := codeAt (bodyOf Proofs.Tryz.f57) [1, 1, 1, 0, 1, 0, 0, 1, 0, 0, 1, 0, 1, 0, 0]
def sp : SP := ⟨[(0, .pt tFs_), (3, .seg 3 []), (4, .seg 15 [.f1]), (6, .cs I64), (7, .loc 7 []), (8, .cs I64)], [(3, .reg, .cd (.sl tPut_)), (7, .mem, .cd tPut_), (15, .reg, .pr (.cd SI) (.pr (.cs .bool) (.cs .unit)))]⟩
def out (f : Fs_) (i_ : Int) (out_ : List Put_) (v : List Int) (v2 : Bool) (v3 : Unit) : FOut (Put_) := fun b _ k => k (.ex 2) ⟨[(0, .pt tFs_ f), (3, .seg 3 []), (4, .seg 15 [.f1]), (6, .cs I64 i_), (7, .loc 7 [])], [sr 3 (.cd (.sl tPut_) out_), (7, some ⟨.mem, .cd tPut_ b⟩), (15, some ⟨.reg, .pr (.cd SI v) (.pr (.cs .bool v2) (.cs .unit v3))⟩)]⟩
def fr := lfrag sp (fun x => spec_l12Data_l1 x.1.1 x.1.2.2.2.1 x.2.1 x.2.2.2.1.1 x.2.2.2.1.2.1 x.2.2.2.1.2.2 (x.1.2.2.2.2.2.1, x.2.2.1)) fun x => out x.1.1 x.1.2.2.2.1 x.2.1 x.2.2.2.1.1 x.2.2.2.1.2.1 x.2.2.2.1.2.2
theorem ok : CodeOk PR 69 1 (.loop c) fr :=
  lp_ok tbok hmix h0 .no (G := spec_l12Data.G) spec_l12Data.Gok (L := mkL []) (l := []) hT [0, 3, 4, 6, 7, 8] [3, 7, 15] [(2, ([0, 3, 4, 6, 7], [3, 7, 15]))] ([], []) (fun x s => B x.1.1 x.1.2.2.2.1 x.2.1 x.2.2.2.1.1 x.2.2.2.1.2.1 x.2.2.2.1.2.2 s.1 s.2) (fun x s => ⟨[(0, .pt tFs_ x.1.1), (3, .seg 3 []), (4, .seg 15 [.f1]), (6, .cs I64 x.1.2.2.2.1), (7, .loc 7 []), (8, .cs I64 s.1)], [sr 3 (.cd (.sl tPut_) x.2.1), (7, some ⟨.mem, .cd tPut_ s.2⟩), (15, some ⟨.reg, .pr (.cd SI x.2.2.2.1.1) (.pr (.cs .bool x.2.2.2.1.2.1) (.cs .unit x.2.2.2.1.2.2))⟩)]⟩) (fun x => (x.1.2.2.2.2.2.1, x.2.2.1))
    (fun x s => by simp only [B, mC, mB, mS, mO, mN]; kernel_rfl)
end spec_l12Data_l1
namespace spec_l12Data_l0
def c := codeAt (bodyOf Proofs.Tryz.f57) [1, 1, 1, 0, 1, 0, 0]
def sp : SP := ⟨[(0, .pt tFs_), (3, .seg 3 []), (4, .seg 15 [.f1]), (6, .cs I64)], [(3, .reg, .cd (.sl tPut_)), (15, .reg, .pr (.cd SI) (.pr (.cs .bool) (.cs .unit)))]⟩
def out (f : Fs_) (v : List Int) (v2 : Bool) (v3 : Unit) : FOut (List Put_) := fun b _ k => k (.ex 0) ⟨[(3, .seg 3 [])], [sr 3 (.cd (.sl tPut_) b)]⟩
def fr := lfrag sp (fun x => spec_l12Data_l0 x.1.1 x.2.2.1.1 x.2.2.1.2.1 x.2.2.1.2.2 (x.1.2.2.2.1, x.2.1)) fun x => out x.1.1 x.2.2.1.1 x.2.2.1.2.1 x.2.2.1.2.2
theorem ok : CodeOk PR 69 1 (.loop c) fr :=
  lp_ok tbok hmix h0 (.R (.L (.one (.R (.L (.R (.one (.fr 1)))))))) (G := spec_l12Data.G) spec_l12Data.Gok (L := mkL [(1, spec_l12Data_l1.fr)]) (l := [(1, .loop spec_l12Data_l1.c)]) ⟨Lam.cons spec_l12Data_l1.ok, trivial⟩ [0, 3, 4, 6] [3, 15] [(0, ([3], [3]))] ([], []) (fun x s => B x.1.1 x.2.2.1.1 x.2.2.1.2.1 x.2.2.1.2.2 s.1 s.2) (fun x s => ⟨[(0, .pt tFs_ x.1.1), (3, .seg 3 []), (4, .seg 15 [.f1]), (6, .cs I64 s.1)], [sr 3 (.cd (.sl tPut_) s.2), (15, some ⟨.reg, .pr (.cd SI x.2.2.1.1) (.pr (.cs .bool x.2.2.1.2.1) (.cs .unit x.2.2.1.2.2))⟩)]⟩) (fun x => (x.1.2.2.2.1, x.2.1))
    (fun x s => by simp only [B, mC, mB, mS, mO, mN]; kernel_rfl)
end spec_l12Data_l0
namespace spec_l12Data
def pts : List PT := [.pt tFs_]
def FS : FS := mkFS [.sh] pts (fun x => spec_l12Data x.1) fun t => ⟨[.cd (.sl tPut_) t], []⟩
theorem ok : FsOk PR 57 FS :=
  fn_ok tbok hmix Proofs.Tryz.f57 h0 (.R (.R (.R (.L (.R (.one (.fr 0))))))) (G := G) Gok (L := mkL [(1, spec_l12Data_l1.fr), (0, spec_l12Data_l0.fr)]) (l := [(0, .loop spec_l12Data_l0.c)]) ⟨Lam.skip rfl (Lam.cons spec_l12Data_l0.ok), trivial⟩
    (fun x => by simp only [spec_l12Data, mC, mB, mS, mO, mN]; kernel_rfl)
end spec_l12Data
def spec_DataPuts (f : Fs_) : Option (PutsResult_) :=
  (spec_l6Fault f).bind fun r => cond (r != 0) (some (r, [], ())) ((spec_l12Data f).bind fun r2 => some (0, r2, ()))
namespace spec_DataPuts
def G : Gam := mkG [(40, spec_l6Fault.FS), (57, spec_l12Data.FS)]
def pts : List PT := [.cs tFs_]
def FS : FS := mkFS [.sh] pts (fun x => spec_DataPuts x.1) fun t => ⟨[.cd tPutsResult_ t], []⟩
theorem ok : FsOk PR 22 FS :=
  fn_ok tbok hmix Proofs.Tryz.f22 ⟨[1], [], [], 0⟩ .no (G := G) (show GOk PR G from .cons spec_l6Fault.ok (.cons spec_l12Data.ok .nil)) (L := mkL []) (l := []) hT
    (fun x => by simp only [spec_DataPuts, mC, mB, mS, mO, mN]; kernel_rfl)
end spec_DataPuts
def impl_within (n : Int) (low : Int) (high : Int) : Option (Bool) :=
  (some (cond (decide (n ≥ low)) (decide (n ≤ high)) false)).bind fun v => some v
namespace impl_within
def pts : List PT := [.cs I64, .cs I64, .cs I64]
def FS : FS := mkFS [.sh, .sh, .sh] pts (fun x => impl_within x.1 x.2.1 x.2.2.1) fun t => ⟨[.cs .bool t], []⟩
theorem ok : FsOk PR 90 FS :=
  fn_ok tbok hmix Proofs.Tryz.f90 h0 .no (G := (mkG [])) .nil (L := mkL []) (l := []) hT
    (fun x => by simp only [impl_within, mC, mB, mS, mO, mN]; kernel_rfl)
end impl_within
def impl_size_int64 (l : List Int) : Option (Int) :=
  some (l.length : Int)
namespace impl_size_int64
def pts : List PT := [.cs SI]
def FS : FS := mkFS [.sh] pts (fun x => impl_size_int64 x.1) fun t => ⟨[.cs I64 t], []⟩
theorem ok : FsOk PR 47 FS :=
  fn_ok tbok hmix Proofs.Tryz.f47 h0 .no (G := (mkG [])) .nil (L := mkL []) (l := []) hT
    (fun x => by simp only [impl_size_int64, mC, mB, mS, mO, mN]; kernel_rfl)
end impl_size_int64
def impl_blocksFor (size : Int) : Option (Int) :=
  cond (!((8 : Int) == 0)) (some (w64 ((w64 ((w64 (size + 8)) - 1)).tdiv 8))) (none)
namespace impl_blocksFor
def pts : List PT := [.cs I64]
def FS : FS := mkFS [.sh] pts (fun x => impl_blocksFor x.1) fun t => ⟨[.cs I64 t], []⟩
theorem ok : FsOk PR 182 FS :=
  fn_ok tbok hmix Proofs.Tryz.f182 h0 .no (G := (mkG [])) .nil (L := mkL []) (l := []) hT
    (fun x => by simp only [impl_blocksFor, mC, mB, mS, mO, mN]; kernel_rfl)
end impl_blocksFor
def impl_fileFault_c1 (b : Int) : Option (Bool) :=
  (impl_within b 0 19).bind fun r => some (!r)
namespace impl_fileFault_c1
def G : Gam := mkG [(90, impl_within.FS)]
def pts : List PT := [.cs I64]
def FS : FS := mkFS [.sh] pts (fun x => impl_fileFault_c1 x.1) fun t => ⟨[.cs .bool t], []⟩
theorem ok : FsOk PR 183 FS :=
  fn_ok tbok hmix Proofs.Tryz.f183 h0 .no (G := G) (show GOk PR G from .cons impl_within.ok .nil) (L := mkL []) (l := []) hT
    (fun x => by simp only [impl_fileFault_c1, mC, mB, mS, mO, mN]; kernel_rfl)
end impl_fileFault_c1
def slices_IndexFunc_int64_fileFault_c1_l0.B (s_ : List Int) (f : Unit) (v : Int) (v2 : Int) : Option ((Int) ⊕ (((Int) ⊕ (Unit)))) :=
  cond (decide (v2 < v)) (cond (inB v2 s_.length) ((impl_fileFault_c1 (s_.getD v2.toNat 0)).bind fun r => cond r (some (.inr (.inl v2))) (some (.inl (w64 (v2 + 1))))) (none)) (some (.inr (.inr ())))
def slices_IndexFunc_int64_fileFault_c1_l0 (s_ : List Int) (f : Unit) (v : Int) : (Int) → Option (((Int) ⊕ (Unit))) :=
  loopL fun s => slices_IndexFunc_int64_fileFault_c1_l0.B s_ f v s
def slices_IndexFunc_int64_fileFault_c1 (s_ : List Int) (f : Unit) : Option (Int) :=
  (slices_IndexFunc_int64_fileFault_c1_l0 s_ f (s_.length : Int) 0).bind fun o => sel o (fun b => some b) (fun c => some (-1))
namespace slices_IndexFunc_int64_fileFault_c1
def G : Gam := mkG [(183, impl_fileFault_c1.FS)]
theorem Gok : GOk PR G := .cons impl_fileFault_c1.ok .nil
end slices_IndexFunc_int64_fileFault_c1
namespace slices_IndexFunc_int64_fileFault_c1_l0
def c := codeAt (bodyOf Proofs.Tryz.f129) [1, 0, 1, 0, 0]
def sp : SP := ⟨[(0, .cs SI), (1, .clo 183 (.cs .unit)), (7, .cs I64), (8, .cs I64)], []⟩
def out (s_ : List Int) (f : Unit) (v : Int) : FOut (((Int) ⊕ (Unit))) := fun o _ k => sel o (fun b => k (.rt) ⟨[(4, .cs I64 b)], []⟩) (fun c => k (.ex 0) ⟨[], []⟩)
def fr := lfrag sp (fun x => slices_IndexFunc_int64_fileFault_c1_l0 x.1.1 x.1.2.1 x.1.2.2.1 x.1.2.2.2.1) fun x => out x.1.1 x.1.2.1 x.1.2.2.1
theorem ok : CodeOk PR 19 2 (.loop c) fr :=
  lp_ok tbok hmix h0 .no (G := slices_IndexFunc_int64_fileFault_c1.G) slices_IndexFunc_int64_fileFault_c1.Gok (L := mkL []) (l := []) hT [0, 1, 7, 8] [] [(0, ([], []))] ([4], []) (fun x s => B x.1.1 x.1.2.1 x.1.2.2.1 s) (fun x s => ⟨[(0, .cs SI x.1.1), (1, .clo 183 (.cs .unit x.1.2.1)), (7, .cs I64 x.1.2.2.1), (8, .cs I64 s)], []⟩) (fun x => x.1.2.2.2.1)
    (fun x s => by simp only [B, mC, mB, mS, mO, mN]; kernel_rfl)
end slices_IndexFunc_int64_fileFault_c1_l0
namespace slices_IndexFunc_int64_fileFault_c1
def pts : List PT := [.cs SI, .clo 183 (.cs .unit)]
def FS : FS := mkFS [.sh, .sh] pts (fun x => slices_IndexFunc_int64_fileFault_c1 x.1 x.2.1) fun t => ⟨[.cs I64 t], []⟩
theorem ok : FsOk PR 129 FS :=
  fn_ok tbok hmix Proofs.Tryz.f129 h0 (.R (.L (.R (.one (.fr 0))))) (G := G) Gok (L := mkL [(0, slices_IndexFunc_int64_fileFault_c1_l0.fr)]) (l := [(0, .loop slices_IndexFunc_int64_fileFault_c1_l0.c)]) ⟨Lam.cons slices_IndexFunc_int64_fileFault_c1_l0.ok, trivial⟩
    (fun x => by simp only [slices_IndexFunc_int64_fileFault_c1, mC, mB, mS, mO, mN]; kernel_rfl)
end slices_IndexFunc_int64_fileFault_c1
def slices_ContainsFunc_int64_fileFault_c1 (s_ : List Int) (f : Unit) : Option (Bool) :=
  (slices_IndexFunc_int64_fileFault_c1 s_ f).bind fun r => some (decide (r ≥ 0))
namespace slices_ContainsFunc_int64_fileFault_c1
def G : Gam := mkG [(129, slices_IndexFunc_int64_fileFault_c1.FS)]
def pts : List PT := [.cs SI, .clo 183 (.cs .unit)]
def FS : FS := mkFS [.sh, .sh] pts (fun x => slices_ContainsFunc_int64_fileFault_c1 x.1 x.2.1) fun t => ⟨[.cs .bool t], []⟩
theorem ok : FsOk PR 88 FS :=
  fn_ok tbok hmix Proofs.Tryz.f88 h0 .no (G := G) (show GOk PR G from .cons slices_IndexFunc_int64_fileFault_c1.ok .nil) (L := mkL []) (l := []) hT
    (fun x => by simp only [slices_ContainsFunc_int64_fileFault_c1, mC, mB, mS, mO, mN]; kernel_rfl)
end slices_ContainsFunc_int64_fileFault_c1
def slices_Index_int64_l0.B (s_ : List Int) (v : Int) (v2 : Int) (v3 : Int) : Option ((Int) ⊕ (((Int) ⊕ (Unit)))) :=
  cond (decide (v3 < v2)) (cond (inB v3 s_.length) (cond (v == (s_.getD v3.toNat 0)) (some (.inr (.inl v3))) (some (.inl (w64 (v3 + 1))))) (none)) (some (.inr (.inr ())))
def slices_Index_int64_l0 (s_ : List Int) (v : Int) (v2 : Int) : (Int) → Option (((Int) ⊕ (Unit))) :=
  loopL fun s => slices_Index_int64_l0.B s_ v v2 s
def slices_Index_int64 (s_ : List Int) (v : Int) : Option (Int) :=
  (slices_Index_int64_l0 s_ v (s_.length : Int) 0).bind fun o => sel o (fun b => some b) (fun c => some (-1))
namespace slices_Index_int64_l0
def c := codeAt (bodyOf Proofs.Tryz.f136) [1, 0, 1, 0, 0]
def sp : SP := ⟨[(0, .cs SI), (1, .cs I64), (7, .cs I64), (8, .cs I64)], []⟩
def out (s_ : List Int) (v : Int) (v2 : Int) : FOut (((Int) ⊕ (Unit))) := fun o _ k => sel o (fun b => k (.rt) ⟨[(4, .cs I64 b)], []⟩) (fun c => k (.ex 0) ⟨[], []⟩)
def fr := lfrag sp (fun x => slices_Index_int64_l0 x.1.1 x.1.2.1 x.1.2.2.1 x.1.2.2.2.1) fun x => out x.1.1 x.1.2.1 x.1.2.2.1
theorem ok : CodeOk PR 19 2 (.loop c) fr :=
  lp_ok tbok hmix h0 .no (G := (mkG [])) .nil (L := mkL []) (l := []) hT [0, 1, 7, 8] [] [(0, ([], []))] ([4], []) (fun x s => B x.1.1 x.1.2.1 x.1.2.2.1 s) (fun x s => ⟨[(0, .cs SI x.1.1), (1, .cs I64 x.1.2.1), (7, .cs I64 x.1.2.2.1), (8, .cs I64 s)], []⟩) (fun x => x.1.2.2.2.1)
    (fun x s => by simp only [B, mC, mB, mS, mO, mN]; kernel_rfl)
end slices_Index_int64_l0
namespace slices_Index_int64
def pts : List PT := [.cs SI, .cs I64]
def FS : FS := mkFS [.sh, .sh] pts (fun x => slices_Index_int64 x.1 x.2.1) fun t => ⟨[.cs I64 t], []⟩
theorem ok : FsOk PR 136 FS :=
  fn_ok tbok hmix Proofs.Tryz.f136 h0 (.R (.L (.R (.one (.fr 0))))) (G := (mkG [])) .nil (L := mkL [(0, slices_Index_int64_l0.fr)]) (l := [(0, .loop slices_Index_int64_l0.c)]) ⟨Lam.cons slices_Index_int64_l0.ok, trivial⟩
    (fun x => by simp only [slices_Index_int64, mC, mB, mS, mO, mN]; kernel_rfl)
end slices_Index_int64
def slices_Contains_int64 (s_ : List Int) (v : Int) : Option (Bool) :=
  (slices_Index_int64 s_ v).bind fun r => some (decide (r ≥ 0))
namespace slices_Contains_int64
def G : Gam := mkG [(136, slices_Index_int64.FS)]
def pts : List PT := [.cs SI, .cs I64]
def FS : FS := mkFS [.sh, .sh] pts (fun x => slices_Contains_int64 x.1 x.2.1) fun t => ⟨[.cs .bool t], []⟩
theorem ok : FsOk PR 94 FS :=
  fn_ok tbok hmix Proofs.Tryz.f94 h0 .no (G := G) (show GOk PR G from .cons slices_Index_int64.ok .nil) (L := mkL []) (l := []) hT
    (fun x => by simp only [slices_Contains_int64, mC, mB, mS, mO, mN]; kernel_rfl)
end slices_Contains_int64
def impl_fileFault_l0.B (x : Inode_) (v : List Int) (v2 : Int) (v3 : Int) : Option ((Int) ⊕ (((Int) ⊕ (Unit)))) :=
  cond (decide (v3 < v2)) (cond (inB v3 v.length) (cond (decide ((0 : Int) ≤ v3) && decide (v3 ≤ (x.2.2.2.1.length : Int))) ((slices_Contains_int64 ((x.2.2.2.1.take v3.toNat).drop 0) (v.getD v3.toNat 0)).bind fun r6 => cond r6 (some (.inr (.inl 7))) (some (.inl (w64 (v3 + 1))))) (none)) (none)) (some (.inr (.inr ())))
def impl_fileFault_l0 (x : Inode_) (v : List Int) (v2 : Int) : (Int) → Option (((Int) ⊕ (Unit))) :=
  loopL fun s => impl_fileFault_l0.B x v v2 s
def impl_fileFault (x : Inode_) : Option (Int) :=
  (impl_within x.2.1 1 60).bind fun r => cond (!r) (some 3) ((impl_within x.2.2.1 0 32).bind fun r2 => cond (!r2) (some 3) ((impl_size_int64 x.2.2.2.1).bind fun r3 => (impl_blocksFor x.2.2.1).bind fun r4 => cond (r3 != r4) (some 1) ((slices_ContainsFunc_int64_fileFault_c1 x.2.2.2.1 ()).bind fun r5 => cond r5 (some 3) ((impl_fileFault_l0 x x.2.2.2.1 (x.2.2.2.1.length : Int) 0).bind fun o => sel o (fun b => some b) (fun c => some 0)))))
namespace impl_fileFault
def G : Gam := mkG [(90, impl_within.FS), (47, impl_size_int64.FS), (182, impl_blocksFor.FS), (88, slices_ContainsFunc_int64_fileFault_c1.FS), (94, slices_Contains_int64.FS)]
theorem Gok : GOk PR G := .cons impl_within.ok (.cons impl_size_int64.ok (.cons impl_blocksFor.ok (.cons slices_ContainsFunc_int64_fileFault_c1.ok (.cons slices_Contains_int64.ok .nil))))
end impl_fileFault
namespace impl_fileFault_l0
def c := codeAt (bodyOf Proofs.Tryz.f174) [1, 1, 0, 1, 0, 0]
def sp : SP := ⟨[(1, .pt tInode_), (29, .cs SI), (30, .cs I64), (31, .cs I64)], []⟩
def out (x : Inode_) (v : List Int) (v2 : Int) : FOut (((Int) ⊕ (Unit))) := fun o _ k => sel o (fun b => k (.rt) ⟨[(2, .cs I64 b)], []⟩) (fun c => k (.ex 1) ⟨[], []⟩)
def fr := lfrag sp (fun x => impl_fileFault_l0 x.1.1 x.1.2.1 x.1.2.2.1 x.1.2.2.2.1) fun x => out x.1.1 x.1.2.1 x.1.2.2.1
theorem ok : CodeOk PR 43 1 (.loop c) fr :=
  lp_ok tbok hmix ⟨[1], [], [], 0⟩ .no (G := impl_fileFault.G) impl_fileFault.Gok (L := mkL []) (l := []) hT [1, 29, 30, 31] [] [(1, ([], []))] ([2], []) (fun x s => B x.1.1 x.1.2.1 x.1.2.2.1 s) (fun x s => ⟨[(1, .pt tInode_ x.1.1), (29, .cs SI x.1.2.1), (30, .cs I64 x.1.2.2.1), (31, .cs I64 s)], []⟩) (fun x => x.1.2.2.2.1)
    (fun x s => by simp only [B, mC, mB, mS, mO, mN]; kernel_rfl)
end impl_fileFault_l0
namespace impl_fileFault
def pts : List PT := [.cs tInode_]
def FS : FS := mkFS [.sh] pts (fun x => impl_fileFault x.1) fun t => ⟨[.cs I64 t], []⟩
theorem ok : FsOk PR 174 FS :=
  fn_ok tbok hmix Proofs.Tryz.f174 ⟨[1], [], [], 0⟩ (.R (.R (.L (.R (.one (.fr 0)))))) (G := G) Gok (L := mkL [(0, impl_fileFault_l0.fr)]) (l := [(0, .loop impl_fileFault_l0.c)]) ⟨Lam.cons impl_fileFault_l0.ok, trivial⟩
    (fun x => by simp only [impl_fileFault, mC, mB, mS, mO, mN]; kernel_rfl)
end impl_fileFault
def impl_nameFault_l0.B (name : List UInt8) (v : Int) (v2 : Int) : Option ((Int) ⊕ (((Int) ⊕ (Unit)))) :=
  cond (decide (v2 < v)) (cond (inB v2 name.length) ((some (decide (((name.getD v2.toNat 0).toNat : Int) < 97))).bind fun v3 => cond (cond (!v3) (inB v2 name.length) true) ((some (cond v3 true (decide (((name.getD v2.toNat 0).toNat : Int) > 122)))).bind fun v4 => cond v4 (some (.inr (.inl 5))) (some (.inl (w64 (v2 + 1))))) (none)) (none)) (some (.inr (.inr ())))
def impl_nameFault_l0 (name : List UInt8) (v : Int) : (Int) → Option (((Int) ⊕ (Unit))) :=
  loopL fun s => impl_nameFault_l0.B name v s
def impl_nameFault (name : List UInt8) : Option (Int) :=
  cond (name == ([] : List UInt8)) (some 5) ((impl_nameFault_l0 name (name.length : Int) 0).bind fun o => sel o (fun b => some b) (fun c => cond (decide ((name.length : Int) > 4)) (some 2) (some 0)))
namespace impl_nameFault_l0
def c := codeAt (bodyOf Proofs.Tryz.f184) [1, 1, 0, 1, 0, 0]
def sp : SP := ⟨[(0, .cs .str), (7, .cs I64), (8, .cs I64)], []⟩
def out (name : List UInt8) (v : Int) : FOut (((Int) ⊕ (Unit))) := fun o _ k => sel o (fun b => k (.rt) ⟨[(2, .cs I64 b)], []⟩) (fun c => k (.ex 0) ⟨[(0, .cs .str name)], []⟩)
def fr := lfrag sp (fun x => impl_nameFault_l0 x.1.1 x.1.2.1 x.1.2.2.1) fun x => out x.1.1 x.1.2.1
theorem ok : CodeOk PR 25 1 (.loop c) fr :=
  lp_ok tbok hmix h0 .no (G := (mkG [])) .nil (L := mkL []) (l := []) hT [0, 7, 8] [] [(0, ([0], []))] ([2], []) (fun x s => B x.1.1 x.1.2.1 s) (fun x s => ⟨[(0, .cs .str x.1.1), (7, .cs I64 x.1.2.1), (8, .cs I64 s)], []⟩) (fun x => x.1.2.2.1)
    (fun x s => by simp only [B, mC, mB, mS, mO, mN]; kernel_rfl)
end impl_nameFault_l0
namespace impl_nameFault
def pts : List PT := [.cs .str]
def FS : FS := mkFS [.sh] pts (fun x => impl_nameFault x.1) fun t => ⟨[.cs I64 t], []⟩
theorem ok : FsOk PR 184 FS :=
  fn_ok tbok hmix Proofs.Tryz.f184 h0 (.R (.R (.L (.R (.one (.fr 0)))))) (G := (mkG [])) .nil (L := mkL [(0, impl_nameFault_l0.fr)]) (l := [(0, .loop impl_nameFault_l0.c)]) ⟨Lam.cons impl_nameFault_l0.ok, trivial⟩
    (fun x => by simp only [impl_nameFault, mC, mB, mS, mO, mN]; kernel_rfl)
end impl_nameFault
def impl_dirFault_l0.B (x : Inode_) (v : List Entry_) (v2 : Int) (v3 : Int) : Option ((Int) ⊕ (((Int) ⊕ (Unit)))) :=
  cond (decide (v3 < v2)) (cond (inB v3 v.length) ((impl_nameFault ((v.getD v3.toNat zEntry_).1)).bind fun r => cond (r != 0) (some (.inr (.inl r))) ((impl_within (((v.getD v3.toNat zEntry_).2).1) 0 9).bind fun r2 => cond (!r2) (some (.inr (.inl 3))) (cond (cond (decide (v3 > 0)) (inB (w64 (v3 - 1)) x.2.2.2.2.1.length) true) ((some (cond (decide (v3 > 0)) (!leB ((x.2.2.2.2.1.getD (w64 (v3 - 1)).toNat zEntry_).1) ((v.getD v3.toNat zEntry_).1)) false)).bind fun v4 => cond v4 (some (.inr (.inl 1))) (some (.inl (w64 (v3 + 1))))) (none)))) (none)) (some (.inr (.inr ())))
def impl_dirFault_l0 (x : Inode_) (v : List Entry_) (v2 : Int) : (Int) → Option (((Int) ⊕ (Unit))) :=
  loopL fun s => impl_dirFault_l0.B x v v2 s
def impl_dirFault (x : Inode_) : Option (Int) :=
  cond (decide ((x.2.2.2.2.1.length : Int) > 6)) (some 2) ((impl_dirFault_l0 x x.2.2.2.2.1 (x.2.2.2.2.1.length : Int) 0).bind fun o => sel o (fun b => some b) (fun c => some 0))
namespace impl_dirFault
def G : Gam := mkG [(184, impl_nameFault.FS), (90, impl_within.FS)]
theorem Gok : GOk PR G := .cons impl_nameFault.ok (.cons impl_within.ok .nil)
end impl_dirFault
namespace impl_dirFault_l0
def c := codeAt (bodyOf Proofs.Tryz.f175) [1, 1, 0, 1, 0, 0]
def sp : SP := ⟨[(1, .pt tInode_), (11, .cs (.sl tEntry_)), (12, .cs I64), (13, .cs I64)], []⟩
def out (x : Inode_) (v : List Entry_) (v2 : Int) : FOut (((Int) ⊕ (Unit))) := fun o _ k => sel o (fun b => k (.rt) ⟨[(2, .cs I64 b)], []⟩) (fun c => k (.ex 0) ⟨[], []⟩)
def fr := lfrag sp (fun x => impl_dirFault_l0 x.1.1 x.1.2.1 x.1.2.2.1 x.1.2.2.2.1) fun x => out x.1.1 x.1.2.1 x.1.2.2.1
theorem ok : CodeOk PR 43 1 (.loop c) fr :=
  lp_ok tbok hmix ⟨[1], [], [], 0⟩ .no (G := impl_dirFault.G) impl_dirFault.Gok (L := mkL []) (l := []) hT [1, 11, 12, 13] [] [(0, ([], []))] ([2], []) (fun x s => B x.1.1 x.1.2.1 x.1.2.2.1 s) (fun x s => ⟨[(1, .pt tInode_ x.1.1), (11, .cs (.sl tEntry_) x.1.2.1), (12, .cs I64 x.1.2.2.1), (13, .cs I64 s)], []⟩) (fun x => x.1.2.2.2.1)
    (fun x s => by simp only [B, mC, mB, mS, mO, mN]; kernel_rfl)
end impl_dirFault_l0
namespace impl_dirFault
def pts : List PT := [.cs tInode_]
def FS : FS := mkFS [.sh] pts (fun x => impl_dirFault x.1) fun t => ⟨[.cs I64 t], []⟩
theorem ok : FsOk PR 175 FS :=
  fn_ok tbok hmix Proofs.Tryz.f175 ⟨[1], [], [], 0⟩ (.R (.R (.L (.R (.one (.fr 0)))))) (G := G) Gok (L := mkL [(0, impl_dirFault_l0.fr)]) (l := [(0, .loop impl_dirFault_l0.c)]) ⟨Lam.cons impl_dirFault_l0.ok, trivial⟩
    (fun x => by simp only [impl_dirFault, mC, mB, mS, mO, mN]; kernel_rfl)
end impl_dirFault
def impl_inodeFault (x : Inode_) : Option (Int) :=
  (some (cond (cond (x.2.1 == 0) (x.2.2.1 == 0) false) ((x.2.2.2.1.length : Int) == 0) false)).bind fun v => (impl_within x.1 0 2).bind fun r => cond (!r) (some 1) (cond (cond (x.1 != 1) (!v) false) (some 1) ((some (cond (x.1 != 2) (!((x.2.2.2.2.1.length : Int) == 0)) false)).bind fun v2 => cond v2 (some 1) (cond (x.1 == 1) ((impl_fileFault x).bind fun r2 => some r2) ((impl_dirFault x).bind fun r3 => some r3))))
namespace impl_inodeFault
def G : Gam := mkG [(90, impl_within.FS), (174, impl_fileFault.FS), (175, impl_dirFault.FS)]
def pts : List PT := [.cs tInode_]
def FS : FS := mkFS [.sh] pts (fun x => impl_inodeFault x.1) fun t => ⟨[.cs I64 t], []⟩
theorem ok : FsOk PR 149 FS :=
  fn_ok tbok hmix Proofs.Tryz.f149 ⟨[1], [], [], 0⟩ .no (G := G) (show GOk PR G from .cons impl_within.ok (.cons impl_fileFault.ok (.cons impl_dirFault.ok .nil))) (L := mkL []) (l := []) hT
    (fun x => by simp only [impl_inodeFault, mC, mB, mS, mO, mN]; kernel_rfl)
end impl_inodeFault
def impl_inodesFault_l0.B (list : List Inode_) (v : Int) (v2 : Int) : Option ((Int) ⊕ (((Int) ⊕ (Unit)))) :=
  cond (decide (v2 < v)) (cond (inB v2 list.length) ((impl_inodeFault (list.getD v2.toNat zInode_)).bind fun r => cond (r != 0) (some (.inr (.inl r))) (some (.inl (w64 (v2 + 1))))) (none)) (some (.inr (.inr ())))
def impl_inodesFault_l0 (list : List Inode_) (v : Int) : (Int) → Option (((Int) ⊕ (Unit))) :=
  loopL fun s => impl_inodesFault_l0.B list v s
def impl_inodesFault (list : List Inode_) : Option (Int) :=
  cond (decide ((list.length : Int) > 10)) (some 2) ((impl_inodesFault_l0 list (list.length : Int) 0).bind fun o => sel o (fun b => some b) (fun c => some 0))
namespace impl_inodesFault
def G : Gam := mkG [(149, impl_inodeFault.FS)]
theorem Gok : GOk PR G := .cons impl_inodeFault.ok .nil
end impl_inodesFault
namespace impl_inodesFault_l0
def c := codeAt (bodyOf Proofs.Tryz.f155) [1, 1, 0, 1, 0, 0]
def sp : SP := ⟨[(9, .cs (.sl tInode_)), (10, .cs I64), (11, .cs I64)], []⟩
def out (list : List Inode_) (v : Int) : FOut (((Int) ⊕ (Unit))) := fun o _ k => sel o (fun b => k (.rt) ⟨[(2, .cs I64 b)], []⟩) (fun c => k (.ex 0) ⟨[], []⟩)
def fr := lfrag sp (fun x => impl_inodesFault_l0 x.1.1 x.1.2.1 x.1.2.2.1) fun x => out x.1.1 x.1.2.1
theorem ok : CodeOk PR 21 1 (.loop c) fr :=
  lp_ok tbok hmix h0 .no (G := impl_inodesFault.G) impl_inodesFault.Gok (L := mkL []) (l := []) hT [9, 10, 11] [] [(0, ([], []))] ([2], []) (fun x s => B x.1.1 x.1.2.1 s) (fun x s => ⟨[(9, .cs (.sl tInode_) x.1.1), (10, .cs I64 x.1.2.1), (11, .cs I64 s)], []⟩) (fun x => x.1.2.2.1)
    (fun x s => by simp only [B, mC, mB, mS, mO, mN]; kernel_rfl)
end impl_inodesFault_l0
namespace impl_inodesFault
def pts : List PT := [.cs (.sl tInode_)]
def FS : FS := mkFS [.sh] pts (fun x => impl_inodesFault x.1) fun t => ⟨[.cs I64 t], []⟩
theorem ok : FsOk PR 155 FS :=
  fn_ok tbok hmix Proofs.Tryz.f155 h0 (.R (.R (.L (.R (.one (.fr 0)))))) (G := G) Gok (L := mkL [(0, impl_inodesFault_l0.fr)]) (l := [(0, .loop impl_inodesFault_l0.c)]) ⟨Lam.cons impl_inodesFault_l0.ok, trivial⟩
    (fun x => by simp only [impl_inodesFault, mC, mB, mS, mO, mN]; kernel_rfl)
end impl_inodesFault
def impl_rootFault (f : Fs_) : Option (Int) :=
  (impl_inodesFault f.1).bind fun r => cond (r != 0) (some r) (cond (cond (!((f.1.length : Int) == 0)) (inB 0 f.1.length) true) ((some (cond ((f.1.length : Int) == 0) true (((f.1.getD (0 : Int).toNat zInode_).1) != 2))).bind fun v => cond (cond v true ((f.2.1.length : Int) != 20)) (some 1) (some 0)) (none))
namespace impl_rootFault
def G : Gam := mkG [(155, impl_inodesFault.FS)]
def pts : List PT := [.cs tFs_]
def FS : FS := mkFS [.sh] pts (fun x => impl_rootFault x.1) fun t => ⟨[.cs I64 t], []⟩
theorem ok : FsOk PR 130 FS :=
  fn_ok tbok hmix Proofs.Tryz.f130 ⟨[1], [], [], 0⟩ .no (G := G) (show GOk PR G from .cons impl_inodesFault.ok .nil) (L := mkL []) (l := []) hT
    (fun x => by simp only [impl_rootFault, mC, mB, mS, mO, mN]; kernel_rfl)
end impl_rootFault
def impl_treeFault_c1 (b : List Int) : Option (Bool) :=
  some (decide ((b.length : Int) > 8))
namespace impl_treeFault_c1
def pts : List PT := [.cs SB]
def FS : FS := mkFS [.sh] pts (fun x => impl_treeFault_c1 x.1) fun t => ⟨[.cs .bool t], []⟩
theorem ok : FsOk PR 132 FS :=
  fn_ok tbok hmix Proofs.Tryz.f132 h0 .no (G := (mkG [])) .nil (L := mkL []) (l := []) hT
    (fun x => by simp only [impl_treeFault_c1, mC, mB, mS, mO, mN]; kernel_rfl)
end impl_treeFault_c1
def slices_IndexFunc_Sbyte_treeFault_c1_l0.B (s_ : List (List Int)) (f : Unit) (v : Int) (v2 : Int) : Option ((Int) ⊕ (((Int) ⊕ (Unit)))) :=
  cond (decide (v2 < v)) (cond (inB v2 s_.length) ((impl_treeFault_c1 (s_.getD v2.toNat [])).bind fun r => cond r (some (.inr (.inl v2))) (some (.inl (w64 (v2 + 1))))) (none)) (some (.inr (.inr ())))
def slices_IndexFunc_Sbyte_treeFault_c1_l0 (s_ : List (List Int)) (f : Unit) (v : Int) : (Int) → Option (((Int) ⊕ (Unit))) :=
  loopL fun s => slices_IndexFunc_Sbyte_treeFault_c1_l0.B s_ f v s
def slices_IndexFunc_Sbyte_treeFault_c1 (s_ : List (List Int)) (f : Unit) : Option (Int) :=
  (slices_IndexFunc_Sbyte_treeFault_c1_l0 s_ f (s_.length : Int) 0).bind fun o => sel o (fun b => some b) (fun c => some (-1))
namespace slices_IndexFunc_Sbyte_treeFault_c1
def G : Gam := mkG [(132, impl_treeFault_c1.FS)]
theorem Gok : GOk PR G := .cons impl_treeFault_c1.ok .nil
end slices_IndexFunc_Sbyte_treeFault_c1
namespace slices_IndexFunc_Sbyte_treeFault_c1_l0
def c := codeAt (bodyOf Proofs.Tryz.f156) [1, 0, 1, 0, 0]
def sp : SP := ⟨[(0, .cs (.sl SB)), (1, .clo 132 (.cs .unit)), (7, .cs I64), (8, .cs I64)], []⟩
def out (s_ : List (List Int)) (f : Unit) (v : Int) : FOut (((Int) ⊕ (Unit))) := fun o _ k => sel o (fun b => k (.rt) ⟨[(4, .cs I64 b)], []⟩) (fun c => k (.ex 0) ⟨[], []⟩)
def fr := lfrag sp (fun x => slices_IndexFunc_Sbyte_treeFault_c1_l0 x.1.1 x.1.2.1 x.1.2.2.1 x.1.2.2.2.1) fun x => out x.1.1 x.1.2.1 x.1.2.2.1
theorem ok : CodeOk PR 19 2 (.loop c) fr :=
  lp_ok tbok hmix h0 .no (G := slices_IndexFunc_Sbyte_treeFault_c1.G) slices_IndexFunc_Sbyte_treeFault_c1.Gok (L := mkL []) (l := []) hT [0, 1, 7, 8] [] [(0, ([], []))] ([4], []) (fun x s => B x.1.1 x.1.2.1 x.1.2.2.1 s) (fun x s => ⟨[(0, .cs (.sl SB) x.1.1), (1, .clo 132 (.cs .unit x.1.2.1)), (7, .cs I64 x.1.2.2.1), (8, .cs I64 s)], []⟩) (fun x => x.1.2.2.2.1)
    (fun x s => by simp only [B, mC, mB, mS, mO, mN]; kernel_rfl)
end slices_IndexFunc_Sbyte_treeFault_c1_l0
namespace slices_IndexFunc_Sbyte_treeFault_c1
def pts : List PT := [.cs (.sl SB), .clo 132 (.cs .unit)]
def FS : FS := mkFS [.sh, .sh] pts (fun x => slices_IndexFunc_Sbyte_treeFault_c1 x.1 x.2.1) fun t => ⟨[.cs I64 t], []⟩
theorem ok : FsOk PR 156 FS :=
  fn_ok tbok hmix Proofs.Tryz.f156 h0 (.R (.L (.R (.one (.fr 0))))) (G := G) Gok (L := mkL [(0, slices_IndexFunc_Sbyte_treeFault_c1_l0.fr)]) (l := [(0, .loop slices_IndexFunc_Sbyte_treeFault_c1_l0.c)]) ⟨Lam.cons slices_IndexFunc_Sbyte_treeFault_c1_l0.ok, trivial⟩
    (fun x => by simp only [slices_IndexFunc_Sbyte_treeFault_c1, mC, mB, mS, mO, mN]; kernel_rfl)
end slices_IndexFunc_Sbyte_treeFault_c1
def slices_ContainsFunc_Sbyte_treeFault_c1 (s_ : List (List Int)) (f : Unit) : Option (Bool) :=
  (slices_IndexFunc_Sbyte_treeFault_c1 s_ f).bind fun r => some (decide (r ≥ 0))
namespace slices_ContainsFunc_Sbyte_treeFault_c1
def G : Gam := mkG [(156, slices_IndexFunc_Sbyte_treeFault_c1.FS)]
def pts : List PT := [.cs (.sl SB), .clo 132 (.cs .unit)]
def FS : FS := mkFS [.sh, .sh] pts (fun x => slices_ContainsFunc_Sbyte_treeFault_c1 x.1 x.2.1) fun t => ⟨[.cs .bool t], []⟩
theorem ok : FsOk PR 131 FS :=
  fn_ok tbok hmix Proofs.Tryz.f131 h0 .no (G := G) (show GOk PR G from .cons slices_IndexFunc_Sbyte_treeFault_c1.ok .nil) (L := mkL []) (l := []) hT
    (fun x => by simp only [slices_ContainsFunc_Sbyte_treeFault_c1, mC, mB, mS, mO, mN]; kernel_rfl)
end slices_ContainsFunc_Sbyte_treeFault_c1
def slices_Sort_int64 (s : List Int) : Option (List Int) := sortP s
def slices_Sort_int64.FS : FS := mkFS [.mu] [.cl .deep (.sl (.int .i64))] (fun x => slices_Sort_int64 x.1) fun y => ⟨[], [.cl .deep (.sl (.int .i64)) y]⟩
theorem slices_Sort_int64.ok : FsOk Go.Proofs.Tryz.prog 97 slices_Sort_int64.FS :=
  sort_fs ⟨Go.Proofs.Tryz.f97, by kernel_rfl, by kernel_rfl, by kernel_rfl⟩ (fun blk off cap zs w h1 h2 h3 => Go.Proofs.AnyM.slices_Sort_int Go.Proofs.Tryz.sortLay blk off cap zs w h1 h2 h3) (fun p cap w => Go.Proofs.AnyM.slices_Sort_int_none Go.Proofs.Tryz.sortLay p cap w)
def slices_Clone_int64 (s : List Int) : Option (List Int) := cloneP s
def slices_Clone_int64.FS : FS := mkFS [.sh] [.cl .sh (.sl (.int .i64))] (fun x => slices_Clone_int64 x.1) fun y => ⟨[.cl .deep (.sl (.int .i64)) y], []⟩
theorem slices_Clone_int64.ok : FsOk Go.Proofs.Tryz.prog 99 slices_Clone_int64.FS :=
  clone_fs (hn := ⟨[], [], [], 0⟩) tbok hmix (fn := Go.Proofs.Tryz.f99) (by kernel_rfl) (body_some (by kernel_rfl)) (by kernel_rfl) (by kernel_rfl) .deep (.int .i64) 26 26 2 (by kernel_rfl) (by kernel_rfl) (by kernel_rfl) (by kernel_rfl) (by kernel_rfl) (by kernel_rfl) (by kernel_rfl) (by kernel_rfl) (fun xs => by kernel_rfl) (fun xs => by kernel_rfl) (fun xs => by kernel_rfl) (fun xs => by kernel_rfl)
def slices_Compact_int64_l1.B (s2_ : Nat) (s2_2 : Nat) (k_2 : Int) (k2_ : Int) (s_2 : List Int) : Option ((Int × Int × List Int) ⊕ (Int × List Int)) :=
  cond (decide (k2_ < (s2_2 : Int))) (cond (inB k2_ s2_2) (cond (inB (w64 (k2_ - 1)) s2_2) ((some ((s_2.getD (s2_ + k2_.toNat) 0) != (s_2.getD (s2_ + (w64 (k2_ - 1)).toNat) 0))).bind fun v2 => cond v2 (cond (inB k2_ s2_2) (cond (inB k_2 s_2.length) (some (.inl (w64 (k_2 + 1), w64 (k2_ + 1), s_2.set k_2.toNat (s_2.getD (s2_ + k2_.toNat) 0)))) (none)) (none)) (some (.inl (k_2, w64 (k2_ + 1), s_2)))) (none)) (none)) (some (.inr (k_2, s_2)))
def slices_Compact_int64_l1 (s2_ : Nat) (s2_2 : Nat) : (Int × Int × List Int) → Option (Int × List Int) :=
  loopL fun s => slices_Compact_int64_l1.B s2_ s2_2 s.1 s.2.1 s.2.2
def slices_Compact_int64_l0.B (s_ : List Int) (k_ : Int) : Option ((Int) ⊕ (((Nat × Nat × List Int) ⊕ (Unit)))) :=
  cond (decide (k_ < (s_.length : Int))) (cond (inB k_ s_.length) (cond (inB (w64 (k_ - 1)) s_.length) ((some ((s_.getD k_.toNat 0) == (s_.getD ((w64 (k_ - 1)).toNat) 0))).bind fun v => cond v (cond (decide ((0 : Int) ≤ k_) && decide (k_ ≤ (s_.length : Int))) ((slices_Compact_int64_l1 k_.toNat (s_.length - k_.toNat) (k_, 1, s_)).bind fun o => cond (decide ((0 : Int) ≤ o.1) && decide (o.1 ≤ (o.2.length : Int))) ((some (splice o.2 o.1.toNat (List.replicate (o.2.length - o.1.toNat) 0))).bind fun s_3 => cond (decide ((0 : Int) ≤ o.1) && decide (o.1 ≤ (s_3.length : Int))) (some (.inr (.inl (0, o.1.toNat - 0, s_3)))) (none)) (none)) (none)) (some (.inl (w64 (k_ + 1))))) (none)) (none)) (some (.inr (.inr ())))
def slices_Compact_int64_l0 (s_ : List Int) : (Int) → Option (((Nat × Nat × List Int) ⊕ (Unit))) :=
  loopL fun s => slices_Compact_int64_l0.B s_ s
def slices_Compact_int64 (s_ : List Int) : Option (List Int) :=
  cond (decide ((s_.length : Int) < 2)) (some s_) ((slices_Compact_int64_l0 s_ 1).bind fun o2 => sel o2 (fun b => some ((b.2.2.drop b.1).take b.2.1)) (fun c => some s_))
namespace slices_Compact_int64_l1
def c := codeAt (bodyOf Proofs.Tryz.f98) [1, 1, 0, 1, 0, 0, 1, 0, 0, 1, 0, 1, 0, 1, 0, 0]
def sp : SP := ⟨[(0, .seg 0 []), (3, .cs I64), (4, .sub 0 []), (5, .cs I64)], [(0, .reg, .cd SI)]⟩
def out (s2_ : Nat) (s2_2 : Nat) : FOut (Int × List Int) := fun b _ k => k (.ex 2) ⟨[(0, .seg 0 []), (3, .cs I64 b.1)], [sr 0 (.cd SI b.2)]⟩
def fr := lfrag sp (fun x => slices_Compact_int64_l1 x.1.2.2.1.2.1 x.1.2.2.1.2.2 (x.1.2.1, x.1.2.2.2.1, x.2.1)) fun x => out x.1.2.2.1.2.1 x.1.2.2.1.2.2
theorem ok : CodeOk PR 61 1 (.loop c) fr :=
  lp_ok tbok hmix h0 .no (G := (mkG [])) .nil (L := mkL []) (l := []) hT [0, 3, 4, 5] [0] [(2, ([0, 3], [0]))] ([], []) (fun x s => B x.1.2.2.1.2.1 x.1.2.2.1.2.2 s.1 s.2.1 s.2.2) (fun x s => ⟨[(0, .seg 0 []), (3, .cs I64 s.1), (4, .sub 0 [] x.1.2.2.1.2.1 x.1.2.2.1.2.2), (5, .cs I64 s.2.1)], [sr 0 (.cd SI s.2.2)]⟩) (fun x => (x.1.2.1, x.1.2.2.2.1, x.2.1))
    (fun x s => by simp only [B, mC, mB, mS, mO, mN]; kernel_rfl)
end slices_Compact_int64_l1
namespace slices_Compact_int64_l0
def c := codeAt (bodyOf Proofs.Tryz.f98) [1, 1, 0, 1, 0, 0]
def sp : SP := ⟨[(0, .seg 0 []), (3, .cs I64)], [(0, .reg, .cd SI)]⟩
def out (s_ : List Int) : FOut (((Nat × Nat × List Int) ⊕ (Unit))) := fun o _ k => sel o (fun b => k (.rt) ⟨[(2, .sub 0 [] b.1 b.2.1)], [sr 0 (.cd SI b.2.2)]⟩) (fun c => k (.ex 0) ⟨[(0, .seg 0 [])], [sr 0 (.cd SI s_)]⟩)
def fr := lfrag sp (fun x => slices_Compact_int64_l0 x.2.1 x.1.2.1) fun x => out x.2.1
theorem ok : CodeOk PR 61 1 (.loop c) fr :=
  lp_ok tbok hmix h0 (.R (.L (.one (.R (.L (.R (.L (.R (.one (.fr 1)))))))))) (G := (mkG [])) .nil (L := mkL [(1, slices_Compact_int64_l1.fr)]) (l := [(1, .loop slices_Compact_int64_l1.c)]) ⟨Lam.cons slices_Compact_int64_l1.ok, trivial⟩ [0, 3] [0] [(0, ([0], [0]))] ([2], [0]) (fun x s => B x.2.1 s) (fun x s => ⟨[(0, .seg 0 []), (3, .cs I64 s)], [sr 0 (.cd SI x.2.1)]⟩) (fun x => x.1.2.1)
    (fun x s => by simp only [B, mC, mB, mS, mO, mN]; kernel_rfl)
end slices_Compact_int64_l0
namespace slices_Compact_int64
def pts : List PT := [.cd SI]
def FS : FS := mkFS [.mv] pts (fun x => slices_Compact_int64 x.1) fun t => ⟨[.cd SI t], []⟩
theorem ok : FsOk PR 98 FS :=
  fn_ok tbok hmix Proofs.Tryz.f98 h0 (.R (.R (.L (.R (.one (.fr 0)))))) (G := (mkG [])) .nil (L := mkL [(1, slices_Compact_int64_l1.fr), (0, slices_Compact_int64_l0.fr)]) (l := [(0, .loop slices_Compact_int64_l0.c)]) ⟨Lam.skip rfl (Lam.cons slices_Compact_int64_l0.ok), trivial⟩
    (fun x => by simp only [slices_Compact_int64, mC, mB, mS, mO, mN]; kernel_rfl)
end slices_Compact_int64
def impl_usedBlocks_l0.B (list : List Inode_) (v : Int) (v2 : Int) (used_ : List Int) : Option ((Int × List Int) ⊕ (List Int)) :=
  cond (decide (v2 < v)) (cond (inB v2 list.length) ((some (used_ ++ (((((list.getD v2.toNat zInode_).2).2).2).1))).bind fun v3 => cond (decide (v3.length ≤ 2147483648)) (some (.inl (w64 (v2 + 1), v3))) (none)) (none)) (some (.inr used_))
def impl_usedBlocks_l0 (list : List Inode_) (v : Int) : (Int × List Int) → Option (List Int) :=
  loopL fun s => impl_usedBlocks_l0.B list v s.1 s.2
def impl_usedBlocks (list : List Inode_) : Option ((List Int) × Bool) :=
  (impl_usedBlocks_l0 list (list.length : Int) (0, [])).bind fun o => (slices_Sort_int64 o).bind fun r => (slices_Clone_int64 r).bind fun r2 => (slices_Compact_int64 r2).bind fun r3 => some (r, (r3.length : Int) == (r.length : Int))
namespace impl_usedBlocks
def G : Gam := mkG [(97, slices_Sort_int64.FS), (99, slices_Clone_int64.FS), (98, slices_Compact_int64.FS)]
theorem Gok : GOk PR G := .cons slices_Sort_int64.ok (.cons slices_Clone_int64.ok (.cons slices_Compact_int64.ok .nil))
end impl_usedBlocks
namespace impl_usedBlocks_l0
def c := codeAt (bodyOf Proofs.Tryz.f52) [1, 1, 0, 1, 0, 0]
def sp : SP := ⟨[(4, .seg 4 []), (7, .cs (.sl tInode_)), (8, .cs I64), (9, .cs I64)], [(4, .reg, .cd SI)]⟩
def out (list : List Inode_) (v : Int) : FOut (List Int) := fun b _ k => k (.ex 0) ⟨[(4, .seg 4 [])], [sr 4 (.cd SI b)]⟩
def fr := lfrag sp (fun x => impl_usedBlocks_l0 x.1.2.1 x.1.2.2.1 (x.1.2.2.2.1, x.2.1)) fun x => out x.1.2.1 x.1.2.2.1
theorem ok : CodeOk PR 28 1 (.loop c) fr :=
  lp_ok tbok hmix h0 .no (G := impl_usedBlocks.G) impl_usedBlocks.Gok (L := mkL []) (l := []) hT [4, 7, 8, 9] [4] [(0, ([4], [4]))] ([], []) (fun x s => B x.1.2.1 x.1.2.2.1 s.1 s.2) (fun x s => ⟨[(4, .seg 4 []), (7, .cs (.sl tInode_) x.1.2.1), (8, .cs I64 x.1.2.2.1), (9, .cs I64 s.1)], [sr 4 (.cd SI s.2)]⟩) (fun x => (x.1.2.2.2.1, x.2.1))
    (fun x s => by simp only [B, mC, mB, mS, mO, mN]; kernel_rfl)
end impl_usedBlocks_l0
namespace impl_usedBlocks
def pts : List PT := [.cs (.sl tInode_)]
def FS : FS := mkFS [.sh] pts (fun x => impl_usedBlocks x.1) fun t => ⟨[.cd SI t.1, .cs .bool t.2], []⟩
theorem ok : FsOk PR 52 FS :=
  fn_ok tbok hmix Proofs.Tryz.f52 h0 (.R (.R (.L (.R (.one (.fr 0)))))) (G := G) Gok (L := mkL [(0, impl_usedBlocks_l0.fr)]) (l := [(0, .loop impl_usedBlocks_l0.c)]) ⟨Lam.cons impl_usedBlocks_l0.ok, trivial⟩
    (fun x => by simp only [impl_usedBlocks, mC, mB, mS, mO, mN]; kernel_rfl)
end impl_usedBlocks
def impl_size_Inode (l : List Inode_) : Option (Int) :=
  some (l.length : Int)
namespace impl_size_Inode
def pts : List PT := [.cs (.sl tInode_)]
def FS : FS := mkFS [.sh] pts (fun x => impl_size_Inode x.1) fun t => ⟨[.cs I64 t], []⟩
theorem ok : FsOk PR 104 FS :=
  fn_ok tbok hmix Proofs.Tryz.f104 h0 .no (G := (mkG [])) .nil (L := mkL []) (l := []) hT
    (fun x => by simp only [impl_size_Inode, mC, mB, mS, mO, mN]; kernel_rfl)
end impl_size_Inode
def impl_treeFault_l1.B (f : Fs_) (v : List Inode_) (v2 : Int) (v3 : Int) (v5 : List Entry_) (v4 : Int) (v6 : Int) : Option ((Int) ⊕ (((Int) ⊕ (Unit)))) :=
  cond (decide (v6 < v4)) (cond (inB v6 v5.length) ((impl_size_Inode f.1).bind fun r4 => cond (cond (!(decide ((((v5.getD v6.toNat zEntry_).2).1) ≥ r4))) (inB (((v5.getD v6.toNat zEntry_).2).1) f.1.length) true) ((some (cond (decide ((((v5.getD v6.toNat zEntry_).2).1) ≥ r4)) true (((f.1.getD (((v5.getD v6.toNat zEntry_).2).1).toNat zInode_).1) == 0))).bind fun v7 => cond v7 (some (.inr (.inl 4))) (some (.inl (w64 (v6 + 1))))) (none)) (none)) (some (.inr (.inr ())))
def impl_treeFault_l1 (f : Fs_) (v : List Inode_) (v2 : Int) (v3 : Int) (v5 : List Entry_) (v4 : Int) : (Int) → Option (((Int) ⊕ (Unit))) :=
  loopL fun s => impl_treeFault_l1.B f v v2 v3 v5 v4 s
def impl_treeFault_l0.B (f : Fs_) (v : List Inode_) (v2 : Int) (v3 : Int) : Option ((Int) ⊕ (((Int) ⊕ (Unit)))) :=
  cond (decide (v3 < v2)) (cond (inB v3 v.length) ((some (((((((v.getD v3.toNat zInode_).2).2).2).2).1).length : Int)).bind fun v4 => (impl_treeFault_l1 f v v2 v3 ((((((v.getD v3.toNat zInode_).2).2).2).2).1) v4 0).bind fun o => sel o (fun b => some (.inr (.inl b))) (fun c => some (.inl (w64 (v3 + 1))))) (none)) (some (.inr (.inr ())))
def impl_treeFault_l0 (f : Fs_) (v : List Inode_) (v2 : Int) : (Int) → Option (((Int) ⊕ (Unit))) :=
  loopL fun s => impl_treeFault_l0.B f v v2 s
def impl_treeFault (f : Fs_) : Option (Int) :=
  (impl_rootFault f).bind fun r => cond (r != 0) (some r) ((slices_ContainsFunc_Sbyte_treeFault_c1 f.2.1 ()).bind fun r2 => cond r2 (some 2) ((impl_usedBlocks f.1).bind fun r3 => cond (!r3.2) (some 7) ((impl_treeFault_l0 f f.1 (f.1.length : Int) 0).bind fun o2 => sel o2 (fun b2 => some b2) (fun c2 => some 0))))
namespace impl_treeFault
def G : Gam := mkG [(130, impl_rootFault.FS), (131, slices_ContainsFunc_Sbyte_treeFault_c1.FS), (52, impl_usedBlocks.FS), (104, impl_size_Inode.FS)]
theorem Gok : GOk PR G := .cons impl_rootFault.ok (.cons slices_ContainsFunc_Sbyte_treeFault_c1.ok (.cons impl_usedBlocks.ok (.cons impl_size_Inode.ok .nil)))
end impl_treeFault
namespace impl_treeFault_l1
def c := codeAt (bodyOf Proofs.Tryz.f91) [1, 1, 1, 1, 0, 1, 0, 0, 1, 1, 0, 0, 1, 1, 0, 0]
def sp : SP := ⟨[(1, .pt tFs_), (27, .cs (.sl tInode_)), (28, .cs I64), (29, .cs I64), (34, .cs (.sl tEntry_)), (35, .cs I64), (36, .cs I64)], []⟩
def out (f : Fs_) (v : List Inode_) (v2 : Int) (v3 : Int) (v5 : List Entry_) (v4 : Int) : FOut (((Int) ⊕ (Unit))) := fun o _ k => sel o (fun b => k (.rt) ⟨[(2, .cs I64 b)], []⟩) (fun c => k (.ex 2) ⟨[(1, .pt tFs_ f), (27, .cs (.sl tInode_) v), (28, .cs I64 v2), (29, .cs I64 v3)], []⟩)
def fr := lfrag sp (fun x => impl_treeFault_l1 x.1.1 x.1.2.1 x.1.2.2.1 x.1.2.2.2.1 x.1.2.2.2.2.1 x.1.2.2.2.2.2.1 x.1.2.2.2.2.2.2.1) fun x => out x.1.1 x.1.2.1 x.1.2.2.1 x.1.2.2.2.1 x.1.2.2.2.2.1 x.1.2.2.2.2.2.1
theorem ok : CodeOk PR 58 1 (.loop c) fr :=
  lp_ok tbok hmix ⟨[1], [], [], 0⟩ .no (G := impl_treeFault.G) impl_treeFault.Gok (L := mkL []) (l := []) hT [1, 27, 28, 29, 34, 35, 36] [] [(2, ([1, 27, 28, 29], []))] ([2], []) (fun x s => B x.1.1 x.1.2.1 x.1.2.2.1 x.1.2.2.2.1 x.1.2.2.2.2.1 x.1.2.2.2.2.2.1 s) (fun x s => ⟨[(1, .pt tFs_ x.1.1), (27, .cs (.sl tInode_) x.1.2.1), (28, .cs I64 x.1.2.2.1), (29, .cs I64 x.1.2.2.2.1), (34, .cs (.sl tEntry_) x.1.2.2.2.2.1), (35, .cs I64 x.1.2.2.2.2.2.1), (36, .cs I64 s)], []⟩) (fun x => x.1.2.2.2.2.2.2.1)
    (fun x s => by simp only [B, mC, mB, mS, mO, mN]; kernel_rfl)
end impl_treeFault_l1
namespace impl_treeFault_l0
def c := codeAt (bodyOf Proofs.Tryz.f91) [1, 1, 1, 1, 0, 1, 0, 0]
def sp : SP := ⟨[(1, .pt tFs_), (27, .cs (.sl tInode_)), (28, .cs I64), (29, .cs I64)], []⟩
def out (f : Fs_) (v : List Inode_) (v2 : Int) : FOut (((Int) ⊕ (Unit))) := fun o _ k => sel o (fun b => k (.rt) ⟨[(2, .cs I64 b)], []⟩) (fun c => k (.ex 0) ⟨[], []⟩)
def fr := lfrag sp (fun x => impl_treeFault_l0 x.1.1 x.1.2.1 x.1.2.2.1 x.1.2.2.2.1) fun x => out x.1.1 x.1.2.1 x.1.2.2.1
theorem ok : CodeOk PR 58 1 (.loop c) fr :=
  lp_ok tbok hmix ⟨[1], [], [], 0⟩ (.R (.R (.L (.one (.R (.R (.one (.fr 1)))))))) (G := impl_treeFault.G) impl_treeFault.Gok (L := mkL [(1, impl_treeFault_l1.fr)]) (l := [(1, .loop impl_treeFault_l1.c)]) ⟨Lam.cons impl_treeFault_l1.ok, trivial⟩ [1, 27, 28, 29] [] [(0, ([], []))] ([2], []) (fun x s => B x.1.1 x.1.2.1 x.1.2.2.1 s) (fun x s => ⟨[(1, .pt tFs_ x.1.1), (27, .cs (.sl tInode_) x.1.2.1), (28, .cs I64 x.1.2.2.1), (29, .cs I64 s)], []⟩) (fun x => x.1.2.2.2.1)
    (fun x s => by simp only [B, mC, mB, mS, mO, mN]; kernel_rfl)
end impl_treeFault_l0
namespace impl_treeFault
def pts : List PT := [.cs tFs_]
def FS : FS := mkFS [.sh] pts (fun x => impl_treeFault x.1) fun t => ⟨[.cs I64 t], []⟩
theorem ok : FsOk PR 91 FS :=
  fn_ok tbok hmix Proofs.Tryz.f91 ⟨[1], [], [], 0⟩ (.R (.R (.R (.R (.L (.R (.one (.fr 0)))))))) (G := G) Gok (L := mkL [(1, impl_treeFault_l1.fr), (0, impl_treeFault_l0.fr)]) (l := [(0, .loop impl_treeFault_l0.c)]) ⟨Lam.skip rfl (Lam.cons impl_treeFault_l0.ok), trivial⟩
    (fun x => by simp only [impl_treeFault, mC, mB, mS, mO, mN]; kernel_rfl)
end impl_treeFault
def impl_reachOf_l1.B (list : List Inode_) (v3 : List Entry_) (v2 : Int) (seen_2 : List Bool) (v4 : Int) (open_3 : List Int) : Option ((Int × List Int) ⊕ (List Int)) :=
  cond (decide (v4 < v2)) (cond (inB v4 v3.length) (cond (decide ((open_3 ++ ([((v3.getD v4.toNat zEntry_).2).1])).length ≤ 2147483648)) (some (.inl (w64 (v4 + 1), open_3 ++ ([((v3.getD v4.toNat zEntry_).2).1])))) (none)) (none)) (some (.inr open_3))
def impl_reachOf_l1 (list : List Inode_) (v3 : List Entry_) (v2 : Int) (seen_2 : List Bool) : (Int × List Int) → Option (List Int) :=
  loopL fun s => impl_reachOf_l1.B list v3 v2 seen_2 s.1 s.2
def impl_reachOf_l0.B (list : List Inode_) (seen_ : List Bool) (open_ : List Int) : Option (((List Bool) × List Int) ⊕ (List Bool)) :=
  cond (decide ((open_.length : Int) > 0)) (cond (inB (w64 ((open_.length : Int) - 1)) open_.length) ((some (open_.getD ((w64 ((open_.length : Int) - 1)).toNat) 0)).bind fun v => cond (decide ((0 : Int) ≤ (w64 ((open_.length : Int) - 1))) && decide ((w64 ((open_.length : Int) - 1)) ≤ (open_.length : Int))) ((some ((open_.drop 0).take (((w64 ((open_.length : Int) - 1)).toNat) - 0))).bind fun open_2 => cond (inB v seen_.length) (cond (seen_.getD v.toNat false) (some (.inl (seen_, open_2))) (cond (inB v seen_.length) (cond (inB v list.length) ((some (((((((list.getD v.toNat zInode_).2).2).2).2).1).length : Int)).bind fun v2 => (impl_reachOf_l1 list ((((((list.getD v.toNat zInode_).2).2).2).2).1) v2 (seen_.set v.toNat true) (0, open_2)).bind fun o => some (.inl (seen_.set v.toNat true, o))) (none)) (none))) (none)) (none)) (none)) (some (.inr seen_))
def impl_reachOf_l0 (list : List Inode_) : ((List Bool) × List Int) → Option (List Bool) :=
  loopL fun s => impl_reachOf_l0.B list s.1 s.2
def impl_reachOf_l2.B (v5 : Int) (o2 : List Bool) (v6 : Int) (out_ : List Int) : Option ((Int × List Int) ⊕ (List Int)) :=
  cond (decide (v6 < v5)) (cond (inB v6 o2.length) (cond (o2.getD v6.toNat false) (cond (decide ((out_ ++ ([v6])).length ≤ 2147483648)) (some (.inl (w64 (v6 + 1), out_ ++ ([v6])))) (none)) (some (.inl (w64 (v6 + 1), out_)))) (none)) (some (.inr out_))
def impl_reachOf_l2 (v5 : Int) (o2 : List Bool) : (Int × List Int) → Option (List Int) :=
  loopL fun s => impl_reachOf_l2.B v5 o2 s.1 s.2
def impl_reachOf (list : List Inode_) (from_ : Int) : Option (List Int) :=
  cond (decide ((0 : Int) ≤ (list.length : Int)) && (decide ((list.length : Int) ≤ (list.length : Int)) && decide ((list.length : Int) ≤ 2147483648))) ((impl_reachOf_l0 list (List.replicate (list.length : Int).toNat false, [from_])).bind fun o2 => (impl_reachOf_l2 (o2.length : Int) o2 (0, [])).bind fun o3 => some o3) (none)
namespace impl_reachOf_l1
def c := codeAt (bodyOf Proofs.Tryz.f133) [1, 1, 1, 0, 0, 0, 1, 0, 1, 1, 1, 1, 1, 0, 0]
def sp : SP := ⟨[(0, .cs (.sl tInode_)), (5, .seg 5 []), (6, .seg 6 []), (43, .cs (.sl tEntry_)), (44, .cs I64), (45, .cs I64)], [(5, .reg, .cd (.sl .bool)), (6, .reg, .cd SI)]⟩
def out (list : List Inode_) (v3 : List Entry_) (v2 : Int) (seen_2 : List Bool) : FOut (List Int) := fun b _ k => k (.ex 2) ⟨[(0, .cs (.sl tInode_) list), (5, .seg 5 []), (6, .seg 6 [])], [sr 5 (.cd (.sl .bool) seen_2), sr 6 (.cd SI b)]⟩
def fr := lfrag sp (fun x => impl_reachOf_l1 x.1.1 x.1.2.2.2.1 x.1.2.2.2.2.1 x.2.1 (x.1.2.2.2.2.2.1, x.2.2.1)) fun x => out x.1.1 x.1.2.2.2.1 x.1.2.2.2.2.1 x.2.1
theorem ok : CodeOk PR 69 2 (.loop c) fr :=
  lp_ok tbok hmix h0 .no (G := (mkG [])) .nil (L := mkL []) (l := []) hT [0, 5, 6, 43, 44, 45] [5, 6] [(2, ([0, 5, 6], [5, 6]))] ([], []) (fun x s => B x.1.1 x.1.2.2.2.1 x.1.2.2.2.2.1 x.2.1 s.1 s.2) (fun x s => ⟨[(0, .cs (.sl tInode_) x.1.1), (5, .seg 5 []), (6, .seg 6 []), (43, .cs (.sl tEntry_) x.1.2.2.2.1), (44, .cs I64 x.1.2.2.2.2.1), (45, .cs I64 s.1)], [sr 5 (.cd (.sl .bool) x.2.1), sr 6 (.cd SI s.2)]⟩) (fun x => (x.1.2.2.2.2.2.1, x.2.2.1))
    (fun x s => by simp only [B, mC, mB, mS, mO, mN]; kernel_rfl)
end impl_reachOf_l1
namespace impl_reachOf_l0
def c := codeAt (bodyOf Proofs.Tryz.f133) [1, 1, 1, 0, 0, 0]
def sp : SP := ⟨[(0, .cs (.sl tInode_)), (5, .seg 5 []), (6, .seg 6 [])], [(5, .reg, .cd (.sl .bool)), (6, .reg, .cd SI)]⟩
def out (list : List Inode_) : FOut (List Bool) := fun b _ k => k (.ex 0) ⟨[(5, .seg 5 [])], [sr 5 (.cd (.sl .bool) b)]⟩
def fr := lfrag sp (fun x => impl_reachOf_l0 x.1.1 (x.2.1, x.2.2.1)) fun x => out x.1.1
theorem ok : CodeOk PR 69 2 (.loop c) fr :=
  lp_ok tbok hmix h0 (.R (.one (.R (.R (.R (.R (.R (.one (.fr 1))))))))) (G := (mkG [])) .nil (L := mkL [(1, impl_reachOf_l1.fr)]) (l := [(1, .loop impl_reachOf_l1.c)]) ⟨Lam.cons impl_reachOf_l1.ok, trivial⟩ [0, 5, 6] [5, 6] [(0, ([5], [5]))] ([], []) (fun x s => B x.1.1 s.1 s.2) (fun x s => ⟨[(0, .cs (.sl tInode_) x.1.1), (5, .seg 5 []), (6, .seg 6 [])], [sr 5 (.cd (.sl .bool) s.1), sr 6 (.cd SI s.2)]⟩) (fun x => (x.2.1, x.2.2.1))
    (fun x s => by simp only [B, mC, mB, mS, mO, mN]; kernel_rfl)
end impl_reachOf_l0
namespace impl_reachOf_l2
def c := codeAt (bodyOf Proofs.Tryz.f133) [1, 1, 1, 1, 1, 0, 1, 0, 0]
def sp : SP := ⟨[(10, .seg 10 []), (55, .seg 5 []), (56, .cs I64), (57, .cs I64)], [(5, .reg, .cd (.sl .bool)), (10, .reg, .cd SI)]⟩
def out (v5 : Int) (o2 : List Bool) : FOut (List Int) := fun b _ k => k (.ex 4) ⟨[(10, .seg 10 [])], [sr 10 (.cd SI b)]⟩
def fr := lfrag sp (fun x => impl_reachOf_l2 x.1.2.2.1 x.2.1 (x.1.2.2.2.1, x.2.2.1)) fun x => out x.1.2.2.1 x.2.1
theorem ok : CodeOk PR 69 2 (.loop c) fr :=
  lp_ok tbok hmix h0 .no (G := (mkG [])) .nil (L := mkL []) (l := []) hT [10, 55, 56, 57] [5, 10] [(4, ([10], [10]))] ([], []) (fun x s => B x.1.2.2.1 x.2.1 s.1 s.2) (fun x s => ⟨[(10, .seg 10 []), (55, .seg 5 []), (56, .cs I64 x.1.2.2.1), (57, .cs I64 s.1)], [sr 5 (.cd (.sl .bool) x.2.1), sr 10 (.cd SI s.2)]⟩) (fun x => (x.1.2.2.2.1, x.2.2.1))
    (fun x s => by simp only [B, mC, mB, mS, mO, mN]; kernel_rfl)
end impl_reachOf_l2
namespace impl_reachOf
def pts : List PT := [.cs (.sl tInode_), .cs I64]
def FS : FS := mkFS [.sh, .sh] pts (fun x => impl_reachOf x.1 x.2.1) fun t => ⟨[.cd SI t], []⟩
theorem ok : FsOk PR 133 FS :=
  fn_ok tbok hmix Proofs.Tryz.f133 h0 (.R (.R (.R (.two (.one (.fr 0)) (.R (.L (.R (.one (.fr 2))))))))) (G := (mkG [])) .nil (L := mkL [(1, impl_reachOf_l1.fr), (0, impl_reachOf_l0.fr), (2, impl_reachOf_l2.fr)]) (l := [(0, .loop impl_reachOf_l0.c), (2, .loop impl_reachOf_l2.c)]) ⟨Lam.skip rfl (Lam.cons impl_reachOf_l0.ok), Lam.skip rfl (Lam.skip rfl (Lam.cons impl_reachOf_l2.ok)), trivial⟩
    (fun x => by simp only [impl_reachOf, mC, mB, mS, mO, mN]; kernel_rfl)
end impl_reachOf
def impl_linksOf_l1.B (at_ : Int) (list : List Inode_) (v : Int) (v2 : Int) (v4 : List Entry_) (v3 : Int) (count_2 : Int) (v5 : Int) : Option ((Int × Int) ⊕ (Int)) :=
  cond (decide (v5 < v3)) (cond (inB v5 v4.length) (cond ((((v4.getD v5.toNat zEntry_).2).1) == at_) (some (.inl (w64 (count_2 + 1), w64 (v5 + 1)))) (some (.inl (count_2, w64 (v5 + 1))))) (none)) (some (.inr count_2))
def impl_linksOf_l1 (at_ : Int) (list : List Inode_) (v : Int) (v2 : Int) (v4 : List Entry_) (v3 : Int) : (Int × Int) → Option (Int) :=
  loopL fun s => impl_linksOf_l1.B at_ list v v2 v4 v3 s.1 s.2
def impl_linksOf_l0.B (at_ : Int) (list : List Inode_) (v : Int) (count_ : Int) (v2 : Int) : Option ((Int × Int) ⊕ (Int)) :=
  cond (decide (v2 < v)) (cond (inB v2 list.length) ((some (((((((list.getD v2.toNat zInode_).2).2).2).2).1).length : Int)).bind fun v3 => (impl_linksOf_l1 at_ list v v2 ((((((list.getD v2.toNat zInode_).2).2).2).2).1) v3 (count_, 0)).bind fun o => some (.inl (o, w64 (v2 + 1)))) (none)) (some (.inr count_))
def impl_linksOf_l0 (at_ : Int) (list : List Inode_) (v : Int) : (Int × Int) → Option (Int) :=
  loopL fun s => impl_linksOf_l0.B at_ list v s.1 s.2
def impl_linksOf (list : List Inode_) (at_ : Int) : Option (Int) :=
  (impl_linksOf_l0 at_ list (list.length : Int) (0, 0)).bind fun o2 => some o2
namespace impl_linksOf_l1
def c := codeAt (bodyOf Proofs.Tryz.f134) [1, 1, 0, 1, 0, 0, 1, 1, 0, 0, 1, 1, 0, 0]
def sp : SP := ⟨[(1, .cs I64), (5, .cs I64), (10, .cs (.sl tInode_)), (11, .cs I64), (12, .cs I64), (17, .cs (.sl tEntry_)), (18, .cs I64), (19, .cs I64)], []⟩
def out (at_ : Int) (list : List Inode_) (v : Int) (v2 : Int) (v4 : List Entry_) (v3 : Int) : FOut (Int) := fun b _ k => k (.ex 2) ⟨[(1, .cs I64 at_), (5, .cs I64 b), (10, .cs (.sl tInode_) list), (11, .cs I64 v), (12, .cs I64 v2)], []⟩
def fr := lfrag sp (fun x => impl_linksOf_l1 x.1.1 x.1.2.2.1 x.1.2.2.2.1 x.1.2.2.2.2.1 x.1.2.2.2.2.2.1 x.1.2.2.2.2.2.2.1 (x.1.2.1, x.1.2.2.2.2.2.2.2.1)) fun x => out x.1.1 x.1.2.2.1 x.1.2.2.2.1 x.1.2.2.2.2.1 x.1.2.2.2.2.2.1 x.1.2.2.2.2.2.2.1
theorem ok : CodeOk PR 32 2 (.loop c) fr :=
  lp_ok tbok hmix h0 .no (G := (mkG [])) .nil (L := mkL []) (l := []) hT [1, 5, 10, 11, 12, 17, 18, 19] [] [(2, ([1, 5, 10, 11, 12], []))] ([], []) (fun x s => B x.1.1 x.1.2.2.1 x.1.2.2.2.1 x.1.2.2.2.2.1 x.1.2.2.2.2.2.1 x.1.2.2.2.2.2.2.1 s.1 s.2) (fun x s => ⟨[(1, .cs I64 x.1.1), (5, .cs I64 s.1), (10, .cs (.sl tInode_) x.1.2.2.1), (11, .cs I64 x.1.2.2.2.1), (12, .cs I64 x.1.2.2.2.2.1), (17, .cs (.sl tEntry_) x.1.2.2.2.2.2.1), (18, .cs I64 x.1.2.2.2.2.2.2.1), (19, .cs I64 s.2)], []⟩) (fun x => (x.1.2.1, x.1.2.2.2.2.2.2.2.1))
    (fun x s => by simp only [B, mC, mB, mS, mO, mN]; kernel_rfl)
end impl_linksOf_l1
namespace impl_linksOf_l0
def c := codeAt (bodyOf Proofs.Tryz.f134) [1, 1, 0, 1, 0, 0]
def sp : SP := ⟨[(1, .cs I64), (5, .cs I64), (10, .cs (.sl tInode_)), (11, .cs I64), (12, .cs I64)], []⟩
def out (at_ : Int) (list : List Inode_) (v : Int) : FOut (Int) := fun b _ k => k (.ex 0) ⟨[(5, .cs I64 b)], []⟩
def fr := lfrag sp (fun x => impl_linksOf_l0 x.1.1 x.1.2.2.1 x.1.2.2.2.1 (x.1.2.1, x.1.2.2.2.2.1)) fun x => out x.1.1 x.1.2.2.1 x.1.2.2.2.1
theorem ok : CodeOk PR 32 2 (.loop c) fr :=
  lp_ok tbok hmix h0 (.R (.R (.L (.one (.R (.R (.one (.fr 1)))))))) (G := (mkG [])) .nil (L := mkL [(1, impl_linksOf_l1.fr)]) (l := [(1, .loop impl_linksOf_l1.c)]) ⟨Lam.cons impl_linksOf_l1.ok, trivial⟩ [1, 5, 10, 11, 12] [] [(0, ([5], []))] ([], []) (fun x s => B x.1.1 x.1.2.2.1 x.1.2.2.2.1 s.1 s.2) (fun x s => ⟨[(1, .cs I64 x.1.1), (5, .cs I64 s.1), (10, .cs (.sl tInode_) x.1.2.2.1), (11, .cs I64 x.1.2.2.2.1), (12, .cs I64 s.2)], []⟩) (fun x => (x.1.2.1, x.1.2.2.2.2.1))
    (fun x s => by simp only [B, mC, mB, mS, mO, mN]; kernel_rfl)
end impl_linksOf_l0
namespace impl_linksOf
def pts : List PT := [.cs (.sl tInode_), .cs I64]
def FS : FS := mkFS [.sh, .sh] pts (fun x => impl_linksOf x.1 x.2.1) fun t => ⟨[.cs I64 t], []⟩
theorem ok : FsOk PR 134 FS :=
  fn_ok tbok hmix Proofs.Tryz.f134 h0 (.R (.R (.L (.R (.one (.fr 0)))))) (G := (mkG [])) .nil (L := mkL [(1, impl_linksOf_l1.fr), (0, impl_linksOf_l0.fr)]) (l := [(0, .loop impl_linksOf_l0.c)]) ⟨Lam.skip rfl (Lam.cons impl_linksOf_l0.ok), trivial⟩
    (fun x => by simp only [impl_linksOf, mC, mB, mS, mO, mN]; kernel_rfl)
end impl_linksOf
def impl_linksFault_l0.B (f : Fs_) (v : List Inode_) (v2 : Int) (r : List Int) (v3 : Int) : Option ((Int) ⊕ (((Int) ⊕ (Unit)))) :=
  cond (decide (v3 < v2)) (cond (inB v3 v.length) ((impl_linksOf f.1 v3).bind fun r2 => (some (cond (((v.getD v3.toNat zInode_).1) == 1) ((((v.getD v3.toNat zInode_).2).1) != r2) false)).bind fun v4 => cond v4 (some (.inr (.inl 1))) ((some (cond (((v.getD v3.toNat zInode_).1) == 2) (v3 == 0) false)).bind fun v5 => cond (cond v5 (r2 != 0) false) (some (.inr (.inl 1))) ((some (cond (((v.getD v3.toNat zInode_).1) == 2) (decide (v3 > 0)) false)).bind fun v6 => cond (cond v6 (r2 != 1) false) (some (.inr (.inl 1))) (cond (((v.getD v3.toNat zInode_).1) != 0) ((slices_Contains_int64 r v3).bind fun r3 => cond (!r3) (some (.inr (.inl 1))) (some (.inl (w64 (v3 + 1))))) (some (.inl (w64 (v3 + 1)))))))) (none)) (some (.inr (.inr ())))
def impl_linksFault_l0 (f : Fs_) (v : List Inode_) (v2 : Int) (r : List Int) : (Int) → Option (((Int) ⊕ (Unit))) :=
  loopL fun s => impl_linksFault_l0.B f v v2 r s
def impl_linksFault (f : Fs_) : Option (Int) :=
  (impl_reachOf f.1 0).bind fun r => (impl_linksFault_l0 f f.1 (f.1.length : Int) r 0).bind fun o => sel o (fun b => some b) (fun c => some 0)
namespace impl_linksFault
def G : Gam := mkG [(133, impl_reachOf.FS), (134, impl_linksOf.FS), (94, slices_Contains_int64.FS)]
theorem Gok : GOk PR G := .cons impl_reachOf.ok (.cons impl_linksOf.ok (.cons slices_Contains_int64.ok .nil))
end impl_linksFault
namespace impl_linksFault_l0
def c := codeAt (bodyOf Proofs.Tryz.f92) [1, 1, 0, 1, 0, 0]
def sp : SP := ⟨[(1, .pt tFs_), (3, .seg 3 []), (12, .cs (.sl tInode_)), (13, .cs I64), (14, .cs I64)], [(3, .reg, .cd SI)]⟩
def out (f : Fs_) (v : List Inode_) (v2 : Int) (r : List Int) : FOut (((Int) ⊕ (Unit))) := fun o _ k => sel o (fun b => k (.rt) ⟨[(2, .cs I64 b)], []⟩) (fun c => k (.ex 0) ⟨[], []⟩)
def fr := lfrag sp (fun x => impl_linksFault_l0 x.1.1 x.1.2.2.1 x.1.2.2.2.1 x.2.1 x.1.2.2.2.2.1) fun x => out x.1.1 x.1.2.2.1 x.1.2.2.2.1 x.2.1
theorem ok : CodeOk PR 66 1 (.loop c) fr :=
  lp_ok tbok hmix ⟨[1], [], [], 0⟩ .no (G := impl_linksFault.G) impl_linksFault.Gok (L := mkL []) (l := []) hT [1, 3, 12, 13, 14] [3] [(0, ([], []))] ([2], []) (fun x s => B x.1.1 x.1.2.2.1 x.1.2.2.2.1 x.2.1 s) (fun x s => ⟨[(1, .pt tFs_ x.1.1), (3, .seg 3 []), (12, .cs (.sl tInode_) x.1.2.2.1), (13, .cs I64 x.1.2.2.2.1), (14, .cs I64 s)], [sr 3 (.cd SI x.2.1)]⟩) (fun x => x.1.2.2.2.2.1)
    (fun x s => by simp only [B, mC, mB, mS, mO, mN]; kernel_rfl)
end impl_linksFault_l0
namespace impl_linksFault
def pts : List PT := [.cs tFs_]
def FS : FS := mkFS [.sh] pts (fun x => impl_linksFault x.1) fun t => ⟨[.cs I64 t], []⟩
theorem ok : FsOk PR 92 FS :=
  fn_ok tbok hmix Proofs.Tryz.f92 ⟨[1], [], [], 0⟩ (.R (.R (.L (.R (.one (.fr 0)))))) (G := G) Gok (L := mkL [(0, impl_linksFault_l0.fr)]) (l := [(0, .loop impl_linksFault_l0.c)]) ⟨Lam.cons impl_linksFault_l0.ok, trivial⟩
    (fun x => by simp only [impl_linksFault, mC, mB, mS, mO, mN]; kernel_rfl)
end impl_linksFault
def impl_longs_l1.B (list : List Inode_) (v : Int) (v2 : Int) (v5 : List Int) (v4 : Int) (v3 : List Int) (x_ : Inode_) (v6 : Int) (out_2 : List Int) : Option ((Int × List Int) ⊕ (List Int)) :=
  cond (decide (v6 < v4)) (cond (inB v6 v5.length) ((some (cond (decide ((w64 (x_.2.2.1 - (w64 (v6 * 8)))) < 8)) (w64 (x_.2.2.1 - (w64 (v6 * 8)))) 8)).bind fun v7 => cond (inB (v5.getD v6.toNat 0) 20) (some (.inl (w64 (v6 + 1), out_2.set ((v5.getD v6.toNat 0).toNat) v7))) (none)) (none)) (some (.inr out_2))
def impl_longs_l1 (list : List Inode_) (v : Int) (v2 : Int) (v5 : List Int) (v4 : Int) (v3 : List Int) (x_ : Inode_) : (Int × List Int) → Option (List Int) :=
  loopL fun s => impl_longs_l1.B list v v2 v5 v4 v3 x_ s.1 s.2
def impl_longs_l0.B (list : List Inode_) (v : Int) (v3 : List Int) (v2 : Int) (out_ : List Int) : Option ((Int × List Int) ⊕ (List Int)) :=
  cond (decide (v2 < v)) (cond (inB v2 list.length) ((some ((((((list.getD v2.toNat zInode_).2).2).2).1).length : Int)).bind fun v4 => (impl_longs_l1 list v v2 (((((list.getD v2.toNat zInode_).2).2).2).1) v4 v3 (list.getD v2.toNat zInode_) (0, out_)).bind fun o => some (.inl (w64 (v2 + 1), o))) (none)) (some (.inr out_))
def impl_longs_l0 (list : List Inode_) (v : Int) (v3 : List Int) : (Int × List Int) → Option (List Int) :=
  loopL fun s => impl_longs_l0.B list v v3 s.1 s.2
def impl_longs (list : List Inode_) : Option (List Int) :=
  (impl_longs_l0 list (list.length : Int) (List.replicate 20 0) (0, (List.replicate 20 0))).bind fun o2 => some o2
namespace impl_longs_l1
def c := codeAt (bodyOf Proofs.Tryz.f121) [1, 1, 0, 1, 0, 0, 1, 1, 0, 0, 1, 1, 0, 0]
def sp : SP := ⟨[(2, .loc 2 []), (3, .loc 3 []), (5, .loc 5 []), (8, .cs (.sl tInode_)), (9, .cs I64), (10, .cs I64), (15, .cs SI), (16, .cs I64), (17, .cs I64)], [(2, .mem, .cd (.arr 20 I64)), (3, .mem, .cd (.arr 20 I64)), (5, .mem, .cs tInode_)]⟩
def out (list : List Inode_) (v : Int) (v2 : Int) (v5 : List Int) (v4 : Int) (v3 : List Int) (x_ : Inode_) : FOut (List Int) := fun b _ k => k (.ex 2) ⟨[(2, .loc 2 []), (3, .loc 3 []), (8, .cs (.sl tInode_) list), (9, .cs I64 v), (10, .cs I64 v2)], [(2, some ⟨.mem, .cd (.arr 20 I64) v3⟩), (3, some ⟨.mem, .cd (.arr 20 I64) b⟩)]⟩
def fr := lfrag sp (fun x => impl_longs_l1 x.1.2.2.2.1 x.1.2.2.2.2.1 x.1.2.2.2.2.2.1 x.1.2.2.2.2.2.2.1 x.1.2.2.2.2.2.2.2.1 x.2.1 x.2.2.2.1 (x.1.2.2.2.2.2.2.2.2.1, x.2.2.1)) fun x => out x.1.2.2.2.1 x.1.2.2.2.2.1 x.1.2.2.2.2.2.1 x.1.2.2.2.2.2.2.1 x.1.2.2.2.2.2.2.2.1 x.2.1 x.2.2.2.1
theorem ok : CodeOk PR 33 1 (.loop c) fr :=
  lp_ok tbok hmix h0 .no (G := (mkG [])) .nil (L := mkL []) (l := []) hT [2, 3, 5, 8, 9, 10, 15, 16, 17] [2, 3, 5] [(2, ([2, 3, 8, 9, 10], [2, 3]))] ([], []) (fun x s => B x.1.2.2.2.1 x.1.2.2.2.2.1 x.1.2.2.2.2.2.1 x.1.2.2.2.2.2.2.1 x.1.2.2.2.2.2.2.2.1 x.2.1 x.2.2.2.1 s.1 s.2) (fun x s => ⟨[(2, .loc 2 []), (3, .loc 3 []), (5, .loc 5 []), (8, .cs (.sl tInode_) x.1.2.2.2.1), (9, .cs I64 x.1.2.2.2.2.1), (10, .cs I64 x.1.2.2.2.2.2.1), (15, .cs SI x.1.2.2.2.2.2.2.1), (16, .cs I64 x.1.2.2.2.2.2.2.2.1), (17, .cs I64 s.1)], [(2, some ⟨.mem, .cd (.arr 20 I64) x.2.1⟩), (3, some ⟨.mem, .cd (.arr 20 I64) s.2⟩), (5, some ⟨.mem, .cs tInode_ x.2.2.2.1⟩)]⟩) (fun x => (x.1.2.2.2.2.2.2.2.2.1, x.2.2.1))
    (fun x s => by simp only [B, mC, mB, mS, mO, mN]; kernel_rfl)
end impl_longs_l1
namespace impl_longs_l0
def c := codeAt (bodyOf Proofs.Tryz.f121) [1, 1, 0, 1, 0, 0]
def sp : SP := ⟨[(2, .loc 2 []), (3, .loc 3 []), (8, .cs (.sl tInode_)), (9, .cs I64), (10, .cs I64)], [(2, .mem, .cd (.arr 20 I64)), (3, .mem, .cd (.arr 20 I64))]⟩
def out (list : List Inode_) (v : Int) (v3 : List Int) : FOut (List Int) := fun b _ k => k (.ex 0) ⟨[(2, .loc 2 []), (3, .loc 3 [])], [(2, some ⟨.mem, .cd (.arr 20 I64) v3⟩), (3, some ⟨.mem, .cd (.arr 20 I64) b⟩)]⟩
def fr := lfrag sp (fun x => impl_longs_l0 x.1.2.2.1 x.1.2.2.2.1 x.2.1 (x.1.2.2.2.2.1, x.2.2.1)) fun x => out x.1.2.2.1 x.1.2.2.2.1 x.2.1
theorem ok : CodeOk PR 33 1 (.loop c) fr :=
  lp_ok tbok hmix h0 (.R (.R (.L (.one (.R (.R (.one (.fr 1)))))))) (G := (mkG [])) .nil (L := mkL [(1, impl_longs_l1.fr)]) (l := [(1, .loop impl_longs_l1.c)]) ⟨Lam.cons impl_longs_l1.ok, trivial⟩ [2, 3, 8, 9, 10] [2, 3] [(0, ([2, 3], [2, 3]))] ([], []) (fun x s => B x.1.2.2.1 x.1.2.2.2.1 x.2.1 s.1 s.2) (fun x s => ⟨[(2, .loc 2 []), (3, .loc 3 []), (8, .cs (.sl tInode_) x.1.2.2.1), (9, .cs I64 x.1.2.2.2.1), (10, .cs I64 s.1)], [(2, some ⟨.mem, .cd (.arr 20 I64) x.2.1⟩), (3, some ⟨.mem, .cd (.arr 20 I64) s.2⟩)]⟩) (fun x => (x.1.2.2.2.2.1, x.2.2.1))
    (fun x s => by simp only [B, mC, mB, mS, mO, mN]; kernel_rfl)
end impl_longs_l0
namespace impl_longs
def pts : List PT := [.cs (.sl tInode_)]
def FS : FS := mkFS [.sh] pts (fun x => impl_longs x.1) fun t => ⟨[.cs (.arr 20 I64) t], []⟩
theorem ok : FsOk PR 121 FS :=
  fn_ok tbok hmix Proofs.Tryz.f121 h0 (.R (.R (.L (.R (.one (.fr 0)))))) (G := (mkG [])) .nil (L := mkL [(1, impl_longs_l1.fr), (0, impl_longs_l0.fr)]) (l := [(0, .loop impl_longs_l0.c)]) ⟨Lam.skip rfl (Lam.cons impl_longs_l0.ok), trivial⟩
    (fun x => by simp only [impl_longs, mC, mB, mS, mO, mN]; kernel_rfl)
end impl_longs
def impl_size_byte (l : List Int) : Option (Int) :=
  some (l.length : Int)
namespace impl_size_byte
def pts : List PT := [.cs SB]
def FS : FS := mkFS [.sh] pts (fun x => impl_size_byte x.1) fun t => ⟨[.cs I64 t], []⟩
theorem ok : FsOk PR 135 FS :=
  fn_ok tbok hmix Proofs.Tryz.f135 h0 .no (G := (mkG [])) .nil (L := mkL []) (l := []) hT
    (fun x => by simp only [impl_size_byte, mC, mB, mS, mO, mN]; kernel_rfl)
end impl_size_byte
def impl_dataFault_l0.B (f : Fs_) (r : List Int) (v : Int) : Option ((Int) ⊕ (((Int) ⊕ (Unit)))) :=
  cond (decide (v < 20)) (cond (inB v 20) (cond (inB v f.2.1.length) ((impl_size_byte (f.2.1.getD v.toNat [])).bind fun r2 => cond (r2 != (r.getD v.toNat 0)) (some (.inr (.inl 1))) (some (.inl (w64 (v + 1))))) (none)) (none)) (some (.inr (.inr ())))
def impl_dataFault_l0 (f : Fs_) (r : List Int) : (Int) → Option (((Int) ⊕ (Unit))) :=
  loopL fun s => impl_dataFault_l0.B f r s
def impl_dataFault (f : Fs_) : Option (Int) :=
  (impl_longs f.1).bind fun r => (impl_dataFault_l0 f r 0).bind fun o => sel o (fun b => some b) (fun c => some 0)
namespace impl_dataFault
def G : Gam := mkG [(121, impl_longs.FS), (135, impl_size_byte.FS)]
theorem Gok : GOk PR G := .cons impl_longs.ok (.cons impl_size_byte.ok .nil)
end impl_dataFault
namespace impl_dataFault_l0
def c := codeAt (bodyOf Proofs.Tryz.f93) [1, 0, 1, 0, 0]
def sp : SP := ⟨[(1, .pt tFs_), (7, .cs (.arr 20 I64)), (8, .cs I64)], []⟩
def out (f : Fs_) (r : List Int) : FOut (((Int) ⊕ (Unit))) := fun o _ k => sel o (fun b => k (.rt) ⟨[(2, .cs I64 b)], []⟩) (fun c => k (.ex 0) ⟨[], []⟩)
def fr := lfrag sp (fun x => impl_dataFault_l0 x.1.1 x.1.2.1 x.1.2.2.1) fun x => out x.1.1 x.1.2.1
theorem ok : CodeOk PR 21 1 (.loop c) fr :=
  lp_ok tbok hmix ⟨[1], [], [], 0⟩ .no (G := impl_dataFault.G) impl_dataFault.Gok (L := mkL []) (l := []) hT [1, 7, 8] [] [(0, ([], []))] ([2], []) (fun x s => B x.1.1 x.1.2.1 s) (fun x s => ⟨[(1, .pt tFs_ x.1.1), (7, .cs (.arr 20 I64) x.1.2.1), (8, .cs I64 s)], []⟩) (fun x => x.1.2.2.1)
    (fun x s => by simp only [B, mC, mB, mS, mO, mN]; kernel_rfl)
end impl_dataFault_l0
namespace impl_dataFault
def pts : List PT := [.cs tFs_]
def FS : FS := mkFS [.sh] pts (fun x => impl_dataFault x.1) fun t => ⟨[.cs I64 t], []⟩
theorem ok : FsOk PR 93 FS :=
  fn_ok tbok hmix Proofs.Tryz.f93 ⟨[1], [], [], 0⟩ (.R (.L (.R (.one (.fr 0))))) (G := G) Gok (L := mkL [(0, impl_dataFault_l0.fr)]) (l := [(0, .loop impl_dataFault_l0.c)]) ⟨Lam.cons impl_dataFault_l0.ok, trivial⟩
    (fun x => by simp only [impl_dataFault, mC, mB, mS, mO, mN]; kernel_rfl)
end impl_dataFault
def impl_fsFault (f : Fs_) : Option (Int) :=
  (impl_treeFault f).bind fun r => cond (r != 0) (some r) ((impl_linksFault f).bind fun r2 => cond (r2 != 0) (some r2) ((impl_dataFault f).bind fun r3 => some r3))
namespace impl_fsFault
def G : Gam := mkG [(91, impl_treeFault.FS), (92, impl_linksFault.FS), (93, impl_dataFault.FS)]
def pts : List PT := [.cs tFs_]
def FS : FS := mkFS [.sh] pts (fun x => impl_fsFault x.1) fun t => ⟨[.cs I64 t], []⟩
theorem ok : FsOk PR 46 FS :=
  fn_ok tbok hmix Proofs.Tryz.f46 ⟨[1], [], [], 0⟩ .no (G := G) (show GOk PR G from .cons impl_treeFault.ok (.cons impl_linksFault.ok (.cons impl_dataFault.ok .nil))) (L := mkL []) (l := []) hT
    (fun x => by simp only [impl_fsFault, mC, mB, mS, mO, mN]; kernel_rfl)
end impl_fsFault
def impl_Fs_dataPuts_l1.B (f : Fs_) (v : Int) (v2 : Int) (v7 : List Int) (v6 : Int) (list_ : List Put_) (v3 : List Int) (v4 : Bool) (v5 : Unit) (v8 : Int) (p_ : Put_) : Option ((Int × Put_) ⊕ (Put_)) :=
  cond (decide (v8 < v6)) (cond (inB v8 v7.length) (cond (decide ((p_.2.1 ++ ([w64 (v7.getD v8.toNat 0)])).length ≤ 2147483648)) (some (.inl (w64 (v8 + 1), (p_.1, p_.2.1 ++ ([w64 (v7.getD v8.toNat 0)]), p_.2.2)))) (none)) (none)) (some (.inr p_))
def impl_Fs_dataPuts_l1 (f : Fs_) (v : Int) (v2 : Int) (v7 : List Int) (v6 : Int) (list_ : List Put_) (v3 : List Int) (v4 : Bool) (v5 : Unit) : (Int × Put_) → Option (Put_) :=
  loopL fun s => impl_Fs_dataPuts_l1.B f v v2 v7 v6 list_ v3 v4 v5 s.1 s.2
def impl_Fs_dataPuts_l0.B (f : Fs_) (v : Int) (v3 : List Int) (v4 : Bool) (v5 : Unit) (v2 : Int) (list_ : List Put_) : Option ((Int × List Put_) ⊕ (List Put_)) :=
  cond (decide (v2 < v)) (cond (inB v2 v3.length) (cond (inB (v3.getD v2.toNat 0) f.2.1.length) ((some ((f.2.1.getD (v3.getD v2.toNat 0).toNat []).length : Int)).bind fun v6 => (impl_Fs_dataPuts_l1 f v v2 (f.2.1.getD (v3.getD v2.toNat 0).toNat []) v6 list_ v3 v4 v5 (0, (w64 ((27 : Int) + (v3.getD v2.toNat 0)), [], ()))).bind fun o => cond (decide ((list_ ++ ([(o.1, o.2.1, o.2.2)])).length ≤ 2147483648)) (some (.inl (w64 (v2 + 1), list_ ++ ([(o.1, o.2.1, o.2.2)])))) (none)) (none)) (none)) (some (.inr list_))
def impl_Fs_dataPuts_l0 (f : Fs_) (v : Int) (v3 : List Int) (v4 : Bool) (v5 : Unit) : (Int × List Put_) → Option (List Put_) :=
  loopL fun s => impl_Fs_dataPuts_l0.B f v v3 v4 v5 s.1 s.2
def impl_Fs_dataPuts (f : Fs_) : Option (List Put_) :=
  (impl_usedBlocks f.1).bind fun r => (impl_Fs_dataPuts_l0 f (r.1.length : Int) r.1 r.2 () (0, [])).bind fun o2 => some o2
namespace impl_Fs_dataPuts
def G : Gam := mkG [(52, impl_usedBlocks.FS)]
theorem Gok : GOk PR G := .cons impl_usedBlocks.ok .nil
end impl_Fs_dataPuts
namespace impl_Fs_dataPuts_l1
def c := codeAt (bodyOf Proofs.Tryz.f58) [1, 1, 1, 0, 1, 0, 0, 1, 1, 0, 0, 1, 1, 0, 1, 0, 0]
def sp : SP := ⟨[(0, .pt tFs_), (5, .seg 5 []), (8, .loc 8 []), (19, .seg 16 [.f1]), (20, .cs I64), (21, .cs I64), (34, .cs SB), (35, .cs I64), (36, .cs I64)], [(5, .reg, .cd (.sl tPut_)), (8, .mem, .cd tPut_), (16, .reg, .pr (.cd SI) (.pr (.cs .bool) (.cs .unit)))]⟩
def out (f : Fs_) (v : Int) (v2 : Int) (v7 : List Int) (v6 : Int) (list_ : List Put_) (v3 : List Int) (v4 : Bool) (v5 : Unit) : FOut (Put_) := fun b _ k => k (.ex 2) ⟨[(0, .pt tFs_ f), (5, .seg 5 []), (8, .loc 8 []), (19, .seg 16 [.f1]), (20, .cs I64 v), (21, .cs I64 v2)], [sr 5 (.cd (.sl tPut_) list_), (8, some ⟨.mem, .cd tPut_ b⟩), (16, some ⟨.reg, .pr (.cd SI v3) (.pr (.cs .bool v4) (.cs .unit v5))⟩)]⟩
def fr := lfrag sp (fun x => impl_Fs_dataPuts_l1 x.1.1 x.1.2.2.2.2.1 x.1.2.2.2.2.2.1 x.1.2.2.2.2.2.2.1 x.1.2.2.2.2.2.2.2.1 x.2.1 x.2.2.2.1.1 x.2.2.2.1.2.1 x.2.2.2.1.2.2 (x.1.2.2.2.2.2.2.2.2.1, x.2.2.1)) fun x => out x.1.1 x.1.2.2.2.2.1 x.1.2.2.2.2.2.1 x.1.2.2.2.2.2.2.1 x.1.2.2.2.2.2.2.2.1 x.2.1 x.2.2.2.1.1 x.2.2.2.1.2.1 x.2.2.2.1.2.2
theorem ok : CodeOk PR 54 1 (.loop c) fr :=
  lp_ok tbok hmix h0 .no (G := impl_Fs_dataPuts.G) impl_Fs_dataPuts.Gok (L := mkL []) (l := []) hT [0, 5, 8, 19, 20, 21, 34, 35, 36] [5, 8, 16] [(2, ([0, 5, 8, 19, 20, 21], [5, 8, 16]))] ([], []) (fun x s => B x.1.1 x.1.2.2.2.2.1 x.1.2.2.2.2.2.1 x.1.2.2.2.2.2.2.1 x.1.2.2.2.2.2.2.2.1 x.2.1 x.2.2.2.1.1 x.2.2.2.1.2.1 x.2.2.2.1.2.2 s.1 s.2) (fun x s => ⟨[(0, .pt tFs_ x.1.1), (5, .seg 5 []), (8, .loc 8 []), (19, .seg 16 [.f1]), (20, .cs I64 x.1.2.2.2.2.1), (21, .cs I64 x.1.2.2.2.2.2.1), (34, .cs SB x.1.2.2.2.2.2.2.1), (35, .cs I64 x.1.2.2.2.2.2.2.2.1), (36, .cs I64 s.1)], [sr 5 (.cd (.sl tPut_) x.2.1), (8, some ⟨.mem, .cd tPut_ s.2⟩), (16, some ⟨.reg, .pr (.cd SI x.2.2.2.1.1) (.pr (.cs .bool x.2.2.2.1.2.1) (.cs .unit x.2.2.2.1.2.2))⟩)]⟩) (fun x => (x.1.2.2.2.2.2.2.2.2.1, x.2.2.1))
    (fun x s => by simp only [B, mC, mB, mS, mO, mN]; kernel_rfl)
end impl_Fs_dataPuts_l1
namespace impl_Fs_dataPuts_l0
def c := codeAt (bodyOf Proofs.Tryz.f58) [1, 1, 1, 0, 1, 0, 0]
def sp : SP := ⟨[(0, .pt tFs_), (5, .seg 5 []), (19, .seg 16 [.f1]), (20, .cs I64), (21, .cs I64)], [(5, .reg, .cd (.sl tPut_)), (16, .reg, .pr (.cd SI) (.pr (.cs .bool) (.cs .unit)))]⟩
def out (f : Fs_) (v : Int) (v3 : List Int) (v4 : Bool) (v5 : Unit) : FOut (List Put_) := fun b _ k => k (.ex 0) ⟨[(5, .seg 5 [])], [sr 5 (.cd (.sl tPut_) b)]⟩
def fr := lfrag sp (fun x => impl_Fs_dataPuts_l0 x.1.1 x.1.2.2.2.1 x.2.2.1.1 x.2.2.1.2.1 x.2.2.1.2.2 (x.1.2.2.2.2.1, x.2.1)) fun x => out x.1.1 x.1.2.2.2.1 x.2.2.1.1 x.2.2.1.2.1 x.2.2.1.2.2
theorem ok : CodeOk PR 54 1 (.loop c) fr :=
  lp_ok tbok hmix h0 (.R (.R (.L (.one (.R (.R (.L (.R (.one (.fr 1)))))))))) (G := impl_Fs_dataPuts.G) impl_Fs_dataPuts.Gok (L := mkL [(1, impl_Fs_dataPuts_l1.fr)]) (l := [(1, .loop impl_Fs_dataPuts_l1.c)]) ⟨Lam.cons impl_Fs_dataPuts_l1.ok, trivial⟩ [0, 5, 19, 20, 21] [5, 16] [(0, ([5], [5]))] ([], []) (fun x s => B x.1.1 x.1.2.2.2.1 x.2.2.1.1 x.2.2.1.2.1 x.2.2.1.2.2 s.1 s.2) (fun x s => ⟨[(0, .pt tFs_ x.1.1), (5, .seg 5 []), (19, .seg 16 [.f1]), (20, .cs I64 x.1.2.2.2.1), (21, .cs I64 s.1)], [sr 5 (.cd (.sl tPut_) s.2), (16, some ⟨.reg, .pr (.cd SI x.2.2.1.1) (.pr (.cs .bool x.2.2.1.2.1) (.cs .unit x.2.2.1.2.2))⟩)]⟩) (fun x => (x.1.2.2.2.2.1, x.2.1))
    (fun x s => by simp only [B, mC, mB, mS, mO, mN]; kernel_rfl)
end impl_Fs_dataPuts_l0
namespace impl_Fs_dataPuts
def pts : List PT := [.pt tFs_]
def FS : FS := mkFS [.sh] pts (fun x => impl_Fs_dataPuts x.1) fun t => ⟨[.cd (.sl tPut_) t], []⟩
theorem ok : FsOk PR 58 FS :=
  fn_ok tbok hmix Proofs.Tryz.f58 h0 (.R (.R (.R (.L (.R (.one (.fr 0))))))) (G := G) Gok (L := mkL [(1, impl_Fs_dataPuts_l1.fr), (0, impl_Fs_dataPuts_l0.fr)]) (l := [(0, .loop impl_Fs_dataPuts_l0.c)]) ⟨Lam.skip rfl (Lam.cons impl_Fs_dataPuts_l0.ok), trivial⟩
    (fun x => by simp only [impl_Fs_dataPuts, mC, mB, mS, mO, mN]; kernel_rfl)
end impl_Fs_dataPuts
def impl_DataPuts (f : Fs_) : Option (PutsResult_) :=
  (impl_fsFault f).bind fun r => cond (r != 0) (some (r, [], ())) ((impl_Fs_dataPuts f).bind fun r2 => some (0, r2, ()))
namespace impl_DataPuts
def G : Gam := mkG [(46, impl_fsFault.FS), (58, impl_Fs_dataPuts.FS)]
def pts : List PT := [.cs tFs_]
def FS : FS := mkFS [.sh] pts (fun x => impl_DataPuts x.1) fun t => ⟨[.cd tPutsResult_ t], []⟩
theorem ok : FsOk PR 23 FS :=
  fn_ok tbok hmix Proofs.Tryz.f23 ⟨[1], [], [], 0⟩ .no (G := G) (show GOk PR G from .cons impl_fsFault.ok (.cons impl_Fs_dataPuts.ok .nil)) (L := mkL []) (l := []) hT
    (fun x => by simp only [impl_DataPuts, mC, mB, mS, mO, mN]; kernel_rfl)
end impl_DataPuts
def laws_eqInt64S_l0.B (a : List Int) (b : List Int) (i_ : Int) : Option ((Int) ⊕ (((Bool) ⊕ (Unit)))) :=
  cond (decide (i_ < (a.length : Int))) (cond (inB i_ a.length) (cond (inB i_ b.length) (cond ((a.getD i_.toNat 0) != (b.getD i_.toNat 0)) (some (.inr (.inl false))) (some (.inl (w64 (i_ + 1))))) (none)) (none)) (some (.inr (.inr ())))
def laws_eqInt64S_l0 (a : List Int) (b : List Int) : (Int) → Option (((Bool) ⊕ (Unit))) :=
  loopL fun s => laws_eqInt64S_l0.B a b s
def laws_eqInt64S (a : List Int) (b : List Int) : Option (Bool) :=
  cond ((a.length : Int) != (b.length : Int)) (some false) ((laws_eqInt64S_l0 a b 0).bind fun o => sel o (fun b2 => some b2) (fun c => some true))
namespace laws_eqInt64S_l0
def c := codeAt (bodyOf Proofs.Tryz.f15) [1, 1, 0, 1, 0, 0]
def sp : SP := ⟨[(0, .cs SI), (1, .cs SI), (5, .cs I64)], []⟩
def out (a : List Int) (b : List Int) : FOut (((Bool) ⊕ (Unit))) := fun o _ k => sel o (fun b => k (.rt) ⟨[(4, .cs .bool b)], []⟩) (fun c => k (.ex 0) ⟨[], []⟩)
def fr := lfrag sp (fun x => laws_eqInt64S_l0 x.1.1 x.1.2.1 x.1.2.2.1) fun x => out x.1.1 x.1.2.1
theorem ok : CodeOk PR 26 2 (.loop c) fr :=
  lp_ok tbok hmix h0 .no (G := (mkG [])) .nil (L := mkL []) (l := []) hT [0, 1, 5] [] [(0, ([], []))] ([4], []) (fun x s => B x.1.1 x.1.2.1 s) (fun x s => ⟨[(0, .cs SI x.1.1), (1, .cs SI x.1.2.1), (5, .cs I64 s)], []⟩) (fun x => x.1.2.2.1)
    (fun x s => by simp only [B, mC, mB, mS, mO, mN]; kernel_rfl)
end laws_eqInt64S_l0
namespace laws_eqInt64S
def pts : List PT := [.cs SI, .cs SI]
def FS : FS := mkFS [.sh, .sh] pts (fun x => laws_eqInt64S x.1 x.2.1) fun t => ⟨[.cs .bool t], []⟩
theorem ok : FsOk PR 15 FS :=
  fn_ok tbok hmix Proofs.Tryz.f15 h0 (.R (.R (.L (.R (.one (.fr 0)))))) (G := (mkG [])) .nil (L := mkL [(0, laws_eqInt64S_l0.fr)]) (l := [(0, .loop laws_eqInt64S_l0.c)]) ⟨Lam.cons laws_eqInt64S_l0.ok, trivial⟩
    (fun x => by simp only [laws_eqInt64S, mC, mB, mS, mO, mN]; kernel_rfl)
end laws_eqInt64S
def laws_eqPut (a : Put_) (b : Put_) : Option (Bool) :=
  cond (a.1 != b.1) (some false) ((laws_eqInt64S a.2.1 b.2.1).bind fun r => cond (!r) (some false) (some true))
namespace laws_eqPut
def G : Gam := mkG [(15, laws_eqInt64S.FS)]
def pts : List PT := [.cs tPut_, .cs tPut_]
def FS : FS := mkFS [.sh, .sh] pts (fun x => laws_eqPut x.1 x.2.1) fun t => ⟨[.cs .bool t], []⟩
theorem ok : FsOk PR 102 FS :=
  fn_ok tbok hmix Proofs.Tryz.f102 ⟨[2, 3], [], [], 0⟩ .no (G := G) (show GOk PR G from .cons laws_eqInt64S.ok .nil) (L := mkL []) (l := []) hT
    (fun x => by simp only [laws_eqPut, mC, mB, mS, mO, mN]; kernel_rfl)
end laws_eqPut
def laws_eqPutS_l0.B (a : List Put_) (b : List Put_) (i_ : Int) : Option ((Int) ⊕ (((Bool) ⊕ (Unit)))) :=
  cond (decide (i_ < (a.length : Int))) (cond (inB i_ a.length) (cond (inB i_ b.length) ((laws_eqPut (a.getD i_.toNat zPut_) (b.getD i_.toNat zPut_)).bind fun r => cond (!r) (some (.inr (.inl false))) (some (.inl (w64 (i_ + 1))))) (none)) (none)) (some (.inr (.inr ())))
def laws_eqPutS_l0 (a : List Put_) (b : List Put_) : (Int) → Option (((Bool) ⊕ (Unit))) :=
  loopL fun s => laws_eqPutS_l0.B a b s
def laws_eqPutS (a : List Put_) (b : List Put_) : Option (Bool) :=
  cond ((a.length : Int) != (b.length : Int)) (some false) ((laws_eqPutS_l0 a b 0).bind fun o => sel o (fun b2 => some b2) (fun c => some true))
namespace laws_eqPutS
def G : Gam := mkG [(102, laws_eqPut.FS)]
theorem Gok : GOk PR G := .cons laws_eqPut.ok .nil
end laws_eqPutS
namespace laws_eqPutS_l0
def c := codeAt (bodyOf Proofs.Tryz.f59) [1, 1, 0, 1, 0, 0]
def sp : SP := ⟨[(0, .cs (.sl tPut_)), (1, .cs (.sl tPut_)), (5, .cs I64)], []⟩
def out (a : List Put_) (b : List Put_) : FOut (((Bool) ⊕ (Unit))) := fun o _ k => sel o (fun b => k (.rt) ⟨[(4, .cs .bool b)], []⟩) (fun c => k (.ex 0) ⟨[], []⟩)
def fr := lfrag sp (fun x => laws_eqPutS_l0 x.1.1 x.1.2.1 x.1.2.2.1) fun x => out x.1.1 x.1.2.1
theorem ok : CodeOk PR 27 2 (.loop c) fr :=
  lp_ok tbok hmix h0 .no (G := laws_eqPutS.G) laws_eqPutS.Gok (L := mkL []) (l := []) hT [0, 1, 5] [] [(0, ([], []))] ([4], []) (fun x s => B x.1.1 x.1.2.1 s) (fun x s => ⟨[(0, .cs (.sl tPut_) x.1.1), (1, .cs (.sl tPut_) x.1.2.1), (5, .cs I64 s)], []⟩) (fun x => x.1.2.2.1)
    (fun x s => by simp only [B, mC, mB, mS, mO, mN]; kernel_rfl)
end laws_eqPutS_l0
namespace laws_eqPutS
def pts : List PT := [.cs (.sl tPut_), .cs (.sl tPut_)]
def FS : FS := mkFS [.sh, .sh] pts (fun x => laws_eqPutS x.1 x.2.1) fun t => ⟨[.cs .bool t], []⟩
theorem ok : FsOk PR 59 FS :=
  fn_ok tbok hmix Proofs.Tryz.f59 h0 (.R (.R (.L (.R (.one (.fr 0)))))) (G := G) Gok (L := mkL [(0, laws_eqPutS_l0.fr)]) (l := [(0, .loop laws_eqPutS_l0.c)]) ⟨Lam.cons laws_eqPutS_l0.ok, trivial⟩
    (fun x => by simp only [laws_eqPutS, mC, mB, mS, mO, mN]; kernel_rfl)
end laws_eqPutS
def laws_eqPutsResult (a : PutsResult_) (b : PutsResult_) : Option (Bool) :=
  cond (a.1 != b.1) (some false) ((laws_eqPutS a.2.1 b.2.1).bind fun r => cond (!r) (some false) (some true))
namespace laws_eqPutsResult
def G : Gam := mkG [(59, laws_eqPutS.FS)]
def pts : List PT := [.cs tPutsResult_, .cs tPutsResult_]
def FS : FS := mkFS [.sh, .sh] pts (fun x => laws_eqPutsResult x.1 x.2.1) fun t => ⟨[.cs .bool t], []⟩
theorem ok : FsOk PR 24 FS :=
  fn_ok tbok hmix Proofs.Tryz.f24 ⟨[2, 3], [], [], 0⟩ .no (G := G) (show GOk PR G from .cons laws_eqPutS.ok .nil) (L := mkL []) (l := []) hT
    (fun x => by simp only [laws_eqPutsResult, mC, mB, mS, mO, mN]; kernel_rfl)
end laws_eqPutsResult
def laws_eqEntry (a : Entry_) (b : Entry_) : Option (Bool) :=
  cond (!(a.1 == b.1)) (some false) (cond (a.2.1 != b.2.1) (some false) (some true))
namespace laws_eqEntry
def pts : List PT := [.cs tEntry_, .cs tEntry_]
def FS : FS := mkFS [.sh, .sh] pts (fun x => laws_eqEntry x.1 x.2.1) fun t => ⟨[.cs .bool t], []⟩
theorem ok : FsOk PR 157 FS :=
  fn_ok tbok hmix Proofs.Tryz.f157 ⟨[2, 3], [], [], 0⟩ .no (G := (mkG [])) .nil (L := mkL []) (l := []) hT
    (fun x => by simp only [laws_eqEntry, mC, mB, mS, mO, mN]; kernel_rfl)
end laws_eqEntry
def laws_eqEntryS_l0.B (a : List Entry_) (b : List Entry_) (i_ : Int) : Option ((Int) ⊕ (((Bool) ⊕ (Unit)))) :=
  cond (decide (i_ < (a.length : Int))) (cond (inB i_ a.length) (cond (inB i_ b.length) ((laws_eqEntry (a.getD i_.toNat zEntry_) (b.getD i_.toNat zEntry_)).bind fun r => cond (!r) (some (.inr (.inl false))) (some (.inl (w64 (i_ + 1))))) (none)) (none)) (some (.inr (.inr ())))
def laws_eqEntryS_l0 (a : List Entry_) (b : List Entry_) : (Int) → Option (((Bool) ⊕ (Unit))) :=
  loopL fun s => laws_eqEntryS_l0.B a b s
def laws_eqEntryS (a : List Entry_) (b : List Entry_) : Option (Bool) :=
  cond ((a.length : Int) != (b.length : Int)) (some false) ((laws_eqEntryS_l0 a b 0).bind fun o => sel o (fun b2 => some b2) (fun c => some true))
namespace laws_eqEntryS
def G : Gam := mkG [(157, laws_eqEntry.FS)]
theorem Gok : GOk PR G := .cons laws_eqEntry.ok .nil
end laws_eqEntryS
namespace laws_eqEntryS_l0
def c := codeAt (bodyOf Proofs.Tryz.f137) [1, 1, 0, 1, 0, 0]
def sp : SP := ⟨[(0, .cs (.sl tEntry_)), (1, .cs (.sl tEntry_)), (5, .cs I64)], []⟩
def out (a : List Entry_) (b : List Entry_) : FOut (((Bool) ⊕ (Unit))) := fun o _ k => sel o (fun b => k (.rt) ⟨[(4, .cs .bool b)], []⟩) (fun c => k (.ex 0) ⟨[], []⟩)
def fr := lfrag sp (fun x => laws_eqEntryS_l0 x.1.1 x.1.2.1 x.1.2.2.1) fun x => out x.1.1 x.1.2.1
theorem ok : CodeOk PR 27 2 (.loop c) fr :=
  lp_ok tbok hmix h0 .no (G := laws_eqEntryS.G) laws_eqEntryS.Gok (L := mkL []) (l := []) hT [0, 1, 5] [] [(0, ([], []))] ([4], []) (fun x s => B x.1.1 x.1.2.1 s) (fun x s => ⟨[(0, .cs (.sl tEntry_) x.1.1), (1, .cs (.sl tEntry_) x.1.2.1), (5, .cs I64 s)], []⟩) (fun x => x.1.2.2.1)
    (fun x s => by simp only [B, mC, mB, mS, mO, mN]; kernel_rfl)
end laws_eqEntryS_l0
namespace laws_eqEntryS
def pts : List PT := [.cs (.sl tEntry_), .cs (.sl tEntry_)]
def FS : FS := mkFS [.sh, .sh] pts (fun x => laws_eqEntryS x.1 x.2.1) fun t => ⟨[.cs .bool t], []⟩
theorem ok : FsOk PR 137 FS :=
  fn_ok tbok hmix Proofs.Tryz.f137 h0 (.R (.R (.L (.R (.one (.fr 0)))))) (G := G) Gok (L := mkL [(0, laws_eqEntryS_l0.fr)]) (l := [(0, .loop laws_eqEntryS_l0.c)]) ⟨Lam.cons laws_eqEntryS_l0.ok, trivial⟩
    (fun x => by simp only [laws_eqEntryS, mC, mB, mS, mO, mN]; kernel_rfl)
end laws_eqEntryS
def laws_eqInode (a : Inode_) (b : Inode_) : Option (Bool) :=
  cond (a.1 != b.1) (some false) (cond (a.2.1 != b.2.1) (some false) (cond (a.2.2.1 != b.2.2.1) (some false) ((laws_eqInt64S a.2.2.2.1 b.2.2.2.1).bind fun r => cond (!r) (some false) ((laws_eqEntryS a.2.2.2.2.1 b.2.2.2.2.1).bind fun r2 => cond (!r2) (some false) (some true)))))
namespace laws_eqInode
def G : Gam := mkG [(15, laws_eqInt64S.FS), (137, laws_eqEntryS.FS)]
def pts : List PT := [.cs tInode_, .cs tInode_]
def FS : FS := mkFS [.sh, .sh] pts (fun x => laws_eqInode x.1 x.2.1) fun t => ⟨[.cs .bool t], []⟩
theorem ok : FsOk PR 95 FS :=
  fn_ok tbok hmix Proofs.Tryz.f95 ⟨[2, 3], [], [], 0⟩ .no (G := G) (show GOk PR G from .cons laws_eqInt64S.ok (.cons laws_eqEntryS.ok .nil)) (L := mkL []) (l := []) hT
    (fun x => by simp only [laws_eqInode, mC, mB, mS, mO, mN]; kernel_rfl)
end laws_eqInode
def laws_eqInodeS_l0.B (a : List Inode_) (b : List Inode_) (i_ : Int) : Option ((Int) ⊕ (((Bool) ⊕ (Unit)))) :=
  cond (decide (i_ < (a.length : Int))) (cond (inB i_ a.length) (cond (inB i_ b.length) ((laws_eqInode (a.getD i_.toNat zInode_) (b.getD i_.toNat zInode_)).bind fun r => cond (!r) (some (.inr (.inl false))) (some (.inl (w64 (i_ + 1))))) (none)) (none)) (some (.inr (.inr ())))
def laws_eqInodeS_l0 (a : List Inode_) (b : List Inode_) : (Int) → Option (((Bool) ⊕ (Unit))) :=
  loopL fun s => laws_eqInodeS_l0.B a b s
def laws_eqInodeS (a : List Inode_) (b : List Inode_) : Option (Bool) :=
  cond ((a.length : Int) != (b.length : Int)) (some false) ((laws_eqInodeS_l0 a b 0).bind fun o => sel o (fun b2 => some b2) (fun c => some true))
namespace laws_eqInodeS
def G : Gam := mkG [(95, laws_eqInode.FS)]
theorem Gok : GOk PR G := .cons laws_eqInode.ok .nil
end laws_eqInodeS
namespace laws_eqInodeS_l0
def c := codeAt (bodyOf Proofs.Tryz.f49) [1, 1, 0, 1, 0, 0]
def sp : SP := ⟨[(0, .cs (.sl tInode_)), (1, .cs (.sl tInode_)), (5, .cs I64)], []⟩
def out (a : List Inode_) (b : List Inode_) : FOut (((Bool) ⊕ (Unit))) := fun o _ k => sel o (fun b => k (.rt) ⟨[(4, .cs .bool b)], []⟩) (fun c => k (.ex 0) ⟨[], []⟩)
def fr := lfrag sp (fun x => laws_eqInodeS_l0 x.1.1 x.1.2.1 x.1.2.2.1) fun x => out x.1.1 x.1.2.1
theorem ok : CodeOk PR 27 2 (.loop c) fr :=
  lp_ok tbok hmix h0 .no (G := laws_eqInodeS.G) laws_eqInodeS.Gok (L := mkL []) (l := []) hT [0, 1, 5] [] [(0, ([], []))] ([4], []) (fun x s => B x.1.1 x.1.2.1 s) (fun x s => ⟨[(0, .cs (.sl tInode_) x.1.1), (1, .cs (.sl tInode_) x.1.2.1), (5, .cs I64 s)], []⟩) (fun x => x.1.2.2.1)
    (fun x s => by simp only [B, mC, mB, mS, mO, mN]; kernel_rfl)
end laws_eqInodeS_l0
namespace laws_eqInodeS
def pts : List PT := [.cs (.sl tInode_), .cs (.sl tInode_)]
def FS : FS := mkFS [.sh, .sh] pts (fun x => laws_eqInodeS x.1 x.2.1) fun t => ⟨[.cs .bool t], []⟩
theorem ok : FsOk PR 49 FS :=
  fn_ok tbok hmix Proofs.Tryz.f49 h0 (.R (.R (.L (.R (.one (.fr 0)))))) (G := G) Gok (L := mkL [(0, laws_eqInodeS_l0.fr)]) (l := [(0, .loop laws_eqInodeS_l0.c)]) ⟨Lam.cons laws_eqInodeS_l0.ok, trivial⟩
    (fun x => by simp only [laws_eqInodeS, mC, mB, mS, mO, mN]; kernel_rfl)
end laws_eqInodeS
def laws_eqByteS_l0.B (a : List Int) (b : List Int) (i_ : Int) : Option ((Int) ⊕ (((Bool) ⊕ (Unit)))) :=
  cond (decide (i_ < (a.length : Int))) (cond (inB i_ a.length) (cond (inB i_ b.length) (cond ((a.getD i_.toNat 0) != (b.getD i_.toNat 0)) (some (.inr (.inl false))) (some (.inl (w64 (i_ + 1))))) (none)) (none)) (some (.inr (.inr ())))
def laws_eqByteS_l0 (a : List Int) (b : List Int) : (Int) → Option (((Bool) ⊕ (Unit))) :=
  loopL fun s => laws_eqByteS_l0.B a b s
def laws_eqByteS (a : List Int) (b : List Int) : Option (Bool) :=
  cond ((a.length : Int) != (b.length : Int)) (some false) ((laws_eqByteS_l0 a b 0).bind fun o => sel o (fun b2 => some b2) (fun c => some true))
namespace laws_eqByteS_l0
def c := codeAt (bodyOf Proofs.Tryz.f96) [1, 1, 0, 1, 0, 0]
def sp : SP := ⟨[(0, .cs SB), (1, .cs SB), (5, .cs I64)], []⟩
def out (a : List Int) (b : List Int) : FOut (((Bool) ⊕ (Unit))) := fun o _ k => sel o (fun b => k (.rt) ⟨[(4, .cs .bool b)], []⟩) (fun c => k (.ex 0) ⟨[], []⟩)
def fr := lfrag sp (fun x => laws_eqByteS_l0 x.1.1 x.1.2.1 x.1.2.2.1) fun x => out x.1.1 x.1.2.1
theorem ok : CodeOk PR 26 2 (.loop c) fr :=
  lp_ok tbok hmix h0 .no (G := (mkG [])) .nil (L := mkL []) (l := []) hT [0, 1, 5] [] [(0, ([], []))] ([4], []) (fun x s => B x.1.1 x.1.2.1 s) (fun x s => ⟨[(0, .cs SB x.1.1), (1, .cs SB x.1.2.1), (5, .cs I64 s)], []⟩) (fun x => x.1.2.2.1)
    (fun x s => by simp only [B, mC, mB, mS, mO, mN]; kernel_rfl)
end laws_eqByteS_l0
namespace laws_eqByteS
def pts : List PT := [.cs SB, .cs SB]
def FS : FS := mkFS [.sh, .sh] pts (fun x => laws_eqByteS x.1 x.2.1) fun t => ⟨[.cs .bool t], []⟩
theorem ok : FsOk PR 96 FS :=
  fn_ok tbok hmix Proofs.Tryz.f96 h0 (.R (.R (.L (.R (.one (.fr 0)))))) (G := (mkG [])) .nil (L := mkL [(0, laws_eqByteS_l0.fr)]) (l := [(0, .loop laws_eqByteS_l0.c)]) ⟨Lam.cons laws_eqByteS_l0.ok, trivial⟩
    (fun x => by simp only [laws_eqByteS, mC, mB, mS, mO, mN]; kernel_rfl)
end laws_eqByteS
def laws_eqByteSS_l0.B (a : List (List Int)) (b : List (List Int)) (i_ : Int) : Option ((Int) ⊕ (((Bool) ⊕ (Unit)))) :=
  cond (decide (i_ < (a.length : Int))) (cond (inB i_ a.length) (cond (inB i_ b.length) ((laws_eqByteS (a.getD i_.toNat []) (b.getD i_.toNat [])).bind fun r => cond (!r) (some (.inr (.inl false))) (some (.inl (w64 (i_ + 1))))) (none)) (none)) (some (.inr (.inr ())))
def laws_eqByteSS_l0 (a : List (List Int)) (b : List (List Int)) : (Int) → Option (((Bool) ⊕ (Unit))) :=
  loopL fun s => laws_eqByteSS_l0.B a b s
def laws_eqByteSS (a : List (List Int)) (b : List (List Int)) : Option (Bool) :=
  cond ((a.length : Int) != (b.length : Int)) (some false) ((laws_eqByteSS_l0 a b 0).bind fun o => sel o (fun b2 => some b2) (fun c => some true))
namespace laws_eqByteSS
def G : Gam := mkG [(96, laws_eqByteS.FS)]
theorem Gok : GOk PR G := .cons laws_eqByteS.ok .nil
end laws_eqByteSS
namespace laws_eqByteSS_l0
def c := codeAt (bodyOf Proofs.Tryz.f50) [1, 1, 0, 1, 0, 0]
def sp : SP := ⟨[(0, .cs (.sl SB)), (1, .cs (.sl SB)), (5, .cs I64)], []⟩
def out (a : List (List Int)) (b : List (List Int)) : FOut (((Bool) ⊕ (Unit))) := fun o _ k => sel o (fun b => k (.rt) ⟨[(4, .cs .bool b)], []⟩) (fun c => k (.ex 0) ⟨[], []⟩)
def fr := lfrag sp (fun x => laws_eqByteSS_l0 x.1.1 x.1.2.1 x.1.2.2.1) fun x => out x.1.1 x.1.2.1
theorem ok : CodeOk PR 27 2 (.loop c) fr :=
  lp_ok tbok hmix h0 .no (G := laws_eqByteSS.G) laws_eqByteSS.Gok (L := mkL []) (l := []) hT [0, 1, 5] [] [(0, ([], []))] ([4], []) (fun x s => B x.1.1 x.1.2.1 s) (fun x s => ⟨[(0, .cs (.sl SB) x.1.1), (1, .cs (.sl SB) x.1.2.1), (5, .cs I64 s)], []⟩) (fun x => x.1.2.2.1)
    (fun x s => by simp only [B, mC, mB, mS, mO, mN]; kernel_rfl)
end laws_eqByteSS_l0
namespace laws_eqByteSS
def pts : List PT := [.cs (.sl SB), .cs (.sl SB)]
def FS : FS := mkFS [.sh, .sh] pts (fun x => laws_eqByteSS x.1 x.2.1) fun t => ⟨[.cs .bool t], []⟩
theorem ok : FsOk PR 50 FS :=
  fn_ok tbok hmix Proofs.Tryz.f50 h0 (.R (.R (.L (.R (.one (.fr 0)))))) (G := G) Gok (L := mkL [(0, laws_eqByteSS_l0.fr)]) (l := [(0, .loop laws_eqByteSS_l0.c)]) ⟨Lam.cons laws_eqByteSS_l0.ok, trivial⟩
    (fun x => by simp only [laws_eqByteSS, mC, mB, mS, mO, mN]; kernel_rfl)
end laws_eqByteSS
def laws_eqFs (a : Fs_) (b : Fs_) : Option (Bool) :=
  (laws_eqInodeS a.1 b.1).bind fun r => cond (!r) (some false) ((laws_eqByteSS a.2.1 b.2.1).bind fun r2 => cond (!r2) (some false) (some true))
namespace laws_eqFs
def G : Gam := mkG [(49, laws_eqInodeS.FS), (50, laws_eqByteSS.FS)]
def pts : List PT := [.cs tFs_, .cs tFs_]
def FS : FS := mkFS [.sh, .sh] pts (fun x => laws_eqFs x.1 x.2.1) fun t => ⟨[.cs .bool t], []⟩
theorem ok : FsOk PR 14 FS :=
  fn_ok tbok hmix Proofs.Tryz.f14 ⟨[2, 3], [], [], 0⟩ .no (G := G) (show GOk PR G from .cons laws_eqInodeS.ok (.cons laws_eqByteSS.ok .nil)) (L := mkL []) (l := []) hT
    (fun x => by simp only [laws_eqFs, mC, mB, mS, mO, mN]; kernel_rfl)
end laws_eqFs
def laws_markInt64S_l0.B (k_ : Int) (i_ : Int) (a_ : List Int) : Option ((Int × Int × List Int) ⊕ (Int × List Int)) :=
  cond (decide (i_ < (a_.length : Int))) (cond (inB i_ a_.length) (some (.inl (w64 (k_ + 1), w64 (i_ + 1), a_.set i_.toNat k_))) (none)) (some (.inr (k_, a_)))
def laws_markInt64S_l0  : (Int × Int × List Int) → Option (Int × List Int) :=
  loopL fun s => laws_markInt64S_l0.B s.1 s.2.1 s.2.2
def laws_markInt64S (a : List Int) (k : Int) : Option (Int × List Int) :=
  (laws_markInt64S_l0 (k, 0, a)).bind fun o => some (o.1, o.2)
namespace laws_markInt64S_l0
def c := codeAt (bodyOf Proofs.Tryz.f55) [1, 0, 1, 0, 0]
def sp : SP := ⟨[(0, .seg 0 []), (1, .cs I64), (5, .cs I64)], [(0, .reg, .cd SI)]⟩
def out  : FOut (Int × List Int) := fun b _ k => k (.ex 0) ⟨[(1, .cs I64 b.1)], [sr 0 (.cd SI b.2)]⟩
def fr := lfrag sp (fun x => laws_markInt64S_l0  (x.1.2.1, x.1.2.2.1, x.2.1)) fun x => out 
theorem ok : CodeOk PR 19 2 (.loop c) fr :=
  lp_ok tbok hmix h0 .no (G := (mkG [])) .nil (L := mkL []) (l := []) hT [0, 1, 5] [0] [(0, ([1], [0]))] ([], []) (fun x s => B  s.1 s.2.1 s.2.2) (fun x s => ⟨[(0, .seg 0 []), (1, .cs I64 s.1), (5, .cs I64 s.2.1)], [sr 0 (.cd SI s.2.2)]⟩) (fun x => (x.1.2.1, x.1.2.2.1, x.2.1))
    (fun x s => by simp only [B, mC, mB, mS, mO, mN]; kernel_rfl)
end laws_markInt64S_l0
namespace laws_markInt64S
def pts : List PT := [.cd SI, .cs I64]
def FS : FS := mkFS [.mu, .sh] pts (fun x => laws_markInt64S x.1 x.2.1) fun t => ⟨[.cs I64 t.1], [.cd SI t.2]⟩
theorem ok : FsOk PR 55 FS :=
  fn_ok tbok hmix Proofs.Tryz.f55 h0 (.R (.L (.R (.one (.fr 0))))) (G := (mkG [])) .nil (L := mkL [(0, laws_markInt64S_l0.fr)]) (l := [(0, .loop laws_markInt64S_l0.c)]) ⟨Lam.cons laws_markInt64S_l0.ok, trivial⟩
    (fun x => by simp only [laws_markInt64S, mC, mB, mS, mO, mN]; kernel_rfl)
end laws_markInt64S
def laws_markText_l0.B (k_ : Int) (out_ : List UInt8) : Option ((Int × List UInt8) ⊕ (List UInt8)) :=
  cond (decide (k_ > 0)) (cond (!((10 : Int) == 0)) ((some (IntKind.u8.wrap (w64 ((48 : Int) + (k_.tmod 10))))).bind fun v => cond (decide ((([v]).map fun n => UInt8.ofNat n.toNat).length + out_.length ≤ 2147483648)) (cond (!((10 : Int) == 0)) (some (.inl (w64 (k_.tdiv 10), (([v]).map fun n => UInt8.ofNat n.toNat) ++ out_))) (none)) (none)) (none)) (some (.inr out_))
def laws_markText_l0  : (Int × List UInt8) → Option (List UInt8) :=
  loopL fun s => laws_markText_l0.B s.1 s.2
def laws_markText (k : Int) : Option (List UInt8) :=
  cond (decide (k ≤ 0)) (some ([109, 48] : List UInt8)) ((laws_markText_l0 (k, ([] : List UInt8))).bind fun o => cond (decide (([109] : List UInt8).length + o.length ≤ 2147483648)) (some (([109] : List UInt8) ++ o)) (none))
namespace laws_markText_l0
def c := codeAt (bodyOf Proofs.Tryz.f140) [1, 1, 1, 0, 0, 0]
def sp : SP := ⟨[(0, .cs I64), (3, .cs .str)], []⟩
def out  : FOut (List UInt8) := fun b _ k => k (.ex 0) ⟨[(3, .cs .str b)], []⟩
def fr := lfrag sp (fun x => laws_markText_l0  (x.1.1, x.1.2.1)) fun x => out 
theorem ok : CodeOk PR 20 1 (.loop c) fr :=
  lp_ok tbok hmix h0 .no (G := (mkG [])) .nil (L := mkL []) (l := []) hT [0, 3] [] [(0, ([3], []))] ([], []) (fun x s => B  s.1 s.2) (fun x s => ⟨[(0, .cs I64 s.1), (3, .cs .str s.2)], []⟩) (fun x => (x.1.1, x.1.2.1))
    (fun x s => by simp only [B, mC, mB, mS, mO, mN]; kernel_rfl)
end laws_markText_l0
namespace laws_markText
def pts : List PT := [.cs I64]
def FS : FS := mkFS [.sh] pts (fun x => laws_markText x.1) fun t => ⟨[.cs .str t], []⟩
theorem ok : FsOk PR 140 FS :=
  fn_ok tbok hmix Proofs.Tryz.f140 h0 (.R (.R (.R (.L (.one (.fr 0)))))) (G := (mkG [])) .nil (L := mkL [(0, laws_markText_l0.fr)]) (l := [(0, .loop laws_markText_l0.c)]) ⟨Lam.cons laws_markText_l0.ok, trivial⟩
    (fun x => by simp only [laws_markText, mC, mB, mS, mO, mN]; kernel_rfl)
end laws_markText
def laws_markEntryS_l0.B (k_ : Int) (i_ : Int) (a_ : List Entry_) : Option ((Int × Int × List Entry_) ⊕ (Int × List Entry_)) :=
  cond (decide (i_ < (a_.length : Int))) ((laws_markText k_).bind fun r => cond (inB i_ a_.length) ((some (a_.set i_.toNat (r, (a_.getD i_.toNat zEntry_).2))).bind fun a_2 => cond (inB i_ a_2.length) ((some (a_2.set i_.toNat ((a_2.getD i_.toNat zEntry_).1, w64 (k_ + 1), ((a_2.getD i_.toNat zEntry_).2).2))).bind fun a_3 => some (.inl (w64 ((w64 (k_ + 1)) + 1), w64 (i_ + 1), a_3))) (none)) (none)) (some (.inr (k_, a_)))
def laws_markEntryS_l0  : (Int × Int × List Entry_) → Option (Int × List Entry_) :=
  loopL fun s => laws_markEntryS_l0.B s.1 s.2.1 s.2.2
def laws_markEntryS (a : List Entry_) (k : Int) : Option (Int × List Entry_) :=
  (laws_markEntryS_l0 (k, 0, a)).bind fun o => some (o.1, o.2)
namespace laws_markEntryS
def G : Gam := mkG [(140, laws_markText.FS)]
theorem Gok : GOk PR G := .cons laws_markText.ok .nil
end laws_markEntryS
namespace laws_markEntryS_l0
def c := codeAt (bodyOf Proofs.Tryz.f100) [1, 0, 1, 0, 0]
def sp : SP := ⟨[(0, .seg 0 []), (1, .cs I64), (5, .cs I64)], [(0, .reg, .cd (.sl tEntry_))]⟩
def out  : FOut (Int × List Entry_) := fun b _ k => k (.ex 0) ⟨[(1, .cs I64 b.1)], [sr 0 (.cd (.sl tEntry_) b.2)]⟩
def fr := lfrag sp (fun x => laws_markEntryS_l0  (x.1.2.1, x.1.2.2.1, x.2.1)) fun x => out 
theorem ok : CodeOk PR 28 2 (.loop c) fr :=
  lp_ok tbok hmix h0 .no (G := laws_markEntryS.G) laws_markEntryS.Gok (L := mkL []) (l := []) hT [0, 1, 5] [0] [(0, ([1], [0]))] ([], []) (fun x s => B  s.1 s.2.1 s.2.2) (fun x s => ⟨[(0, .seg 0 []), (1, .cs I64 s.1), (5, .cs I64 s.2.1)], [sr 0 (.cd (.sl tEntry_) s.2.2)]⟩) (fun x => (x.1.2.1, x.1.2.2.1, x.2.1))
    (fun x s => by simp only [B, mC, mB, mS, mO, mN]; kernel_rfl)
end laws_markEntryS_l0
namespace laws_markEntryS
def pts : List PT := [.cd (.sl tEntry_), .cs I64]
def FS : FS := mkFS [.mu, .sh] pts (fun x => laws_markEntryS x.1 x.2.1) fun t => ⟨[.cs I64 t.1], [.cd (.sl tEntry_) t.2]⟩
theorem ok : FsOk PR 100 FS :=
  fn_ok tbok hmix Proofs.Tryz.f100 h0 (.R (.L (.R (.one (.fr 0))))) (G := G) Gok (L := mkL [(0, laws_markEntryS_l0.fr)]) (l := [(0, .loop laws_markEntryS_l0.c)]) ⟨Lam.cons laws_markEntryS_l0.ok, trivial⟩
    (fun x => by simp only [laws_markEntryS, mC, mB, mS, mO, mN]; kernel_rfl)
end laws_markEntryS
def laws_markInodeS_l0.B (k_ : Int) (i_ : Int) (a_ : List Inode_) : Option ((Int × Int × List Inode_) ⊕ (Int × List Inode_)) :=
  cond (decide (i_ < (a_.length : Int))) (cond (inB i_ a_.length) ((some (a_.set i_.toNat (k_, (a_.getD i_.toNat zInode_).2))).bind fun a_2 => cond (inB i_ a_2.length) ((some (a_2.set i_.toNat ((a_2.getD i_.toNat zInode_).1, w64 (k_ + 1), ((a_2.getD i_.toNat zInode_).2).2))).bind fun a_3 => cond (inB i_ a_3.length) ((some (a_3.set i_.toNat ((a_3.getD i_.toNat zInode_).1, ((a_3.getD i_.toNat zInode_).2).1, w64 ((w64 (k_ + 1)) + 1), (((a_3.getD i_.toNat zInode_).2).2).2))).bind fun a_4 => cond (inB i_ a_4.length) ((laws_markInt64S (((((a_4.getD i_.toNat zInode_).2).2).2).1) (w64 ((w64 ((w64 (k_ + 1)) + 1)) + 1))).bind fun r => cond (inB i_ ((a_4.set i_.toNat ((a_4.getD i_.toNat zInode_).1, ((a_4.getD i_.toNat zInode_).2).1, (((a_4.getD i_.toNat zInode_).2).2).1, r.2, ((((a_4.getD i_.toNat zInode_).2).2).2).2)).length)) ((laws_markEntryS (((((((a_4.set i_.toNat ((a_4.getD i_.toNat zInode_).1, ((a_4.getD i_.toNat zInode_).2).1, (((a_4.getD i_.toNat zInode_).2).2).1, r.2, ((((a_4.getD i_.toNat zInode_).2).2).2).2)).getD i_.toNat zInode_).2).2).2).2).1) r.1).bind fun r2 => some (.inl (r2.1, w64 (i_ + 1), (a_4.set i_.toNat ((a_4.getD i_.toNat zInode_).1, ((a_4.getD i_.toNat zInode_).2).1, (((a_4.getD i_.toNat zInode_).2).2).1, r.2, ((((a_4.getD i_.toNat zInode_).2).2).2).2)).set i_.toNat (((a_4.set i_.toNat ((a_4.getD i_.toNat zInode_).1, ((a_4.getD i_.toNat zInode_).2).1, (((a_4.getD i_.toNat zInode_).2).2).1, r.2, ((((a_4.getD i_.toNat zInode_).2).2).2).2)).getD i_.toNat zInode_).1, (((a_4.set i_.toNat ((a_4.getD i_.toNat zInode_).1, ((a_4.getD i_.toNat zInode_).2).1, (((a_4.getD i_.toNat zInode_).2).2).1, r.2, ((((a_4.getD i_.toNat zInode_).2).2).2).2)).getD i_.toNat zInode_).2).1, ((((a_4.set i_.toNat ((a_4.getD i_.toNat zInode_).1, ((a_4.getD i_.toNat zInode_).2).1, (((a_4.getD i_.toNat zInode_).2).2).1, r.2, ((((a_4.getD i_.toNat zInode_).2).2).2).2)).getD i_.toNat zInode_).2).2).1, (((((a_4.set i_.toNat ((a_4.getD i_.toNat zInode_).1, ((a_4.getD i_.toNat zInode_).2).1, (((a_4.getD i_.toNat zInode_).2).2).1, r.2, ((((a_4.getD i_.toNat zInode_).2).2).2).2)).getD i_.toNat zInode_).2).2).2).1, r2.2, ((((((a_4.set i_.toNat ((a_4.getD i_.toNat zInode_).1, ((a_4.getD i_.toNat zInode_).2).1, (((a_4.getD i_.toNat zInode_).2).2).1, r.2, ((((a_4.getD i_.toNat zInode_).2).2).2).2)).getD i_.toNat zInode_).2).2).2).2).2)))) (none)) (none)) (none)) (none)) (none)) (some (.inr (k_, a_)))
def laws_markInodeS_l0  : (Int × Int × List Inode_) → Option (Int × List Inode_) :=
  loopL fun s => laws_markInodeS_l0.B s.1 s.2.1 s.2.2
def laws_markInodeS (a : List Inode_) (k : Int) : Option (Int × List Inode_) :=
  (laws_markInodeS_l0 (k, 0, a)).bind fun o => some (o.1, o.2)
namespace laws_markInodeS
def G : Gam := mkG [(55, laws_markInt64S.FS), (100, laws_markEntryS.FS)]
theorem Gok : GOk PR G := .cons laws_markInt64S.ok (.cons laws_markEntryS.ok .nil)
end laws_markInodeS
namespace laws_markInodeS_l0
def c := codeAt (bodyOf Proofs.Tryz.f53) [1, 0, 1, 0, 0]
def sp : SP := ⟨[(0, .seg 0 []), (1, .cs I64), (5, .cs I64)], [(0, .reg, .cd (.sl tInode_))]⟩
def out  : FOut (Int × List Inode_) := fun b _ k => k (.ex 0) ⟨[(1, .cs I64 b.1)], [sr 0 (.cd (.sl tInode_) b.2)]⟩
def fr := lfrag sp (fun x => laws_markInodeS_l0  (x.1.2.1, x.1.2.2.1, x.2.1)) fun x => out 
theorem ok : CodeOk PR 48 2 (.loop c) fr :=
  lp_ok tbok hmix h0 .no (G := laws_markInodeS.G) laws_markInodeS.Gok (L := mkL []) (l := []) hT [0, 1, 5] [0] [(0, ([1], [0]))] ([], []) (fun x s => B  s.1 s.2.1 s.2.2) (fun x s => ⟨[(0, .seg 0 []), (1, .cs I64 s.1), (5, .cs I64 s.2.1)], [sr 0 (.cd (.sl tInode_) s.2.2)]⟩) (fun x => (x.1.2.1, x.1.2.2.1, x.2.1))
    (fun x s => by simp only [B, mC, mB, mS, mO, mN]; kernel_rfl)
end laws_markInodeS_l0
namespace laws_markInodeS
def pts : List PT := [.cd (.sl tInode_), .cs I64]
def FS : FS := mkFS [.mu, .sh] pts (fun x => laws_markInodeS x.1 x.2.1) fun t => ⟨[.cs I64 t.1], [.cd (.sl tInode_) t.2]⟩
theorem ok : FsOk PR 53 FS :=
  fn_ok tbok hmix Proofs.Tryz.f53 h0 (.R (.L (.R (.one (.fr 0))))) (G := G) Gok (L := mkL [(0, laws_markInodeS_l0.fr)]) (l := [(0, .loop laws_markInodeS_l0.c)]) ⟨Lam.cons laws_markInodeS_l0.ok, trivial⟩
    (fun x => by simp only [laws_markInodeS, mC, mB, mS, mO, mN]; kernel_rfl)
end laws_markInodeS
def laws_markByteS_l0.B (k_ : Int) (i_ : Int) (a_ : List Int) : Option ((Int × Int × List Int) ⊕ (Int × List Int)) :=
  cond (decide (i_ < (a_.length : Int))) (cond (inB i_ a_.length) (some (.inl (w64 (k_ + 1), w64 (i_ + 1), a_.set i_.toNat (IntKind.u8.wrap (k_))))) (none)) (some (.inr (k_, a_)))
def laws_markByteS_l0  : (Int × Int × List Int) → Option (Int × List Int) :=
  loopL fun s => laws_markByteS_l0.B s.1 s.2.1 s.2.2
def laws_markByteS (a : List Int) (k : Int) : Option (Int × List Int) :=
  (laws_markByteS_l0 (k, 0, a)).bind fun o => some (o.1, o.2)
namespace laws_markByteS_l0
def c := codeAt (bodyOf Proofs.Tryz.f101) [1, 0, 1, 0, 0]
def sp : SP := ⟨[(0, .seg 0 []), (1, .cs I64), (5, .cs I64)], [(0, .reg, .cd SB)]⟩
def out  : FOut (Int × List Int) := fun b _ k => k (.ex 0) ⟨[(1, .cs I64 b.1)], [sr 0 (.cd SB b.2)]⟩
def fr := lfrag sp (fun x => laws_markByteS_l0  (x.1.2.1, x.1.2.2.1, x.2.1)) fun x => out 
theorem ok : CodeOk PR 20 2 (.loop c) fr :=
  lp_ok tbok hmix h0 .no (G := (mkG [])) .nil (L := mkL []) (l := []) hT [0, 1, 5] [0] [(0, ([1], [0]))] ([], []) (fun x s => B  s.1 s.2.1 s.2.2) (fun x s => ⟨[(0, .seg 0 []), (1, .cs I64 s.1), (5, .cs I64 s.2.1)], [sr 0 (.cd SB s.2.2)]⟩) (fun x => (x.1.2.1, x.1.2.2.1, x.2.1))
    (fun x s => by simp only [B, mC, mB, mS, mO, mN]; kernel_rfl)
end laws_markByteS_l0
namespace laws_markByteS
def pts : List PT := [.cd SB, .cs I64]
def FS : FS := mkFS [.mu, .sh] pts (fun x => laws_markByteS x.1 x.2.1) fun t => ⟨[.cs I64 t.1], [.cd SB t.2]⟩
theorem ok : FsOk PR 101 FS :=
  fn_ok tbok hmix Proofs.Tryz.f101 h0 (.R (.L (.R (.one (.fr 0))))) (G := (mkG [])) .nil (L := mkL [(0, laws_markByteS_l0.fr)]) (l := [(0, .loop laws_markByteS_l0.c)]) ⟨Lam.cons laws_markByteS_l0.ok, trivial⟩
    (fun x => by simp only [laws_markByteS, mC, mB, mS, mO, mN]; kernel_rfl)
end laws_markByteS
def laws_markByteSS_l0.B (k_ : Int) (i_ : Int) (a_ : List (List Int)) : Option ((Int × Int × List (List Int)) ⊕ (Int × List (List Int))) :=
  cond (decide (i_ < (a_.length : Int))) (cond (inB i_ a_.length) ((laws_markByteS (a_.getD i_.toNat []) k_).bind fun r => some (.inl (r.1, w64 (i_ + 1), a_.set i_.toNat r.2))) (none)) (some (.inr (k_, a_)))
def laws_markByteSS_l0  : (Int × Int × List (List Int)) → Option (Int × List (List Int)) :=
  loopL fun s => laws_markByteSS_l0.B s.1 s.2.1 s.2.2
def laws_markByteSS (a : List (List Int)) (k : Int) : Option (Int × List (List Int)) :=
  (laws_markByteSS_l0 (k, 0, a)).bind fun o => some (o.1, o.2)
namespace laws_markByteSS
def G : Gam := mkG [(101, laws_markByteS.FS)]
theorem Gok : GOk PR G := .cons laws_markByteS.ok .nil
end laws_markByteSS
namespace laws_markByteSS_l0
def c := codeAt (bodyOf Proofs.Tryz.f54) [1, 0, 1, 0, 0]
def sp : SP := ⟨[(0, .seg 0 []), (1, .cs I64), (5, .cs I64)], [(0, .reg, .cd (.sl SB))]⟩
def out  : FOut (Int × List (List Int)) := fun b _ k => k (.ex 0) ⟨[(1, .cs I64 b.1)], [sr 0 (.cd (.sl SB) b.2)]⟩
def fr := lfrag sp (fun x => laws_markByteSS_l0  (x.1.2.1, x.1.2.2.1, x.2.1)) fun x => out 
theorem ok : CodeOk PR 19 2 (.loop c) fr :=
  lp_ok tbok hmix h0 .no (G := laws_markByteSS.G) laws_markByteSS.Gok (L := mkL []) (l := []) hT [0, 1, 5] [0] [(0, ([1], [0]))] ([], []) (fun x s => B  s.1 s.2.1 s.2.2) (fun x s => ⟨[(0, .seg 0 []), (1, .cs I64 s.1), (5, .cs I64 s.2.1)], [sr 0 (.cd (.sl SB) s.2.2)]⟩) (fun x => (x.1.2.1, x.1.2.2.1, x.2.1))
    (fun x s => by simp only [B, mC, mB, mS, mO, mN]; kernel_rfl)
end laws_markByteSS_l0
namespace laws_markByteSS
def pts : List PT := [.cd (.sl SB), .cs I64]
def FS : FS := mkFS [.mu, .sh] pts (fun x => laws_markByteSS x.1 x.2.1) fun t => ⟨[.cs I64 t.1], [.cd (.sl SB) t.2]⟩
theorem ok : FsOk PR 54 FS :=
  fn_ok tbok hmix Proofs.Tryz.f54 h0 (.R (.L (.R (.one (.fr 0))))) (G := G) Gok (L := mkL [(0, laws_markByteSS_l0.fr)]) (l := [(0, .loop laws_markByteSS_l0.c)]) ⟨Lam.cons laws_markByteSS_l0.ok, trivial⟩
    (fun x => by simp only [laws_markByteSS, mC, mB, mS, mO, mN]; kernel_rfl)
end laws_markByteSS
def laws_markFs (a : Fs_) (k : Int) : Option (Int × Fs_) :=
  (laws_markInodeS a.1 k).bind fun r => (laws_markByteSS a.2.1 r.1).bind fun r2 => some (r2.1, (r.2, r2.2, a.2.2))
namespace laws_markFs
def G : Gam := mkG [(53, laws_markInodeS.FS), (54, laws_markByteSS.FS)]
def pts : List PT := [.cd tFs_, .cs I64]
def FS : FS := mkFS [.mu, .sh] pts (fun x => laws_markFs x.1 x.2.1) fun t => ⟨[.cs I64 t.1], [.cd tFs_ t.2]⟩
theorem ok : FsOk PR 19 FS :=
  fn_ok tbok hmix Proofs.Tryz.f19 ⟨[2], [], [], 0⟩ .no (G := G) (show GOk PR G from .cons laws_markInodeS.ok (.cons laws_markByteSS.ok .nil)) (L := mkL []) (l := []) hT
    (fun x => by simp only [laws_markFs, mC, mB, mS, mO, mN]; kernel_rfl)
end laws_markFs
def laws_markPutS_l0.B (k_ : Int) (i_ : Int) (a_ : List Put_) : Option ((Int × Int × List Put_) ⊕ (Int × List Put_)) :=
  cond (decide (i_ < (a_.length : Int))) (cond (inB i_ a_.length) (cond (inB i_ ((a_.set i_.toNat (k_, (a_.getD i_.toNat zPut_).2)).length)) ((laws_markInt64S ((((a_.set i_.toNat (k_, (a_.getD i_.toNat zPut_).2)).getD i_.toNat zPut_).2).1) (w64 (k_ + 1))).bind fun r => some (.inl (r.1, w64 (i_ + 1), (a_.set i_.toNat (k_, (a_.getD i_.toNat zPut_).2)).set i_.toNat (((a_.set i_.toNat (k_, (a_.getD i_.toNat zPut_).2)).getD i_.toNat zPut_).1, r.2, (((a_.set i_.toNat (k_, (a_.getD i_.toNat zPut_).2)).getD i_.toNat zPut_).2).2)))) (none)) (none)) (some (.inr (k_, a_)))
def laws_markPutS_l0  : (Int × Int × List Put_) → Option (Int × List Put_) :=
  loopL fun s => laws_markPutS_l0.B s.1 s.2.1 s.2.2
def laws_markPutS (a : List Put_) (k : Int) : Option (Int × List Put_) :=
  (laws_markPutS_l0 (k, 0, a)).bind fun o => some (o.1, o.2)
namespace laws_markPutS
def G : Gam := mkG [(55, laws_markInt64S.FS)]
theorem Gok : GOk PR G := .cons laws_markInt64S.ok .nil
end laws_markPutS
namespace laws_markPutS_l0
def c := codeAt (bodyOf Proofs.Tryz.f60) [1, 0, 1, 0, 0]
def sp : SP := ⟨[(0, .seg 0 []), (1, .cs I64), (5, .cs I64)], [(0, .reg, .cd (.sl tPut_))]⟩
def out  : FOut (Int × List Put_) := fun b _ k => k (.ex 0) ⟨[(1, .cs I64 b.1)], [sr 0 (.cd (.sl tPut_) b.2)]⟩
def fr := lfrag sp (fun x => laws_markPutS_l0  (x.1.2.1, x.1.2.2.1, x.2.1)) fun x => out 
theorem ok : CodeOk PR 27 2 (.loop c) fr :=
  lp_ok tbok hmix h0 .no (G := laws_markPutS.G) laws_markPutS.Gok (L := mkL []) (l := []) hT [0, 1, 5] [0] [(0, ([1], [0]))] ([], []) (fun x s => B  s.1 s.2.1 s.2.2) (fun x s => ⟨[(0, .seg 0 []), (1, .cs I64 s.1), (5, .cs I64 s.2.1)], [sr 0 (.cd (.sl tPut_) s.2.2)]⟩) (fun x => (x.1.2.1, x.1.2.2.1, x.2.1))
    (fun x s => by simp only [B, mC, mB, mS, mO, mN]; kernel_rfl)
end laws_markPutS_l0
namespace laws_markPutS
def pts : List PT := [.cd (.sl tPut_), .cs I64]
def FS : FS := mkFS [.mu, .sh] pts (fun x => laws_markPutS x.1 x.2.1) fun t => ⟨[.cs I64 t.1], [.cd (.sl tPut_) t.2]⟩
theorem ok : FsOk PR 60 FS :=
  fn_ok tbok hmix Proofs.Tryz.f60 h0 (.R (.L (.R (.one (.fr 0))))) (G := G) Gok (L := mkL [(0, laws_markPutS_l0.fr)]) (l := [(0, .loop laws_markPutS_l0.c)]) ⟨Lam.cons laws_markPutS_l0.ok, trivial⟩
    (fun x => by simp only [laws_markPutS, mC, mB, mS, mO, mN]; kernel_rfl)
end laws_markPutS
def laws_markPutsResult (a : PutsResult_) (k : Int) : Option (Int × PutsResult_) :=
  (laws_markPutS a.2.1 k).bind fun r => some (r.1, (a.1, r.2, a.2.2))
namespace laws_markPutsResult
def G : Gam := mkG [(60, laws_markPutS.FS)]
def pts : List PT := [.cd tPutsResult_, .cs I64]
def FS : FS := mkFS [.mu, .sh] pts (fun x => laws_markPutsResult x.1 x.2.1) fun t => ⟨[.cs I64 t.1], [.cd tPutsResult_ t.2]⟩
theorem ok : FsOk PR 25 FS :=
  fn_ok tbok hmix Proofs.Tryz.f25 ⟨[2], [], [], 0⟩ .no (G := G) (show GOk PR G from .cons laws_markPutS.ok .nil) (L := mkL []) (l := []) hT
    (fun x => by simp only [laws_markPutsResult, mC, mB, mS, mO, mN]; kernel_rfl)
end laws_markPutsResult
def laws_heldInt64S_l0.B (a : List Int) (k_ : Int) (i_ : Int) : Option ((Int × Int) ⊕ (((Int) ⊕ (Int)))) :=
  cond (decide (i_ < (a.length : Int))) (cond (inB i_ a.length) (cond ((a.getD i_.toNat 0) != k_) (some (.inr (.inl (-1)))) (some (.inl (w64 (k_ + 1), w64 (i_ + 1))))) (none)) (some (.inr (.inr k_)))
def laws_heldInt64S_l0 (a : List Int) : (Int × Int) → Option (((Int) ⊕ (Int))) :=
  loopL fun s => laws_heldInt64S_l0.B a s.1 s.2
def laws_heldInt64S (a : List Int) (k : Int) : Option (Int) :=
  (laws_heldInt64S_l0 a (k, 0)).bind fun o => sel o (fun b => some b) (fun c => some c)
namespace laws_heldInt64S_l0
def c := codeAt (bodyOf Proofs.Tryz.f56) [1, 0, 1, 0, 0]
def sp : SP := ⟨[(0, .cs SI), (1, .cs I64), (5, .cs I64)], []⟩
def out (a : List Int) : FOut (((Int) ⊕ (Int))) := fun o _ k => sel o (fun b => k (.rt) ⟨[(4, .cs I64 b)], []⟩) (fun c => k (.ex 0) ⟨[(1, .cs I64 c)], []⟩)
def fr := lfrag sp (fun x => laws_heldInt64S_l0 x.1.1 (x.1.2.1, x.1.2.2.1)) fun x => out x.1.1
theorem ok : CodeOk PR 21 2 (.loop c) fr :=
  lp_ok tbok hmix h0 .no (G := (mkG [])) .nil (L := mkL []) (l := []) hT [0, 1, 5] [] [(0, ([1], []))] ([4], []) (fun x s => B x.1.1 s.1 s.2) (fun x s => ⟨[(0, .cs SI x.1.1), (1, .cs I64 s.1), (5, .cs I64 s.2)], []⟩) (fun x => (x.1.2.1, x.1.2.2.1))
    (fun x s => by simp only [B, mC, mB, mS, mO, mN]; kernel_rfl)
end laws_heldInt64S_l0
namespace laws_heldInt64S
def pts : List PT := [.cs SI, .cs I64]
def FS : FS := mkFS [.sh, .sh] pts (fun x => laws_heldInt64S x.1 x.2.1) fun t => ⟨[.cs I64 t], []⟩
theorem ok : FsOk PR 56 FS :=
  fn_ok tbok hmix Proofs.Tryz.f56 h0 (.R (.L (.R (.one (.fr 0))))) (G := (mkG [])) .nil (L := mkL [(0, laws_heldInt64S_l0.fr)]) (l := [(0, .loop laws_heldInt64S_l0.c)]) ⟨Lam.cons laws_heldInt64S_l0.ok, trivial⟩
    (fun x => by simp only [laws_heldInt64S, mC, mB, mS, mO, mN]; kernel_rfl)
end laws_heldInt64S
def laws_heldPutS_l0.B (a : List Put_) (k_ : Int) (i_ : Int) : Option ((Int × Int) ⊕ (((Int) ⊕ (Int)))) :=
  cond (decide (i_ < (a.length : Int))) (cond (inB i_ a.length) (cond (((a.getD i_.toNat zPut_).1) != k_) (some (.inr (.inl (-1)))) (cond (inB i_ a.length) ((laws_heldInt64S (((a.getD i_.toNat zPut_).2).1) (w64 (k_ + 1))).bind fun r => cond (decide (r < 0)) (some (.inr (.inl (-1)))) (some (.inl (r, w64 (i_ + 1))))) (none))) (none)) (some (.inr (.inr k_)))
def laws_heldPutS_l0 (a : List Put_) : (Int × Int) → Option (((Int) ⊕ (Int))) :=
  loopL fun s => laws_heldPutS_l0.B a s.1 s.2
def laws_heldPutS (a : List Put_) (k : Int) : Option (Int) :=
  (laws_heldPutS_l0 a (k, 0)).bind fun o => sel o (fun b => some b) (fun c => some c)
namespace laws_heldPutS
def G : Gam := mkG [(56, laws_heldInt64S.FS)]
theorem Gok : GOk PR G := .cons laws_heldInt64S.ok .nil
end laws_heldPutS
namespace laws_heldPutS_l0
def c := codeAt (bodyOf Proofs.Tryz.f61) [1, 0, 1, 0, 0]
def sp : SP := ⟨[(0, .cs (.sl tPut_)), (1, .cs I64), (5, .cs I64)], []⟩
def out (a : List Put_) : FOut (((Int) ⊕ (Int))) := fun o _ k => sel o (fun b => k (.rt) ⟨[(4, .cs I64 b)], []⟩) (fun c => k (.ex 0) ⟨[(1, .cs I64 c)], []⟩)
def fr := lfrag sp (fun x => laws_heldPutS_l0 x.1.1 (x.1.2.1, x.1.2.2.1)) fun x => out x.1.1
theorem ok : CodeOk PR 31 2 (.loop c) fr :=
  lp_ok tbok hmix h0 .no (G := laws_heldPutS.G) laws_heldPutS.Gok (L := mkL []) (l := []) hT [0, 1, 5] [] [(0, ([1], []))] ([4], []) (fun x s => B x.1.1 s.1 s.2) (fun x s => ⟨[(0, .cs (.sl tPut_) x.1.1), (1, .cs I64 s.1), (5, .cs I64 s.2)], []⟩) (fun x => (x.1.2.1, x.1.2.2.1))
    (fun x s => by simp only [B, mC, mB, mS, mO, mN]; kernel_rfl)
end laws_heldPutS_l0
namespace laws_heldPutS
def pts : List PT := [.cs (.sl tPut_), .cs I64]
def FS : FS := mkFS [.sh, .sh] pts (fun x => laws_heldPutS x.1 x.2.1) fun t => ⟨[.cs I64 t], []⟩
theorem ok : FsOk PR 61 FS :=
  fn_ok tbok hmix Proofs.Tryz.f61 h0 (.R (.L (.R (.one (.fr 0))))) (G := G) Gok (L := mkL [(0, laws_heldPutS_l0.fr)]) (l := [(0, .loop laws_heldPutS_l0.c)]) ⟨Lam.cons laws_heldPutS_l0.ok, trivial⟩
    (fun x => by simp only [laws_heldPutS, mC, mB, mS, mO, mN]; kernel_rfl)
end laws_heldPutS
def laws_heldPutsResult (a : PutsResult_) (k : Int) : Option (Int) :=
  (laws_heldPutS a.2.1 k).bind fun r => cond (decide (r < 0)) (some (-1)) (some r)
namespace laws_heldPutsResult
def G : Gam := mkG [(61, laws_heldPutS.FS)]
def pts : List PT := [.cs tPutsResult_, .cs I64]
def FS : FS := mkFS [.sh, .sh] pts (fun x => laws_heldPutsResult x.1 x.2.1) fun t => ⟨[.cs I64 t], []⟩
theorem ok : FsOk PR 26 FS :=
  fn_ok tbok hmix Proofs.Tryz.f26 ⟨[2], [], [], 0⟩ .no (G := G) (show GOk PR G from .cons laws_heldPutS.ok .nil) (L := mkL []) (l := []) hT
    (fun x => by simp only [laws_heldPutsResult, mC, mB, mS, mO, mN]; kernel_rfl)
end laws_heldPutsResult
def laws_FnExactDataPuts (aF : Fs_) : Option (Bool) :=
  (laws_szFs aF 1048576).bind fun r => cond (decide (r < 0)) (some true) ((laws_toFs aF).bind fun r2 => (spec_DataPuts (r2.1, r2.2.1, r2.2.2)).bind fun r3 => (laws_toFs aF).bind fun r4 => (impl_DataPuts (r4.1, r4.2.1, r4.2.2)).bind fun r5 => (laws_eqPutsResult (r5.1, r5.2.1, r5.2.2) (r3.1, r3.2.1, r3.2.2)).bind fun r6 => cond (!r6) (some false) ((laws_toFs aF).bind fun r7 => (laws_eqFs (r4.1, r4.2.1, r4.2.2) (r7.1, r7.2.1, r7.2.2)).bind fun r8 => cond (!r8) (some false) ((laws_markFs (r4.1, r4.2.1, r4.2.2) 1).bind fun r9 => cond (decide (r9.1 < 0)) (some false) ((laws_eqPutsResult (r5.1, r5.2.1, r5.2.2) (r3.1, r3.2.1, r3.2.2)).bind fun r10 => cond (!r10) (some false) ((laws_markPutsResult (r5.1, r5.2.1, r5.2.2) 1).bind fun r11 => (laws_heldPutsResult (r5.1, r11.2.2.1, r5.2.2) 1).bind fun r12 => cond (decide (r12 < 0)) (some false) (cond (r12 != r11.1) (some false) ((laws_toFs aF).bind fun r13 => (impl_DataPuts (r13.1, r13.2.1, r13.2.2)).bind fun r14 => (laws_eqPutsResult (r14.1, r14.2.1, r14.2.2) (r3.1, r3.2.1, r3.2.2)).bind fun r15 => cond (!r15) (some false) ((laws_heldPutsResult (r5.1, r11.2.2.1, r5.2.2) 1).bind fun r16 => cond (decide (r16 < 0)) (some false) (cond (r16 != r11.1) (some false) (some true))))))))))
namespace laws_FnExactDataPuts
def G : Gam := mkG [(8, laws_szFs.FS), (10, laws_toFs.FS), (22, spec_DataPuts.FS), (23, impl_DataPuts.FS), (24, laws_eqPutsResult.FS), (14, laws_eqFs.FS), (19, laws_markFs.FS), (25, laws_markPutsResult.FS), (26, laws_heldPutsResult.FS)]
def pts : List PT := [.cs tFs_]
def FS : FS := mkFS [.sh] pts (fun x => laws_FnExactDataPuts x.1) fun t => ⟨[.cs .bool t], []⟩
theorem ok : FsOk PR 5 FS :=
  fn_ok tbok hmix Proofs.Tryz.f5 ⟨[1], [], [], 0⟩ .no (G := G) (show GOk PR G from .cons laws_szFs.ok (.cons laws_toFs.ok (.cons spec_DataPuts.ok (.cons impl_DataPuts.ok (.cons laws_eqPutsResult.ok (.cons laws_eqFs.ok (.cons laws_markFs.ok (.cons laws_markPutsResult.ok (.cons laws_heldPutsResult.ok .nil))))))))) (L := mkL []) (l := []) hT
    (fun x => by simp only [laws_FnExactDataPuts, mC, mB, mS, mO, mN]; kernel_rfl)
end laws_FnExactDataPuts
end Mf
