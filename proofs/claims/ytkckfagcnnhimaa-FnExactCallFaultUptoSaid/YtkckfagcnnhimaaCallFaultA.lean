/- The functions that FnExactCallFault reaches: what each computes, and that it does. -/
import Derived.Test.YtkckfagcnnhimaaMf6
import Derived.Test.YtkckfagcnnhimaaProg
import Derived.KernelRfl
namespace Mf
open Go
set_option linter.unusedVariables false
set_option linter.unusedSimpArgs false
set_option maxRecDepth 100000
abbrev tBoundsError_ : Ty := (.pair (.int .i64) (.pair (.int .i64) (.pair .bool (.pair (.int .u8) .unit))))
abbrev BoundsError_ : Type := Int × Int × Bool × Int × Unit
def zBoundsError_ : BoundsError_ := (0, 0, false, 0, ())
abbrev tErrorAddressString_ : Ty := (.pair .str (.pair (.int .u64) .unit))
abbrev ErrorAddressString_ : Type := (List UInt8) × Int × Unit
def zErrorAddressString_ : ErrorAddressString_ := ([], 0, ())
abbrev tCall_ : Ty := (.pair (.int .i64) (.pair .str (.pair .str (.pair (.int .i64) (.pair (.int .i64) (.pair (.sl (.int .u8)) .unit))))))
abbrev Call_ : Type := Int × (List UInt8) × (List UInt8) × Int × Int × (List Int) × Unit
def zCall_ : Call_ := (0, [], [], 0, 0, [], ())
abbrev tPut_ : Ty := (.pair (.int .i64) (.pair (.sl (.int .i64)) .unit))
abbrev Put_ : Type := Int × (List Int) × Unit
def zPut_ : Put_ := (0, [], ())
abbrev tStep_ : Ty := (.pair .bool tPut_)
abbrev Step_ : Type := Bool × Put_
def zStep_ : Step_ := (false, 0, [], ())
abbrev tDisk_ : Ty := (.pair (.sl (.sl (.int .i64))) (.pair (.sl tPut_) .unit))
abbrev Disk_ : Type := (List (List Int)) × (List Put_) × Unit
def zDisk_ : Disk_ := ([], [], ())
abbrev tDiskResult_ : Ty := (.pair (.int .i64) (.pair tDisk_ .unit))
abbrev DiskResult_ : Type := Int × Disk_ × Unit
def zDiskResult_ : DiskResult_ := (0, ([], [], ()), ())
abbrev tIntResult_ : Ty := (.pair (.int .i64) (.pair (.int .i64) .unit))
abbrev IntResult_ : Type := Int × Int × Unit
def zIntResult_ : IntResult_ := (0, 0, ())
abbrev tPutsResult_ : Ty := (.pair (.int .i64) (.pair (.sl tPut_) .unit))
abbrev PutsResult_ : Type := Int × (List Put_) × Unit
def zPutsResult_ : PutsResult_ := (0, [], ())
abbrev tTxResult_ : Ty := (.pair (.int .i64) (.pair .bool (.pair (.sl tPut_) .unit)))
abbrev TxResult_ : Type := Int × Bool × (List Put_) × Unit
def zTxResult_ : TxResult_ := (0, false, [], ())
abbrev tStepsResult_ : Ty := (.pair (.int .i64) (.pair (.sl tStep_) .unit))
abbrev StepsResult_ : Type := Int × (List Step_) × Unit
def zStepsResult_ : StepsResult_ := (0, [], ())
abbrev tEntry_ : Ty := (.pair .str (.pair (.int .i64) .unit))
abbrev Entry_ : Type := (List UInt8) × Int × Unit
def zEntry_ : Entry_ := ([], 0, ())
abbrev tInode_ : Ty := (.pair (.int .i64) (.pair (.int .i64) (.pair (.int .i64) (.pair (.sl (.int .i64)) (.pair (.sl tEntry_) .unit)))))
abbrev Inode_ : Type := Int × Int × Int × (List Int) × (List Entry_) × Unit
def zInode_ : Inode_ := (0, 0, 0, [], [], ())
abbrev tFs_ : Ty := (.pair (.sl tInode_) (.pair (.sl (.sl (.int .u8))) .unit))
abbrev Fs_ : Type := (List Inode_) × (List (List Int)) × Unit
def zFs_ : Fs_ := ([], [], ())
abbrev tCallResult_ : Ty := (.pair (.int .i64) (.pair (.int .i64) (.pair (.int .i64) (.pair (.sl (.int .u8)) (.pair (.sl .str) (.pair tFs_ .unit))))))
abbrev CallResult_ : Type := Int × Int × Int × (List Int) × (List (List UInt8)) × Fs_ × Unit
def zCallResult_ : CallResult_ := (0, 0, 0, [], [], ([], [], ()), ())
abbrev tWorld_ : Ty := (.pair tDisk_ (.pair tFs_ (.pair tFs_ .unit)))
abbrev World_ : Type := Disk_ × Fs_ × Fs_ × Unit
def zWorld_ : World_ := (([], [], ()), ([], [], ()), ([], [], ()), ())
abbrev tWorldResult_ : Ty := (.pair (.int .i64) (.pair tCallResult_ (.pair tWorld_ .unit)))
abbrev WorldResult_ : Type := Int × CallResult_ × World_ × Unit
def zWorldResult_ : WorldResult_ := (0, (0, 0, 0, [], [], ([], [], ()), ()), (([], [], ()), ([], [], ()), ([], [], ()), ()), ())
def tb : Tb := [(2, ⟨.int .i64, (.int .i64), 8⟩), (3, ⟨.int .i64, (.int .i64), 8⟩), (4, ⟨.bool, .bool, 1⟩), (5, ⟨.int .u8, (.int .u8), 1⟩), (6, ⟨.int .u8, (.int .u8), 1⟩), (7, ⟨.st [0, 1, 2, 3], tBoundsError_, 24⟩), (8, ⟨.st [0, 1, 2, 3], tBoundsError_, 24⟩), (9, ⟨.str, .str, 16⟩), (10, ⟨.str, .str, 16⟩), (11, ⟨.str, .str, 16⟩), (12, ⟨.int .u64, (.int .u64), 8⟩), (13, ⟨.st [0, 1], tErrorAddressString_, 24⟩), (14, ⟨.st [0, 1], tErrorAddressString_, 24⟩), (21, ⟨.int .i32, (.int .i32), 4⟩), (22, ⟨.sl 5, (.sl (.int .u8)), 24⟩), (23, ⟨.st [0, 1, 2, 3, 4, 5], tCall_, 80⟩), (24, ⟨.st [0, 1, 2, 3, 4, 5], tCall_, 80⟩), (27, ⟨.st [0, 1, 2, 3, 4, 5], tCall_, 80⟩), (31, ⟨.sl 2, (.sl (.int .i64)), 24⟩), (32, ⟨.st [0, 1, 2], tStep_, 40⟩), (33, ⟨.st [0, 1, 2], tStep_, 40⟩), (36, ⟨.st [0, 1, 2], tStep_, 40⟩), (40, ⟨.sl 31, (.sl (.sl (.int .i64))), 24⟩), (41, ⟨.sl 141, (.sl tPut_), 24⟩), (42, ⟨.st [0, 1], tDisk_, 48⟩), (43, ⟨.st [0, 1], tDisk_, 48⟩), (44, ⟨.st [0, 1], tDiskResult_, 56⟩), (45, ⟨.st [0, 1], tDiskResult_, 56⟩), (50, ⟨.sl 33, (.sl tStep_), 24⟩), (52, ⟨.st [0, 1], tIntResult_, 16⟩), (53, ⟨.st [0, 1], tIntResult_, 16⟩), (55, ⟨.sl 36, (.sl tStep_), 24⟩), (60, ⟨.sl 139, (.sl tPut_), 24⟩), (61, ⟨.st [0, 1], tDisk_, 48⟩), (62, ⟨.st [0, 1], tDisk_, 48⟩), (69, ⟨.st [0, 1], tPutsResult_, 32⟩), (70, ⟨.st [0, 1], tPutsResult_, 32⟩), (79, ⟨.st [0, 1, 2], tTxResult_, 40⟩), (80, ⟨.st [0, 1, 2], tTxResult_, 40⟩), (84, ⟨.st [0, 1], tStepsResult_, 32⟩), (85, ⟨.st [0, 1], tStepsResult_, 32⟩), (92, ⟨.sl 9, (.sl .str), 24⟩), (93, ⟨.sl 125, (.sl tInode_), 24⟩), (94, ⟨.sl 22, (.sl (.sl (.int .u8))), 24⟩), (95, ⟨.st [0, 1], tFs_, 48⟩), (96, ⟨.st [0, 1], tFs_, 48⟩), (97, ⟨.st [0, 1, 2, 3, 4, 5], tCallResult_, 120⟩), (98, ⟨.st [0, 1, 2, 3, 4, 5], tCallResult_, 120⟩), (99, ⟨.st [0, 2, 4], tWorld_, 144⟩), (100, ⟨.st [0, 2, 4], tWorld_, 144⟩), (101, ⟨.st [0, 1, 8], tWorldResult_, 272⟩), (102, ⟨.st [0, 1, 8], tWorldResult_, 272⟩), (106, ⟨.sl 4, (.sl .bool), 24⟩), (123, ⟨.sl 167, (.sl tEntry_), 24⟩), (124, ⟨.st [0, 1, 2, 3, 4], tInode_, 72⟩), (125, ⟨.st [0, 1, 2, 3, 4], tInode_, 72⟩), (138, ⟨.st [0, 1], tPut_, 32⟩), (139, ⟨.st [0, 1], tPut_, 32⟩), (141, ⟨.st [0, 1], tPut_, 32⟩), (166, ⟨.st [0, 1], tEntry_, 24⟩), (167, ⟨.st [0, 1], tEntry_, 24⟩), (202, ⟨.int .u32, (.int .u32), 4⟩), (203, ⟨.int .u8, (.int .u8), 1⟩), (204, ⟨.int .u8, (.int .u8), 1⟩), (207, ⟨.int .i32, (.int .i32), 4⟩), (208, ⟨.int .i32, (.int .i32), 4⟩)]
theorem tbok : TbOk Go.Proofs.Try.prog tb := tbB_ok (by kernel_rfl)
theorem hmix : Go.Proofs.Try.prog.follows .mixedOrders = true := by kernel_rfl
/-! loop.example/g00295/laws.szByteS: 73 -/
noncomputable def laws_szByteS (a : List Int) (left : Int) : Option (Int) :=
  cond (decide ((w64 (left - (a.length : Int))) < 0)) (some (-1)) (some (w64 (left - (a.length : Int))))
noncomputable def laws_szByteS.G : Gam := mkG []
theorem laws_szByteS.Gok : GOk Go.Proofs.Try.prog laws_szByteS.G := GOk.nil
def laws_szByteS.hn : Hint := ⟨[], [], [], 0⟩
noncomputable def laws_szByteS.L : Lam := mkL []
def laws_szByteS.out (t : Int) : Out := ⟨[.cl .sh (.int .i64) t], []⟩
theorem laws_szByteS.eq (a : List Int) (left : Int) : ev tb laws_szByteS.hn 12 2 laws_szByteS.G laws_szByteS.L (bodyOf Go.Proofs.Try.f73) (.no) (initSt [.cl .sh (.sl (.int .u8)) a, .cl .sh (.int .i64) left]) (kfin tb laws_szByteS.hn Go.Proofs.Try.f73 [.sh, .sh]) =
    (laws_szByteS a left).map laws_szByteS.out := by
  simp only [laws_szByteS, cond_map, bind_map, sel_map, Option.map_some, Option.map_none]
  kernel_rfl
def laws_szByteS.pts : List PT := [.cl .sh (.sl (.int .u8)), .cl .sh (.int .i64)]
noncomputable def laws_szByteS.FS : FS := mkFS [.sh, .sh] laws_szByteS.pts (fun x => laws_szByteS x.1 x.2.1) laws_szByteS.out
theorem laws_szByteS.ok : FsOk Go.Proofs.Try.prog 73 laws_szByteS.FS :=
  fs_ok (fn := Go.Proofs.Try.f73) tbok (by kernel_rfl) (body_some (by kernel_rfl)) (by kernel_rfl) (pts := laws_szByteS.pts) (ev_sound (nt := 12) (np := 2) (hn := laws_szByteS.hn) (G := laws_szByteS.G) (L := laws_szByteS.L) tbok laws_szByteS.Gok hmix _ (.no) (hok_of (l := []) (by kernel_rfl) trivial)) rfl rfl
    fun x => laws_szByteS.eq x.1 x.2.1
/-! loop.example/g00295/laws.szCall: 14 -/
noncomputable def laws_szCall (a : Call_) (left : Int) : Option (Int) :=
  cond (decide ((w64 (left - (a.2.1.length : Int))) < 0)) (some (-1)) ((some (w64 ((w64 (left - (a.2.1.length : Int))) - (a.2.2.1.length : Int)))).bind fun v => cond (decide (v < 0)) (some (-1)) ((laws_szByteS a.2.2.2.2.2.1 v).bind fun r => cond (decide (r < 0)) (some (-1)) (some r)))
noncomputable def laws_szCall.G : Gam := mkG [(73, laws_szByteS.FS)]
theorem laws_szCall.Gok : GOk Go.Proofs.Try.prog laws_szCall.G := GOk.cons (laws_szByteS.ok) (GOk.nil)
def laws_szCall.hn : Hint := ⟨[2], [], [], 0⟩
noncomputable def laws_szCall.L : Lam := mkL []
def laws_szCall.out (t : Int) : Out := ⟨[.cl .sh (.int .i64) t], []⟩
theorem laws_szCall.eq (a : Call_) (left : Int) : ev tb laws_szCall.hn 26 2 laws_szCall.G laws_szCall.L (bodyOf Go.Proofs.Try.f14) (.no) (initSt [.cl .sh tCall_ a, .cl .sh (.int .i64) left]) (kfin tb laws_szCall.hn Go.Proofs.Try.f14 [.sh, .sh]) =
    (laws_szCall a left).map laws_szCall.out := by
  simp only [laws_szCall, cond_map, bind_map, sel_map, Option.map_some, Option.map_none]
  kernel_rfl
def laws_szCall.pts : List PT := [.cl .sh tCall_, .cl .sh (.int .i64)]
noncomputable def laws_szCall.FS : FS := mkFS [.sh, .sh] laws_szCall.pts (fun x => laws_szCall x.1 x.2.1) laws_szCall.out
theorem laws_szCall.ok : FsOk Go.Proofs.Try.prog 14 laws_szCall.FS :=
  fs_ok (fn := Go.Proofs.Try.f14) tbok (by kernel_rfl) (body_some (by kernel_rfl)) (by kernel_rfl) (pts := laws_szCall.pts) (ev_sound (nt := 26) (np := 2) (hn := laws_szCall.hn) (G := laws_szCall.G) (L := laws_szCall.L) tbok laws_szCall.Gok hmix _ (.no) (hok_of (l := []) (by kernel_rfl) trivial)) rfl rfl
    fun x => laws_szCall.eq x.1 x.2.1
/-! loop.example/g00295/laws.toByteS: 76 -/
noncomputable def laws_toByteS_l0.B (a : List Int) (i_ : Int) (out_ : List Int) : Option ((Int × List Int) ⊕ (List Int)) :=
  cond (decide (i_ < (a.length : Int))) (cond (inB i_ a.length) (cond (inB i_ out_.length) (some (.inl (w64 (i_ + 1), out_.set i_.toNat (a.getD i_.toNat 0)))) (none)) (none)) (some (.inr out_))
noncomputable def laws_toByteS_l0 (a : List Int) : (Int × List Int) → Option (List Int) :=
  loopL fun s => laws_toByteS_l0.B a s.1 s.2
noncomputable def laws_toByteS (a : List Int) : Option (List Int) :=
  cond (decide ((0 : Int) ≤ (a.length : Int)) && (decide ((a.length : Int) ≤ (a.length : Int)) && decide ((a.length : Int) ≤ 2147483648))) ((laws_toByteS_l0 a (0, List.replicate (a.length : Int).toNat 0)).bind fun o => some o) (none)
noncomputable def laws_toByteS.G : Gam := mkG []
theorem laws_toByteS.Gok : GOk Go.Proofs.Try.prog laws_toByteS.G := GOk.nil
def laws_toByteS.hn : Hint := ⟨[], [], [], 0⟩
noncomputable def laws_toByteS_l0.wit (a : List Int) (b : List Int) : Ex × St := (.ex 0, ⟨[(3, .seg 3 [])], [(3, some ⟨.reg, .cl .deep (.sl (.int .u8)) b⟩)]⟩)
theorem laws_toByteS_l0.eq (a : List Int) (i_ : Int) (out_ : List Int) : ev tb laws_toByteS.hn 22 1 laws_toByteS.G (mkL []) (codeAt (bodyOf Go.Proofs.Try.f76) [1, 1, 0, 1, 0, 0]) (.no) ⟨[(0, .cl .sh (.sl (.int .u8)) a), (3, .seg 3 []), (4, .cl .sh (.int .i64) i_)], [(3, some ⟨.reg, .cl .deep (.sl (.int .u8)) out_⟩)]⟩ (kLp (([0, 3, 4], [3])) [(0, ([3], [3]))] ([], [])) =
    (laws_toByteS_l0.B a i_ out_).map (fun o => sel o (fun s => .inl ⟨[(0, .cl .sh (.sl (.int .u8)) a), (3, .seg 3 []), (4, .cl .sh (.int .i64) s.1)], [(3, some ⟨.reg, .cl .deep (.sl (.int .u8)) s.2⟩)]⟩) (fun b => .inr (laws_toByteS_l0.wit a b))) := by
  simp only [laws_toByteS_l0.B, cond_map, bind_map, sel_map, Option.map_some, Option.map_none]
  kernel_rfl
def laws_toByteS_l0.sp : SP := ⟨[(0, .cl .sh (.sl (.int .u8))), (3, .seg 3 []), (4, .cl .sh (.int .i64))], [(3, .reg, .cl .deep (.sl (.int .u8)))]⟩
noncomputable def laws_toByteS_l0.out (a : List Int) : FOut (List Int) := fun b _ k => k (.ex 0) ⟨[(3, .seg 3 [])], [(3, some ⟨.reg, .cl .deep (.sl (.int .u8)) b⟩)]⟩
theorem laws_toByteS_l0.outEq (a : List Int) (o : List Int) (R : Type) (k : Ex → St → Option R) : laws_toByteS_l0.out a o R k = k (laws_toByteS_l0.wit a o).1 (laws_toByteS_l0.wit a o).2 := by
  rfl
noncomputable def laws_toByteS_l0.F (x : laws_toByteS_l0.sp.El) (R : Type) (k : Ex → St → Option R) : Option R := (laws_toByteS_l0 x.1.1 (x.1.2.2.1, x.2.1)).bind fun t => laws_toByteS_l0.out x.1.1 t R k
noncomputable def laws_toByteS_l0.fr : St → ∀ R : Type, (Ex → St → Option R) → Option R := mkFrag laws_toByteS_l0.sp laws_toByteS_l0.F
theorem laws_toByteS_l0.ok : CodeOk Go.Proofs.Try.prog 22 1 (.loop (codeAt (bodyOf Go.Proofs.Try.f76) [1, 1, 0, 1, 0, 0])) laws_toByteS_l0.fr :=
  loop_sound (sp := laws_toByteS_l0.sp) rfl (F := laws_toByteS_l0.F) (ev_sound (hn := laws_toByteS.hn) (G := laws_toByteS.G) (L := mkL []) tbok laws_toByteS.Gok hmix _ (.no) (hok_of (l := []) (by kernel_rfl) trivial)) 
    fun x => ⟨_, _, fun s => laws_toByteS_l0.B x.1.1 s.1 s.2, fun s => ⟨[(0, .cl .sh (.sl (.int .u8)) x.1.1), (3, .seg 3 []), (4, .cl .sh (.int .i64) s.1)], [(3, some ⟨.reg, .cl .deep (.sl (.int .u8)) s.2⟩)]⟩, laws_toByteS_l0.wit x.1.1, (x.1.2.2.1, x.2.1), rfl, fun s => laws_toByteS_l0.eq x.1.1 s.1 s.2, fun R k => congrArg (fun g => (laws_toByteS_l0 x.1.1 (x.1.2.2.1, x.2.1)).bind g) (funext fun t => laws_toByteS_l0.outEq x.1.1 t R k)⟩
noncomputable def laws_toByteS.L : Lam := mkL [(0, laws_toByteS_l0.fr)]
def laws_toByteS.out (t : List Int) : Out := ⟨[.cl .deep (.sl (.int .u8)) t], []⟩
theorem laws_toByteS.eq (a : List Int) : ev tb laws_toByteS.hn 22 1 laws_toByteS.G laws_toByteS.L (bodyOf Go.Proofs.Try.f76) (.two (.no) (.two (.no) (.two (.two (.no) (.one (.fr 0))) (.no)))) (initSt [.cl .sh (.sl (.int .u8)) a]) (kfin tb laws_toByteS.hn Go.Proofs.Try.f76 [.sh]) =
    (laws_toByteS a).map laws_toByteS.out := by
  simp only [laws_toByteS, cond_map, bind_map, sel_map, Option.map_some, Option.map_none]
  kernel_rfl
def laws_toByteS.pts : List PT := [.cl .sh (.sl (.int .u8))]
noncomputable def laws_toByteS.FS : FS := mkFS [.sh] laws_toByteS.pts (fun x => laws_toByteS x.1) laws_toByteS.out
theorem laws_toByteS.ok : FsOk Go.Proofs.Try.prog 76 laws_toByteS.FS :=
  fs_ok (fn := Go.Proofs.Try.f76) tbok (by kernel_rfl) (body_some (by kernel_rfl)) (by kernel_rfl) (pts := laws_toByteS.pts) (ev_sound (nt := 22) (np := 1) (hn := laws_toByteS.hn) (G := laws_toByteS.G) (L := laws_toByteS.L) tbok laws_toByteS.Gok hmix _ (.two (.no) (.two (.no) (.two (.two (.no) (.one (.fr 0))) (.no)))) (hok_of (l := [(0, .loop (codeAt (bodyOf Go.Proofs.Try.f76) [1, 1, 0, 1, 0, 0]))]) (by kernel_rfl) ⟨Lam.cons laws_toByteS_l0.ok, trivial⟩)) rfl rfl
    fun x => laws_toByteS.eq x.1
/-! loop.example/g00295/laws.toCall: 16 -/
noncomputable def laws_toCall (a : Call_) : Option (Call_) :=
  (laws_toByteS a.2.2.2.2.2.1).bind fun r => some (a.1, a.2.1, a.2.2.1, a.2.2.2.1, a.2.2.2.2.1, r, ())
noncomputable def laws_toCall.G : Gam := mkG [(76, laws_toByteS.FS)]
theorem laws_toCall.Gok : GOk Go.Proofs.Try.prog laws_toCall.G := GOk.cons (laws_toByteS.ok) (GOk.nil)
def laws_toCall.hn : Hint := ⟨[1], [], [], 0⟩
noncomputable def laws_toCall.L : Lam := mkL []
def laws_toCall.out (t : Call_) : Out := ⟨[.cl .deep tCall_ t], []⟩
theorem laws_toCall.eq (a : Call_) : ev tb laws_toCall.hn 24 1 laws_toCall.G laws_toCall.L (bodyOf Go.Proofs.Try.f16) (.no) (initSt [.cl .sh tCall_ a]) (kfin tb laws_toCall.hn Go.Proofs.Try.f16 [.sh]) =
    (laws_toCall a).map laws_toCall.out := by
  simp only [laws_toCall, cond_map, bind_map, sel_map, Option.map_some, Option.map_none]
  kernel_rfl
def laws_toCall.pts : List PT := [.cl .sh tCall_]
noncomputable def laws_toCall.FS : FS := mkFS [.sh] laws_toCall.pts (fun x => laws_toCall x.1) laws_toCall.out
theorem laws_toCall.ok : FsOk Go.Proofs.Try.prog 16 laws_toCall.FS :=
  fs_ok (fn := Go.Proofs.Try.f16) tbok (by kernel_rfl) (body_some (by kernel_rfl)) (by kernel_rfl) (pts := laws_toCall.pts) (ev_sound (nt := 24) (np := 1) (hn := laws_toCall.hn) (G := laws_toCall.G) (L := laws_toCall.L) tbok laws_toCall.Gok hmix _ (.no) (hok_of (l := []) (by kernel_rfl) trivial)) rfl rfl
    fun x => laws_toCall.eq x.1
/-! loop.example/g00295/spec.l1In: 74 -/
noncomputable def spec_l1In (v : Int) (low : Int) (high : Int) : Option (Bool) :=
  (some (cond (decide (v ≥ low)) (decide (v ≤ high)) false)).bind fun v2 => some v2
noncomputable def spec_l1In.G : Gam := mkG []
theorem spec_l1In.Gok : GOk Go.Proofs.Try.prog spec_l1In.G := GOk.nil
def spec_l1In.hn : Hint := ⟨[], [], [], 0⟩
noncomputable def spec_l1In.L : Lam := mkL []
def spec_l1In.out (t : Bool) : Out := ⟨[.cl .sh .bool t], []⟩
theorem spec_l1In.eq (v : Int) (low : Int) (high : Int) : ev tb spec_l1In.hn 15 3 spec_l1In.G spec_l1In.L (bodyOf Go.Proofs.Try.f74) (.no) (initSt [.cl .sh (.int .i64) v, .cl .sh (.int .i64) low, .cl .sh (.int .i64) high]) (kfin tb spec_l1In.hn Go.Proofs.Try.f74 [.sh, .sh, .sh]) =
    (spec_l1In v low high).map spec_l1In.out := by
  simp only [spec_l1In, cond_map, bind_map, sel_map, Option.map_some, Option.map_none]
  kernel_rfl
def spec_l1In.pts : List PT := [.cl .sh (.int .i64), .cl .sh (.int .i64), .cl .sh (.int .i64)]
noncomputable def spec_l1In.FS : FS := mkFS [.sh, .sh, .sh] spec_l1In.pts (fun x => spec_l1In x.1 x.2.1 x.2.2.1) spec_l1In.out
theorem spec_l1In.ok : FsOk Go.Proofs.Try.prog 74 spec_l1In.FS :=
  fs_ok (fn := Go.Proofs.Try.f74) tbok (by kernel_rfl) (body_some (by kernel_rfl)) (by kernel_rfl) (pts := spec_l1In.pts) (ev_sound (nt := 15) (np := 3) (hn := spec_l1In.hn) (G := spec_l1In.G) (L := spec_l1In.L) tbok spec_l1In.Gok hmix _ (.no) (hok_of (l := []) (by kernel_rfl) trivial)) rfl rfl
    fun x => spec_l1In.eq x.1 x.2.1 x.2.2.1
/-! loop.example/g00295/spec.l10Wide: 75 -/
noncomputable def spec_l10Wide (k : Int) : Option (Bool) :=
  some (cond (k == 8) true (k == 9))
noncomputable def spec_l10Wide.G : Gam := mkG []
theorem spec_l10Wide.Gok : GOk Go.Proofs.Try.prog spec_l10Wide.G := GOk.nil
def spec_l10Wide.hn : Hint := ⟨[], [], [], 0⟩
noncomputable def spec_l10Wide.L : Lam := mkL []
def spec_l10Wide.out (t : Bool) : Out := ⟨[.cl .sh .bool t], []⟩
theorem spec_l10Wide.eq (k : Int) : ev tb spec_l10Wide.hn 9 1 spec_l10Wide.G spec_l10Wide.L (bodyOf Go.Proofs.Try.f75) (.no) (initSt [.cl .sh (.int .i64) k]) (kfin tb spec_l10Wide.hn Go.Proofs.Try.f75 [.sh]) =
    (spec_l10Wide k).map spec_l10Wide.out := by
  simp only [spec_l10Wide, cond_map, bind_map, sel_map, Option.map_some, Option.map_none]
  kernel_rfl
def spec_l10Wide.pts : List PT := [.cl .sh (.int .i64)]
noncomputable def spec_l10Wide.FS : FS := mkFS [.sh] spec_l10Wide.pts (fun x => spec_l10Wide x.1) spec_l10Wide.out
theorem spec_l10Wide.ok : FsOk Go.Proofs.Try.prog 75 spec_l10Wide.FS :=
  fs_ok (fn := Go.Proofs.Try.f75) tbok (by kernel_rfl) (body_some (by kernel_rfl)) (by kernel_rfl) (pts := spec_l10Wide.pts) (ev_sound (nt := 9) (np := 1) (hn := spec_l10Wide.hn) (G := spec_l10Wide.G) (L := spec_l10Wide.L) tbok spec_l10Wide.Gok hmix _ (.no) (hok_of (l := []) (by kernel_rfl) trivial)) rfl rfl
    fun x => spec_l10Wide.eq x.1
/-! loop.example/g00295/spec.CallFault: 15 -/
noncomputable def spec_CallFault (c : Call_) : Option (Int) :=
  (spec_l1In c.1 1 11).bind fun r => cond (!r) (some 1) ((spec_l10Wide c.1).bind fun r2 => (some (cond (!r2) (!(c.2.2.1 == ([] : List UInt8))) false)).bind fun v => (some (cond v true (cond (!(cond (c.1 == 3) true (c.1 == 4))) (c.2.2.2.1 != 0) false))).bind fun v2 => (some (cond v2 true (cond (!(cond (c.1 == 4) true (c.1 == 5))) (c.2.2.2.2.1 != 0) false))).bind fun v3 => (some (cond v3 true (cond (c.1 != 3) (decide ((c.2.2.2.2.2.1.length : Int) > 0)) false))).bind fun v4 => cond v4 (some 1) (cond (decide ((c.2.2.2.2.2.1.length : Int) > 40)) (some 2) (some 0)))
noncomputable def spec_CallFault.G : Gam := mkG [(74, spec_l1In.FS), (75, spec_l10Wide.FS)]
theorem spec_CallFault.Gok : GOk Go.Proofs.Try.prog spec_CallFault.G := GOk.cons (spec_l1In.ok) (GOk.cons (spec_l10Wide.ok) (GOk.nil))
def spec_CallFault.hn : Hint := ⟨[1], [], [], 0⟩
noncomputable def spec_CallFault.L : Lam := mkL []
def spec_CallFault.out (t : Int) : Out := ⟨[.cl .sh (.int .i64) t], []⟩
theorem spec_CallFault.eq (c : Call_) : ev tb spec_CallFault.hn 67 1 spec_CallFault.G spec_CallFault.L (bodyOf Go.Proofs.Try.f15) (.no) (initSt [.cl .sh tCall_ c]) (kfin tb spec_CallFault.hn Go.Proofs.Try.f15 [.sh]) =
    (spec_CallFault c).map spec_CallFault.out := by
  simp only [spec_CallFault, cond_map, bind_map, sel_map, Option.map_some, Option.map_none]
  kernel_rfl
def spec_CallFault.pts : List PT := [.cl .sh tCall_]
noncomputable def spec_CallFault.FS : FS := mkFS [.sh] spec_CallFault.pts (fun x => spec_CallFault x.1) spec_CallFault.out
theorem spec_CallFault.ok : FsOk Go.Proofs.Try.prog 15 spec_CallFault.FS :=
  fs_ok (fn := Go.Proofs.Try.f15) tbok (by kernel_rfl) (body_some (by kernel_rfl)) (by kernel_rfl) (pts := spec_CallFault.pts) (ev_sound (nt := 67) (np := 1) (hn := spec_CallFault.hn) (G := spec_CallFault.G) (L := spec_CallFault.L) tbok spec_CallFault.Gok hmix _ (.no) (hok_of (l := []) (by kernel_rfl) trivial)) rfl rfl
    fun x => spec_CallFault.eq x.1
/-! loop.example/g00295/impl.within: 95 -/
noncomputable def impl_within (n : Int) (low : Int) (high : Int) : Option (Bool) :=
  (some (cond (decide (n ≥ low)) (decide (n ≤ high)) false)).bind fun v => some v
noncomputable def impl_within.G : Gam := mkG []
theorem impl_within.Gok : GOk Go.Proofs.Try.prog impl_within.G := GOk.nil
def impl_within.hn : Hint := ⟨[], [], [], 0⟩
noncomputable def impl_within.L : Lam := mkL []
def impl_within.out (t : Bool) : Out := ⟨[.cl .sh .bool t], []⟩
theorem impl_within.eq (n : Int) (low : Int) (high : Int) : ev tb impl_within.hn 15 3 impl_within.G impl_within.L (bodyOf Go.Proofs.Try.f95) (.no) (initSt [.cl .sh (.int .i64) n, .cl .sh (.int .i64) low, .cl .sh (.int .i64) high]) (kfin tb impl_within.hn Go.Proofs.Try.f95 [.sh, .sh, .sh]) =
    (impl_within n low high).map impl_within.out := by
  simp only [impl_within, cond_map, bind_map, sel_map, Option.map_some, Option.map_none]
  kernel_rfl
def impl_within.pts : List PT := [.cl .sh (.int .i64), .cl .sh (.int .i64), .cl .sh (.int .i64)]
noncomputable def impl_within.FS : FS := mkFS [.sh, .sh, .sh] impl_within.pts (fun x => impl_within x.1 x.2.1 x.2.2.1) impl_within.out
theorem impl_within.ok : FsOk Go.Proofs.Try.prog 95 impl_within.FS :=
  fs_ok (fn := Go.Proofs.Try.f95) tbok (by kernel_rfl) (body_some (by kernel_rfl)) (by kernel_rfl) (pts := impl_within.pts) (ev_sound (nt := 15) (np := 3) (hn := impl_within.hn) (G := impl_within.G) (L := impl_within.L) tbok impl_within.Gok hmix _ (.no) (hok_of (l := []) (by kernel_rfl) trivial)) rfl rfl
    fun x => impl_within.eq x.1 x.2.1 x.2.2.1
/-! loop.example/g00295/impl.callFault: 77 -/
noncomputable def impl_callFault (c : Call_) : Option (Int) :=
  (impl_within c.1 1 11).bind fun r => cond (!r) (some 1) ((some (cond (!(cond (c.1 == 8) true (c.1 == 9))) (!(c.2.2.1 == ([] : List UInt8))) false)).bind fun v => cond v (some 1) ((some (cond (!(cond (c.1 == 3) true (c.1 == 4))) (c.2.2.2.1 != 0) false)).bind fun v2 => cond v2 (some 1) ((some (cond (!(cond (c.1 == 4) true (c.1 == 5))) (c.2.2.2.2.1 != 0) false)).bind fun v3 => cond v3 (some 1) ((some (cond (c.1 != 3) (decide ((c.2.2.2.2.2.1.length : Int) > 0)) false)).bind fun v4 => cond v4 (some 1) (cond (decide ((c.2.2.2.2.2.1.length : Int) > 40)) (some 2) (some 0))))))
noncomputable def impl_callFault.G : Gam := mkG [(95, impl_within.FS)]
theorem impl_callFault.Gok : GOk Go.Proofs.Try.prog impl_callFault.G := GOk.cons (impl_within.ok) (GOk.nil)
def impl_callFault.hn : Hint := ⟨[1], [], [], 0⟩
noncomputable def impl_callFault.L : Lam := mkL []
def impl_callFault.out (t : Int) : Out := ⟨[.cl .sh (.int .i64) t], []⟩
theorem impl_callFault.eq (c : Call_) : ev tb impl_callFault.hn 65 1 impl_callFault.G impl_callFault.L (bodyOf Go.Proofs.Try.f77) (.no) (initSt [.cl .sh tCall_ c]) (kfin tb impl_callFault.hn Go.Proofs.Try.f77 [.sh]) =
    (impl_callFault c).map impl_callFault.out := by
  simp only [impl_callFault, cond_map, bind_map, sel_map, Option.map_some, Option.map_none]
  kernel_rfl
def impl_callFault.pts : List PT := [.cl .sh tCall_]
noncomputable def impl_callFault.FS : FS := mkFS [.sh] impl_callFault.pts (fun x => impl_callFault x.1) impl_callFault.out
theorem impl_callFault.ok : FsOk Go.Proofs.Try.prog 77 impl_callFault.FS :=
  fs_ok (fn := Go.Proofs.Try.f77) tbok (by kernel_rfl) (body_some (by kernel_rfl)) (by kernel_rfl) (pts := impl_callFault.pts) (ev_sound (nt := 65) (np := 1) (hn := impl_callFault.hn) (G := impl_callFault.G) (L := impl_callFault.L) tbok impl_callFault.Gok hmix _ (.no) (hok_of (l := []) (by kernel_rfl) trivial)) rfl rfl
    fun x => impl_callFault.eq x.1
/-! loop.example/g00295/impl.CallFault: 17 -/
noncomputable def impl_CallFault (c : Call_) : Option (Int) :=
  (impl_callFault c).bind fun r => some r
noncomputable def impl_CallFault.G : Gam := mkG [(77, impl_callFault.FS)]
theorem impl_CallFault.Gok : GOk Go.Proofs.Try.prog impl_CallFault.G := GOk.cons (impl_callFault.ok) (GOk.nil)
def impl_CallFault.hn : Hint := ⟨[1], [], [], 0⟩
noncomputable def impl_CallFault.L : Lam := mkL []
def impl_CallFault.out (t : Int) : Out := ⟨[.cl .sh (.int .i64) t], []⟩
theorem impl_CallFault.eq (c : Call_) : ev tb impl_CallFault.hn 5 1 impl_CallFault.G impl_CallFault.L (bodyOf Go.Proofs.Try.f17) (.no) (initSt [.cl .sh tCall_ c]) (kfin tb impl_CallFault.hn Go.Proofs.Try.f17 [.sh]) =
    (impl_CallFault c).map impl_CallFault.out := by
  simp only [impl_CallFault, cond_map, bind_map, sel_map, Option.map_some, Option.map_none]
  kernel_rfl
def impl_CallFault.pts : List PT := [.cl .sh tCall_]
noncomputable def impl_CallFault.FS : FS := mkFS [.sh] impl_CallFault.pts (fun x => impl_CallFault x.1) impl_CallFault.out
theorem impl_CallFault.ok : FsOk Go.Proofs.Try.prog 17 impl_CallFault.FS :=
  fs_ok (fn := Go.Proofs.Try.f17) tbok (by kernel_rfl) (body_some (by kernel_rfl)) (by kernel_rfl) (pts := impl_CallFault.pts) (ev_sound (nt := 5) (np := 1) (hn := impl_CallFault.hn) (G := impl_CallFault.G) (L := impl_CallFault.L) tbok impl_CallFault.Gok hmix _ (.no) (hok_of (l := []) (by kernel_rfl) trivial)) rfl rfl
    fun x => impl_CallFault.eq x.1
/-! loop.example/g00295/laws.eqByteS: 78 -/
noncomputable def laws_eqByteS_l0.B (a : List Int) (b : List Int) (i_ : Int) : Option ((Int) ⊕ (((Bool) ⊕ (Unit)))) :=
  cond (decide (i_ < (a.length : Int))) (cond (inB i_ a.length) (cond (inB i_ b.length) (cond ((a.getD i_.toNat 0) != (b.getD i_.toNat 0)) (some (.inr (.inl false))) (some (.inl (w64 (i_ + 1))))) (none)) (none)) (some (.inr (.inr ())))
noncomputable def laws_eqByteS_l0 (a : List Int) (b : List Int) : (Int) → Option (((Bool) ⊕ (Unit))) :=
  loopL fun s => laws_eqByteS_l0.B a b s
noncomputable def laws_eqByteS (a : List Int) (b : List Int) : Option (Bool) :=
  cond ((a.length : Int) != (b.length : Int)) (some false) ((laws_eqByteS_l0 a b 0).bind fun o => sel o (fun b2 => some b2) (fun c => some true))
noncomputable def laws_eqByteS.G : Gam := mkG []
theorem laws_eqByteS.Gok : GOk Go.Proofs.Try.prog laws_eqByteS.G := GOk.nil
def laws_eqByteS.hn : Hint := ⟨[], [], [], 0⟩
noncomputable def laws_eqByteS_l0.wit (a : List Int) (b : List Int) (o : ((Bool) ⊕ (Unit))) : Ex × St := sel o (fun b => (.rt, ⟨[(4, .cl .sh .bool b)], []⟩)) (fun c => (.ex 0, ⟨[], []⟩))
theorem laws_eqByteS_l0.eq (a : List Int) (b : List Int) (i_ : Int) : ev tb laws_eqByteS.hn 26 2 laws_eqByteS.G (mkL []) (codeAt (bodyOf Go.Proofs.Try.f78) [1, 1, 0, 1, 0, 0]) (.no) ⟨[(0, .cl .sh (.sl (.int .u8)) a), (1, .cl .sh (.sl (.int .u8)) b), (5, .cl .sh (.int .i64) i_)], []⟩ (kLp (([0, 1, 5], [])) [(0, ([], []))] ([4], [])) =
    (laws_eqByteS_l0.B a b i_).map (fun o => sel o (fun s => .inl ⟨[(0, .cl .sh (.sl (.int .u8)) a), (1, .cl .sh (.sl (.int .u8)) b), (5, .cl .sh (.int .i64) s)], []⟩) (fun o => .inr (laws_eqByteS_l0.wit a b o))) := by
  simp only [laws_eqByteS_l0.B, cond_map, bind_map, sel_map, Option.map_some, Option.map_none]
  kernel_rfl
def laws_eqByteS_l0.sp : SP := ⟨[(0, .cl .sh (.sl (.int .u8))), (1, .cl .sh (.sl (.int .u8))), (5, .cl .sh (.int .i64))], []⟩
noncomputable def laws_eqByteS_l0.out (a : List Int) (b : List Int) : FOut (((Bool) ⊕ (Unit))) := fun o _ k => sel o (fun b => k (.rt) ⟨[(4, .cl .sh .bool b)], []⟩) (fun c => k (.ex 0) ⟨[], []⟩)
theorem laws_eqByteS_l0.outEq (a : List Int) (b : List Int) (o : ((Bool) ⊕ (Unit))) (R : Type) (k : Ex → St → Option R) : laws_eqByteS_l0.out a b o R k = k (laws_eqByteS_l0.wit a b o).1 (laws_eqByteS_l0.wit a b o).2 := by
  rcases o with o | o <;> rfl
noncomputable def laws_eqByteS_l0.F (x : laws_eqByteS_l0.sp.El) (R : Type) (k : Ex → St → Option R) : Option R := (laws_eqByteS_l0 x.1.1 x.1.2.1 x.1.2.2.1).bind fun t => laws_eqByteS_l0.out x.1.1 x.1.2.1 t R k
noncomputable def laws_eqByteS_l0.fr : St → ∀ R : Type, (Ex → St → Option R) → Option R := mkFrag laws_eqByteS_l0.sp laws_eqByteS_l0.F
theorem laws_eqByteS_l0.ok : CodeOk Go.Proofs.Try.prog 26 2 (.loop (codeAt (bodyOf Go.Proofs.Try.f78) [1, 1, 0, 1, 0, 0])) laws_eqByteS_l0.fr :=
  loop_sound (sp := laws_eqByteS_l0.sp) rfl (F := laws_eqByteS_l0.F) (ev_sound (hn := laws_eqByteS.hn) (G := laws_eqByteS.G) (L := mkL []) tbok laws_eqByteS.Gok hmix _ (.no) (hok_of (l := []) (by kernel_rfl) trivial)) 
    fun x => ⟨_, _, fun s => laws_eqByteS_l0.B x.1.1 x.1.2.1 s, fun s => ⟨[(0, .cl .sh (.sl (.int .u8)) x.1.1), (1, .cl .sh (.sl (.int .u8)) x.1.2.1), (5, .cl .sh (.int .i64) s)], []⟩, laws_eqByteS_l0.wit x.1.1 x.1.2.1, x.1.2.2.1, rfl, fun s => laws_eqByteS_l0.eq x.1.1 x.1.2.1 s, fun R k => congrArg (fun g => (laws_eqByteS_l0 x.1.1 x.1.2.1 x.1.2.2.1).bind g) (funext fun t => laws_eqByteS_l0.outEq x.1.1 x.1.2.1 t R k)⟩
noncomputable def laws_eqByteS.L : Lam := mkL [(0, laws_eqByteS_l0.fr)]
def laws_eqByteS.out (t : Bool) : Out := ⟨[.cl .sh .bool t], []⟩
theorem laws_eqByteS.eq (a : List Int) (b : List Int) : ev tb laws_eqByteS.hn 26 2 laws_eqByteS.G laws_eqByteS.L (bodyOf Go.Proofs.Try.f78) (.two (.no) (.two (.no) (.two (.two (.no) (.one (.fr 0))) (.no)))) (initSt [.cl .sh (.sl (.int .u8)) a, .cl .sh (.sl (.int .u8)) b]) (kfin tb laws_eqByteS.hn Go.Proofs.Try.f78 [.sh, .sh]) =
    (laws_eqByteS a b).map laws_eqByteS.out := by
  simp only [laws_eqByteS, cond_map, bind_map, sel_map, Option.map_some, Option.map_none]
  kernel_rfl
def laws_eqByteS.pts : List PT := [.cl .sh (.sl (.int .u8)), .cl .sh (.sl (.int .u8))]
noncomputable def laws_eqByteS.FS : FS := mkFS [.sh, .sh] laws_eqByteS.pts (fun x => laws_eqByteS x.1 x.2.1) laws_eqByteS.out
theorem laws_eqByteS.ok : FsOk Go.Proofs.Try.prog 78 laws_eqByteS.FS :=
  fs_ok (fn := Go.Proofs.Try.f78) tbok (by kernel_rfl) (body_some (by kernel_rfl)) (by kernel_rfl) (pts := laws_eqByteS.pts) (ev_sound (nt := 26) (np := 2) (hn := laws_eqByteS.hn) (G := laws_eqByteS.G) (L := laws_eqByteS.L) tbok laws_eqByteS.Gok hmix _ (.two (.no) (.two (.no) (.two (.two (.no) (.one (.fr 0))) (.no)))) (hok_of (l := [(0, .loop (codeAt (bodyOf Go.Proofs.Try.f78) [1, 1, 0, 1, 0, 0]))]) (by kernel_rfl) ⟨Lam.cons laws_eqByteS_l0.ok, trivial⟩)) rfl rfl
    fun x => laws_eqByteS.eq x.1 x.2.1
/-! loop.example/g00295/laws.eqCall: 18 -/
noncomputable def laws_eqCall (a : Call_) (b : Call_) : Option (Bool) :=
  cond (a.1 != b.1) (some false) (cond (!(a.2.1 == b.2.1)) (some false) (cond (!(a.2.2.1 == b.2.2.1)) (some false) (cond (a.2.2.2.1 != b.2.2.2.1) (some false) (cond (a.2.2.2.2.1 != b.2.2.2.2.1) (some false) ((laws_eqByteS a.2.2.2.2.2.1 b.2.2.2.2.2.1).bind fun r => cond (!r) (some false) (some true))))))
noncomputable def laws_eqCall.G : Gam := mkG [(78, laws_eqByteS.FS)]
theorem laws_eqCall.Gok : GOk Go.Proofs.Try.prog laws_eqCall.G := GOk.cons (laws_eqByteS.ok) (GOk.nil)
def laws_eqCall.hn : Hint := ⟨[2, 3], [], [], 0⟩
noncomputable def laws_eqCall.L : Lam := mkL []
def laws_eqCall.out (t : Bool) : Out := ⟨[.cl .sh .bool t], []⟩
theorem laws_eqCall.eq (a : Call_) (b : Call_) : ev tb laws_eqCall.hn 36 2 laws_eqCall.G laws_eqCall.L (bodyOf Go.Proofs.Try.f18) (.no) (initSt [.cl .sh tCall_ a, .cl .sh tCall_ b]) (kfin tb laws_eqCall.hn Go.Proofs.Try.f18 [.sh, .sh]) =
    (laws_eqCall a b).map laws_eqCall.out := by
  simp only [laws_eqCall, cond_map, bind_map, sel_map, Option.map_some, Option.map_none]
  kernel_rfl
def laws_eqCall.pts : List PT := [.cl .sh tCall_, .cl .sh tCall_]
noncomputable def laws_eqCall.FS : FS := mkFS [.sh, .sh] laws_eqCall.pts (fun x => laws_eqCall x.1 x.2.1) laws_eqCall.out
theorem laws_eqCall.ok : FsOk Go.Proofs.Try.prog 18 laws_eqCall.FS :=
  fs_ok (fn := Go.Proofs.Try.f18) tbok (by kernel_rfl) (body_some (by kernel_rfl)) (by kernel_rfl) (pts := laws_eqCall.pts) (ev_sound (nt := 36) (np := 2) (hn := laws_eqCall.hn) (G := laws_eqCall.G) (L := laws_eqCall.L) tbok laws_eqCall.Gok hmix _ (.no) (hok_of (l := []) (by kernel_rfl) trivial)) rfl rfl
    fun x => laws_eqCall.eq x.1 x.2.1
/-! loop.example/g00295/laws.FnExactCallFault: 3 -/
noncomputable def laws_FnExactCallFault (aC : Call_) : Option (Bool) :=
  (laws_szCall aC 1048576).bind fun r => cond (decide (r < 0)) (some true) ((laws_toCall aC).bind fun r2 => (spec_CallFault (r2.1, r2.2.1, r2.2.2.1, r2.2.2.2.1, r2.2.2.2.2.1, r2.2.2.2.2.2.1, r2.2.2.2.2.2.2)).bind fun r3 => (laws_toCall aC).bind fun r4 => (impl_CallFault (r4.1, r4.2.1, r4.2.2.1, r4.2.2.2.1, r4.2.2.2.2.1, r4.2.2.2.2.2.1, r4.2.2.2.2.2.2)).bind fun r5 => cond (r5 != r3) (some false) ((laws_toCall aC).bind fun r6 => (laws_eqCall (r4.1, r4.2.1, r4.2.2.1, r4.2.2.2.1, r4.2.2.2.2.1, r4.2.2.2.2.2.1, r4.2.2.2.2.2.2) (r6.1, r6.2.1, r6.2.2.1, r6.2.2.2.1, r6.2.2.2.2.1, r6.2.2.2.2.2.1, r6.2.2.2.2.2.2)).bind fun r7 => cond (!r7) (some false) (some true)))
noncomputable def laws_FnExactCallFault.G : Gam := mkG [(14, laws_szCall.FS), (16, laws_toCall.FS), (15, spec_CallFault.FS), (17, impl_CallFault.FS), (18, laws_eqCall.FS)]
theorem laws_FnExactCallFault.Gok : GOk Go.Proofs.Try.prog laws_FnExactCallFault.G := GOk.cons (laws_szCall.ok) (GOk.cons (laws_toCall.ok) (GOk.cons (spec_CallFault.ok) (GOk.cons (impl_CallFault.ok) (GOk.cons (laws_eqCall.ok) (GOk.nil)))))
def laws_FnExactCallFault.hn : Hint := ⟨[1], [], [], 0⟩
noncomputable def laws_FnExactCallFault.L : Lam := mkL []
def laws_FnExactCallFault.out (t : Bool) : Out := ⟨[.cl .sh .bool t], []⟩
theorem laws_FnExactCallFault.eq (aC : Call_) : ev tb laws_FnExactCallFault.hn 27 1 laws_FnExactCallFault.G laws_FnExactCallFault.L (bodyOf Go.Proofs.Try.f3) (.no) (initSt [.cl .sh tCall_ aC]) (kfin tb laws_FnExactCallFault.hn Go.Proofs.Try.f3 [.sh]) =
    (laws_FnExactCallFault aC).map laws_FnExactCallFault.out := by
  simp only [laws_FnExactCallFault, cond_map, bind_map, sel_map, Option.map_some, Option.map_none]
  kernel_rfl
def laws_FnExactCallFault.pts : List PT := [.cl .sh tCall_]
noncomputable def laws_FnExactCallFault.FS : FS := mkFS [.sh] laws_FnExactCallFault.pts (fun x => laws_FnExactCallFault x.1) laws_FnExactCallFault.out
theorem laws_FnExactCallFault.ok : FsOk Go.Proofs.Try.prog 3 laws_FnExactCallFault.FS :=
  fs_ok (fn := Go.Proofs.Try.f3) tbok (by kernel_rfl) (body_some (by kernel_rfl)) (by kernel_rfl) (pts := laws_FnExactCallFault.pts) (ev_sound (nt := 27) (np := 1) (hn := laws_FnExactCallFault.hn) (G := laws_FnExactCallFault.G) (L := laws_FnExactCallFault.L) tbok laws_FnExactCallFault.Gok hmix _ (.no) (hok_of (l := []) (by kernel_rfl) trivial)) rfl rfl
    fun x => laws_FnExactCallFault.eq x.1
end Mf
