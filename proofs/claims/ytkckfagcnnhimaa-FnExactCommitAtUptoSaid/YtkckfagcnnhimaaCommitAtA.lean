/- The functions that FnExactCommitAt reaches: what each computes, and that it does. -/
import Derived.Test.YtkckfagcnnhimaaMf6
import Derived.Test.YtkckfagcnnhimaaProg
import Derived.KernelRfl
namespace Mf
open Go
set_option linter.unusedVariables false
set_option linter.unusedSimpArgs false
set_option maxRecDepth 100000
abbrev tPut_ : Ty := (.pair (.int .i64) (.pair (.sl (.int .i64)) .unit))
abbrev Put_ : Type := Int × (List Int) × Unit
def zPut_ : Put_ := (0, [], ())
abbrev tDisk_ : Ty := (.pair (.sl (.sl (.int .i64))) (.pair (.sl tPut_) .unit))
abbrev Disk_ : Type := (List (List Int)) × (List Put_) × Unit
def zDisk_ : Disk_ := ([], [], ())
abbrev tStep_ : Ty := (.pair .bool tPut_)
abbrev Step_ : Type := Bool × Put_
def zStep_ : Step_ := (false, 0, [], ())
abbrev tEntry_ : Ty := (.pair .str (.pair (.int .i64) .unit))
abbrev Entry_ : Type := (List UInt8) × Int × Unit
def zEntry_ : Entry_ := ([], 0, ())
abbrev tInode_ : Ty := (.pair (.int .i64) (.pair (.int .i64) (.pair (.int .i64) (.pair (.sl (.int .i64)) (.pair (.sl tEntry_) .unit)))))
abbrev Inode_ : Type := Int × Int × Int × (List Int) × (List Entry_) × Unit
def zInode_ : Inode_ := (0, 0, 0, [], [], ())
abbrev tFs_ : Ty := (.pair (.sl tInode_) (.pair (.sl (.sl (.int .u8))) .unit))
abbrev Fs_ : Type := (List Inode_) × (List (List Int)) × Unit
def zFs_ : Fs_ := ([], [], ())
abbrev tWorld_ : Ty := (.pair tDisk_ (.pair tFs_ (.pair tFs_ .unit)))
abbrev World_ : Type := Disk_ × Fs_ × Fs_ × Unit
def zWorld_ : World_ := (([], [], ()), ([], [], ()), ([], [], ()), ())
abbrev tCall_ : Ty := (.pair (.int .i64) (.pair .str (.pair .str (.pair (.int .i64) (.pair (.int .i64) (.pair (.sl (.int .u8)) .unit))))))
abbrev Call_ : Type := Int × (List UInt8) × (List UInt8) × Int × Int × (List Int) × Unit
def zCall_ : Call_ := (0, [], [], 0, 0, [], ())
abbrev tCallResult_ : Ty := (.pair (.int .i64) (.pair (.int .i64) (.pair (.int .i64) (.pair (.sl (.int .u8)) (.pair (.sl .str) (.pair tFs_ .unit))))))
abbrev CallResult_ : Type := Int × Int × Int × (List Int) × (List (List UInt8)) × Fs_ × Unit
def zCallResult_ : CallResult_ := (0, 0, 0, [], [], ([], [], ()), ())
abbrev tDiskResult_ : Ty := (.pair (.int .i64) (.pair tDisk_ .unit))
abbrev DiskResult_ : Type := Int × Disk_ × Unit
def zDiskResult_ : DiskResult_ := (0, ([], [], ()), ())
abbrev tIntResult_ : Ty := (.pair (.int .i64) (.pair (.int .i64) .unit))
abbrev IntResult_ : Type := Int × Int × Unit
def zIntResult_ : IntResult_ := (0, 0, ())
abbrev tPutsResult_ : Ty := (.pair (.int .i64) (.pair (.sl tPut_) .unit))
abbrev PutsResult_ : Type := Int × (List Put_) × Unit
def zPutsResult_ : PutsResult_ := (0, [], ())
abbrev tStepsResult_ : Ty := (.pair (.int .i64) (.pair (.sl tStep_) .unit))
abbrev StepsResult_ : Type := Int × (List Step_) × Unit
def zStepsResult_ : StepsResult_ := (0, [], ())
abbrev tTxResult_ : Ty := (.pair (.int .i64) (.pair .bool (.pair (.sl tPut_) .unit)))
abbrev TxResult_ : Type := Int × Bool × (List Put_) × Unit
def zTxResult_ : TxResult_ := (0, false, [], ())
abbrev tWorldResult_ : Ty := (.pair (.int .i64) (.pair tCallResult_ (.pair tWorld_ .unit)))
abbrev WorldResult_ : Type := Int × CallResult_ × World_ × Unit
def zWorldResult_ : WorldResult_ := (0, (0, 0, 0, [], [], ([], [], ()), ()), (([], [], ()), ([], [], ()), ([], [], ()), ()), ())
abbrev tBoundsError_ : Ty := (.pair (.int .i64) (.pair (.int .i64) (.pair .bool (.pair (.int .u8) .unit))))
abbrev BoundsError_ : Type := Int × Int × Bool × Int × Unit
def zBoundsError_ : BoundsError_ := (0, 0, false, 0, ())
abbrev tErrorAddressString_ : Ty := (.pair .str (.pair (.int .u64) .unit))
abbrev ErrorAddressString_ : Type := (List UInt8) × Int × Unit
def zErrorAddressString_ : ErrorAddressString_ := ([], 0, ())
def tb : Tb := [(2, ⟨.int .i64, (.int .i64), 8⟩), (3, ⟨.int .i64, (.int .i64), 8⟩), (4, ⟨.bool, .bool, 1⟩), (5, ⟨.int .u8, (.int .u8), 1⟩), (6, ⟨.int .u8, (.int .u8), 1⟩), (7, ⟨.st [0, 1, 2, 3], tBoundsError_, 24⟩), (8, ⟨.st [0, 1, 2, 3], tBoundsError_, 24⟩), (9, ⟨.str, .str, 16⟩), (10, ⟨.str, .str, 16⟩), (11, ⟨.str, .str, 16⟩), (12, ⟨.int .u64, (.int .u64), 8⟩), (13, ⟨.st [0, 1], tErrorAddressString_, 24⟩), (14, ⟨.st [0, 1], tErrorAddressString_, 24⟩), (21, ⟨.int .i32, (.int .i32), 4⟩), (22, ⟨.sl 5, (.sl (.int .u8)), 24⟩), (23, ⟨.st [0, 1, 2, 3, 4, 5], tCall_, 80⟩), (24, ⟨.st [0, 1, 2, 3, 4, 5], tCall_, 80⟩), (27, ⟨.st [0, 1, 2, 3, 4, 5], tCall_, 80⟩), (31, ⟨.sl 2, (.sl (.int .i64)), 24⟩), (32, ⟨.st [0, 1, 2], tStep_, 40⟩), (33, ⟨.st [0, 1, 2], tStep_, 40⟩), (36, ⟨.st [0, 1, 2], tStep_, 40⟩), (40, ⟨.sl 31, (.sl (.sl (.int .i64))), 24⟩), (41, ⟨.sl 141, (.sl tPut_), 24⟩), (42, ⟨.st [0, 1], tDisk_, 48⟩), (43, ⟨.st [0, 1], tDisk_, 48⟩), (44, ⟨.st [0, 1], tDiskResult_, 56⟩), (45, ⟨.st [0, 1], tDiskResult_, 56⟩), (50, ⟨.sl 33, (.sl tStep_), 24⟩), (52, ⟨.st [0, 1], tIntResult_, 16⟩), (53, ⟨.st [0, 1], tIntResult_, 16⟩), (55, ⟨.sl 36, (.sl tStep_), 24⟩), (60, ⟨.sl 139, (.sl tPut_), 24⟩), (61, ⟨.st [0, 1], tDisk_, 48⟩), (62, ⟨.st [0, 1], tDisk_, 48⟩), (69, ⟨.st [0, 1], tPutsResult_, 32⟩), (70, ⟨.st [0, 1], tPutsResult_, 32⟩), (79, ⟨.st [0, 1, 2], tTxResult_, 40⟩), (80, ⟨.st [0, 1, 2], tTxResult_, 40⟩), (84, ⟨.st [0, 1], tStepsResult_, 32⟩), (85, ⟨.st [0, 1], tStepsResult_, 32⟩), (92, ⟨.sl 9, (.sl .str), 24⟩), (93, ⟨.sl 125, (.sl tInode_), 24⟩), (94, ⟨.sl 22, (.sl (.sl (.int .u8))), 24⟩), (95, ⟨.st [0, 1], tFs_, 48⟩), (96, ⟨.st [0, 1], tFs_, 48⟩), (97, ⟨.st [0, 1, 2, 3, 4, 5], tCallResult_, 120⟩), (98, ⟨.st [0, 1, 2, 3, 4, 5], tCallResult_, 120⟩), (99, ⟨.st [0, 2, 4], tWorld_, 144⟩), (100, ⟨.st [0, 2, 4], tWorld_, 144⟩), (101, ⟨.st [0, 1, 8], tWorldResult_, 272⟩), (102, ⟨.st [0, 1, 8], tWorldResult_, 272⟩), (106, ⟨.sl 4, (.sl .bool), 24⟩), (123, ⟨.sl 167, (.sl tEntry_), 24⟩), (124, ⟨.st [0, 1, 2, 3, 4], tInode_, 72⟩), (125, ⟨.st [0, 1, 2, 3, 4], tInode_, 72⟩), (138, ⟨.st [0, 1], tPut_, 32⟩), (139, ⟨.st [0, 1], tPut_, 32⟩), (141, ⟨.st [0, 1], tPut_, 32⟩), (166, ⟨.st [0, 1], tEntry_, 24⟩), (167, ⟨.st [0, 1], tEntry_, 24⟩), (202, ⟨.int .u32, (.int .u32), 4⟩), (203, ⟨.int .u8, (.int .u8), 1⟩), (204, ⟨.int .u8, (.int .u8), 1⟩), (207, ⟨.int .i32, (.int .i32), 4⟩), (208, ⟨.int .i32, (.int .i32), 4⟩)]
theorem tbok : TbOk Go.Proofs.Try.prog tb := tbB_ok (by kernel_rfl)
theorem hmix : Go.Proofs.Try.prog.follows .mixedOrders = true := by kernel_rfl
noncomputable def laws_szInt64S (a : List Int) (left : Int) : Option (Int) :=
  cond (decide ((w64 (left - (a.length : Int))) < 0)) (some (-1)) (some (w64 (left - (a.length : Int))))
noncomputable def laws_szInt64S.G : Gam := mkG []
theorem laws_szInt64S.Gok : GOk Go.Proofs.Try.prog laws_szInt64S.G := GOk.nil
def laws_szInt64S.hn : Hint := ⟨[], [], [], 0⟩
noncomputable def laws_szInt64S.L : Lam := mkL []
def laws_szInt64S.out (t : Int) : Out := ⟨[.cl .sh (.int .i64) t], []⟩
theorem laws_szInt64S.eq (a : List Int) (left : Int) : ev tb laws_szInt64S.hn 12 2 laws_szInt64S.G laws_szInt64S.L (bodyOf Go.Proofs.Try.f79) (.no) (initSt [.cl .sh (.sl (.int .i64)) a, .cl .sh (.int .i64) left]) (kfin tb laws_szInt64S.hn Go.Proofs.Try.f79 [.sh, .sh]) =
    (laws_szInt64S a left).map laws_szInt64S.out := by
  simp only [laws_szInt64S, cond_map, bind_map, sel_map, Option.map_some, Option.map_none]
  kernel_rfl
def laws_szInt64S.pts : List PT := [.cl .sh (.sl (.int .i64)), .cl .sh (.int .i64)]
noncomputable def laws_szInt64S.FS : FS := mkFS [.sh, .sh] laws_szInt64S.pts (fun x => laws_szInt64S x.1 x.2.1) laws_szInt64S.out
theorem laws_szInt64S.ok : FsOk Go.Proofs.Try.prog 79 laws_szInt64S.FS :=
  fs_ok (fn := Go.Proofs.Try.f79) tbok (by kernel_rfl) (body_some (by kernel_rfl)) (by kernel_rfl) (pts := laws_szInt64S.pts) (ev_sound (nt := 12) (np := 2) (hn := laws_szInt64S.hn) (G := laws_szInt64S.G) (L := laws_szInt64S.L) tbok laws_szInt64S.Gok hmix _ (.no) (hok_of (l := []) (by kernel_rfl) trivial)) rfl rfl
    fun x => laws_szInt64S.eq x.1 x.2.1
noncomputable def laws_szStep (a : Step_) (left : Int) : Option (Int) :=
  (laws_szInt64S a.2.2.1 left).bind fun r => cond (decide (r < 0)) (some (-1)) (some r)
noncomputable def laws_szStep.G : Gam := mkG [(79, laws_szInt64S.FS)]
theorem laws_szStep.Gok : GOk Go.Proofs.Try.prog laws_szStep.G := GOk.cons (laws_szInt64S.ok) (GOk.nil)
def laws_szStep.hn : Hint := ⟨[2], [], [], 0⟩
noncomputable def laws_szStep.L : Lam := mkL []
def laws_szStep.out (t : Int) : Out := ⟨[.cl .sh (.int .i64) t], []⟩
theorem laws_szStep.eq (a : Step_) (left : Int) : ev tb laws_szStep.hn 12 2 laws_szStep.G laws_szStep.L (bodyOf Go.Proofs.Try.f19) (.no) (initSt [.cl .sh tStep_ a, .cl .sh (.int .i64) left]) (kfin tb laws_szStep.hn Go.Proofs.Try.f19 [.sh, .sh]) =
    (laws_szStep a left).map laws_szStep.out := by
  simp only [laws_szStep, cond_map, bind_map, sel_map, Option.map_some, Option.map_none]
  kernel_rfl
def laws_szStep.pts : List PT := [.cl .sh tStep_, .cl .sh (.int .i64)]
noncomputable def laws_szStep.FS : FS := mkFS [.sh, .sh] laws_szStep.pts (fun x => laws_szStep x.1 x.2.1) laws_szStep.out
theorem laws_szStep.ok : FsOk Go.Proofs.Try.prog 19 laws_szStep.FS :=
  fs_ok (fn := Go.Proofs.Try.f19) tbok (by kernel_rfl) (body_some (by kernel_rfl)) (by kernel_rfl) (pts := laws_szStep.pts) (ev_sound (nt := 12) (np := 2) (hn := laws_szStep.hn) (G := laws_szStep.G) (L := laws_szStep.L) tbok laws_szStep.Gok hmix _ (.no) (hok_of (l := []) (by kernel_rfl) trivial)) rfl rfl
    fun x => laws_szStep.eq x.1 x.2.1
noncomputable def laws_szStepS_l0.B (a : List Step_) (left_ : Int) (i_ : Int) : Option ((Int × Int) ⊕ (((Int) ⊕ (Int)))) :=
  cond (decide (i_ < (a.length : Int))) (cond (inB i_ a.length) ((laws_szStep (a.getD i_.toNat zStep_) left_).bind fun r => cond (decide (r < 0)) (some (.inr (.inl (-1)))) (some (.inl (r, w64 (i_ + 1))))) (none)) (some (.inr (.inr left_)))
noncomputable def laws_szStepS_l0 (a : List Step_) : (Int × Int) → Option (((Int) ⊕ (Int))) :=
  loopL fun s => laws_szStepS_l0.B a s.1 s.2
noncomputable def laws_szStepS (a : List Step_) (left : Int) : Option (Int) :=
  cond (decide ((w64 (left - (a.length : Int))) < 0)) (some (-1)) ((laws_szStepS_l0 a (w64 (left - (a.length : Int)), 0)).bind fun o => sel o (fun b => some b) (fun c => some c))
noncomputable def laws_szStepS.G : Gam := mkG [(19, laws_szStep.FS)]
theorem laws_szStepS.Gok : GOk Go.Proofs.Try.prog laws_szStepS.G := GOk.cons (laws_szStep.ok) (GOk.nil)
def laws_szStepS.hn : Hint := ⟨[], [], [], 0⟩
noncomputable def laws_szStepS_l0.wit (a : List Step_) (o : ((Int) ⊕ (Int))) : Ex × St := sel o (fun b => (.rt, ⟨[(4, .cl .sh (.int .i64) b)], []⟩)) (fun c => (.ex 0, ⟨[(1, .cl .sh (.int .i64) c)], []⟩))
theorem laws_szStepS_l0.eq (a : List Step_) (left_ : Int) (i_ : Int) : ev tb laws_szStepS.hn 27 2 laws_szStepS.G (mkL []) (codeAt (bodyOf Go.Proofs.Try.f29) [1, 1, 1, 0, 1, 0, 0]) (.no) ⟨[(0, .cl .sh (.sl tStep_) a), (1, .cl .sh (.int .i64) left_), (5, .cl .sh (.int .i64) i_)], []⟩ (kLp (([0, 1, 5], [])) [(0, ([1], []))] ([4], [])) =
    (laws_szStepS_l0.B a left_ i_).map (fun o => sel o (fun s => .inl ⟨[(0, .cl .sh (.sl tStep_) a), (1, .cl .sh (.int .i64) s.1), (5, .cl .sh (.int .i64) s.2)], []⟩) (fun o => .inr (laws_szStepS_l0.wit a o))) := by
  simp only [laws_szStepS_l0.B, cond_map, bind_map, sel_map, Option.map_some, Option.map_none]
  kernel_rfl
def laws_szStepS_l0.sp : SP := ⟨[(0, .cl .sh (.sl tStep_)), (1, .cl .sh (.int .i64)), (5, .cl .sh (.int .i64))], []⟩
noncomputable def laws_szStepS_l0.out (a : List Step_) : FOut (((Int) ⊕ (Int))) := fun o _ k => sel o (fun b => k (.rt) ⟨[(4, .cl .sh (.int .i64) b)], []⟩) (fun c => k (.ex 0) ⟨[(1, .cl .sh (.int .i64) c)], []⟩)
theorem laws_szStepS_l0.outEq (a : List Step_) (o : ((Int) ⊕ (Int))) (R : Type) (k : Ex → St → Option R) : laws_szStepS_l0.out a o R k = k (laws_szStepS_l0.wit a o).1 (laws_szStepS_l0.wit a o).2 := by
  rcases o with o | o <;> rfl
noncomputable def laws_szStepS_l0.F (x : laws_szStepS_l0.sp.El) (R : Type) (k : Ex → St → Option R) : Option R := (laws_szStepS_l0 x.1.1 (x.1.2.1, x.1.2.2.1)).bind fun t => laws_szStepS_l0.out x.1.1 t R k
noncomputable def laws_szStepS_l0.fr : St → ∀ R : Type, (Ex → St → Option R) → Option R := mkFrag laws_szStepS_l0.sp laws_szStepS_l0.F
theorem laws_szStepS_l0.ok : CodeOk Go.Proofs.Try.prog 27 2 (.loop (codeAt (bodyOf Go.Proofs.Try.f29) [1, 1, 1, 0, 1, 0, 0])) laws_szStepS_l0.fr :=
  loop_sound (sp := laws_szStepS_l0.sp) rfl (F := laws_szStepS_l0.F) (ev_sound (hn := laws_szStepS.hn) (G := laws_szStepS.G) (L := mkL []) tbok laws_szStepS.Gok hmix _ (.no) (hok_of (l := []) (by kernel_rfl) trivial)) 
    fun x => ⟨_, _, fun s => laws_szStepS_l0.B x.1.1 s.1 s.2, fun s => ⟨[(0, .cl .sh (.sl tStep_) x.1.1), (1, .cl .sh (.int .i64) s.1), (5, .cl .sh (.int .i64) s.2)], []⟩, laws_szStepS_l0.wit x.1.1, (x.1.2.1, x.1.2.2.1), rfl, fun s => laws_szStepS_l0.eq x.1.1 s.1 s.2, fun R k => congrArg (fun g => (laws_szStepS_l0 x.1.1 (x.1.2.1, x.1.2.2.1)).bind g) (funext fun t => laws_szStepS_l0.outEq x.1.1 t R k)⟩
noncomputable def laws_szStepS.L : Lam := mkL [(0, laws_szStepS_l0.fr)]
def laws_szStepS.out (t : Int) : Out := ⟨[.cl .sh (.int .i64) t], []⟩
theorem laws_szStepS.eq (a : List Step_) (left : Int) : ev tb laws_szStepS.hn 27 2 laws_szStepS.G laws_szStepS.L (bodyOf Go.Proofs.Try.f29) (.two (.no) (.two (.no) (.two (.no) (.two (.two (.no) (.one (.fr 0))) (.no))))) (initSt [.cl .sh (.sl tStep_) a, .cl .sh (.int .i64) left]) (kfin tb laws_szStepS.hn Go.Proofs.Try.f29 [.sh, .sh]) =
    (laws_szStepS a left).map laws_szStepS.out := by
  simp only [laws_szStepS, cond_map, bind_map, sel_map, Option.map_some, Option.map_none]
  kernel_rfl
def laws_szStepS.pts : List PT := [.cl .sh (.sl tStep_), .cl .sh (.int .i64)]
noncomputable def laws_szStepS.FS : FS := mkFS [.sh, .sh] laws_szStepS.pts (fun x => laws_szStepS x.1 x.2.1) laws_szStepS.out
theorem laws_szStepS.ok : FsOk Go.Proofs.Try.prog 29 laws_szStepS.FS :=
  fs_ok (fn := Go.Proofs.Try.f29) tbok (by kernel_rfl) (body_some (by kernel_rfl)) (by kernel_rfl) (pts := laws_szStepS.pts) (ev_sound (nt := 27) (np := 2) (hn := laws_szStepS.hn) (G := laws_szStepS.G) (L := laws_szStepS.L) tbok laws_szStepS.Gok hmix _ (.two (.no) (.two (.no) (.two (.no) (.two (.two (.no) (.one (.fr 0))) (.no))))) (hok_of (l := [(0, .loop (codeAt (bodyOf Go.Proofs.Try.f29) [1, 1, 1, 0, 1, 0, 0]))]) (by kernel_rfl) ⟨Lam.cons laws_szStepS_l0.ok, trivial⟩)) rfl rfl
    fun x => laws_szStepS.eq x.1 x.2.1
noncomputable def laws_toInt64S_l0.B (a : List Int) (i_ : Int) (out_ : List Int) : Option ((Int × List Int) ⊕ (List Int)) :=
  cond (decide (i_ < (a.length : Int))) (cond (inB i_ a.length) (cond (inB i_ out_.length) (some (.inl (w64 (i_ + 1), out_.set i_.toNat (a.getD i_.toNat 0)))) (none)) (none)) (some (.inr out_))
noncomputable def laws_toInt64S_l0 (a : List Int) : (Int × List Int) → Option (List Int) :=
  loopL fun s => laws_toInt64S_l0.B a s.1 s.2
noncomputable def laws_toInt64S (a : List Int) : Option (List Int) :=
  cond (decide ((0 : Int) ≤ (a.length : Int)) && (decide ((a.length : Int) ≤ (a.length : Int)) && decide ((a.length : Int) ≤ 2147483648))) ((laws_toInt64S_l0 a (0, List.replicate (a.length : Int).toNat 0)).bind fun o => some o) (none)
noncomputable def laws_toInt64S.G : Gam := mkG []
theorem laws_toInt64S.Gok : GOk Go.Proofs.Try.prog laws_toInt64S.G := GOk.nil
def laws_toInt64S.hn : Hint := ⟨[], [], [], 0⟩
noncomputable def laws_toInt64S_l0.wit (a : List Int) (b : List Int) : Ex × St := (.ex 0, ⟨[(3, .seg 3 [])], [(3, some ⟨.reg, .cl .deep (.sl (.int .i64)) b⟩)]⟩)
theorem laws_toInt64S_l0.eq (a : List Int) (i_ : Int) (out_ : List Int) : ev tb laws_toInt64S.hn 22 1 laws_toInt64S.G (mkL []) (codeAt (bodyOf Go.Proofs.Try.f81) [1, 1, 0, 1, 0, 0]) (.no) ⟨[(0, .cl .sh (.sl (.int .i64)) a), (3, .seg 3 []), (4, .cl .sh (.int .i64) i_)], [(3, some ⟨.reg, .cl .deep (.sl (.int .i64)) out_⟩)]⟩ (kLp (([0, 3, 4], [3])) [(0, ([3], [3]))] ([], [])) =
    (laws_toInt64S_l0.B a i_ out_).map (fun o => sel o (fun s => .inl ⟨[(0, .cl .sh (.sl (.int .i64)) a), (3, .seg 3 []), (4, .cl .sh (.int .i64) s.1)], [(3, some ⟨.reg, .cl .deep (.sl (.int .i64)) s.2⟩)]⟩) (fun b => .inr (laws_toInt64S_l0.wit a b))) := by
  simp only [laws_toInt64S_l0.B, cond_map, bind_map, sel_map, Option.map_some, Option.map_none]
  kernel_rfl
def laws_toInt64S_l0.sp : SP := ⟨[(0, .cl .sh (.sl (.int .i64))), (3, .seg 3 []), (4, .cl .sh (.int .i64))], [(3, .reg, .cl .deep (.sl (.int .i64)))]⟩
noncomputable def laws_toInt64S_l0.out (a : List Int) : FOut (List Int) := fun b _ k => k (.ex 0) ⟨[(3, .seg 3 [])], [(3, some ⟨.reg, .cl .deep (.sl (.int .i64)) b⟩)]⟩
theorem laws_toInt64S_l0.outEq (a : List Int) (o : List Int) (R : Type) (k : Ex → St → Option R) : laws_toInt64S_l0.out a o R k = k (laws_toInt64S_l0.wit a o).1 (laws_toInt64S_l0.wit a o).2 := by
  rfl
noncomputable def laws_toInt64S_l0.F (x : laws_toInt64S_l0.sp.El) (R : Type) (k : Ex → St → Option R) : Option R := (laws_toInt64S_l0 x.1.1 (x.1.2.2.1, x.2.1)).bind fun t => laws_toInt64S_l0.out x.1.1 t R k
noncomputable def laws_toInt64S_l0.fr : St → ∀ R : Type, (Ex → St → Option R) → Option R := mkFrag laws_toInt64S_l0.sp laws_toInt64S_l0.F
theorem laws_toInt64S_l0.ok : CodeOk Go.Proofs.Try.prog 22 1 (.loop (codeAt (bodyOf Go.Proofs.Try.f81) [1, 1, 0, 1, 0, 0])) laws_toInt64S_l0.fr :=
  loop_sound (sp := laws_toInt64S_l0.sp) rfl (F := laws_toInt64S_l0.F) (ev_sound (hn := laws_toInt64S.hn) (G := laws_toInt64S.G) (L := mkL []) tbok laws_toInt64S.Gok hmix _ (.no) (hok_of (l := []) (by kernel_rfl) trivial)) 
    fun x => ⟨_, _, fun s => laws_toInt64S_l0.B x.1.1 s.1 s.2, fun s => ⟨[(0, .cl .sh (.sl (.int .i64)) x.1.1), (3, .seg 3 []), (4, .cl .sh (.int .i64) s.1)], [(3, some ⟨.reg, .cl .deep (.sl (.int .i64)) s.2⟩)]⟩, laws_toInt64S_l0.wit x.1.1, (x.1.2.2.1, x.2.1), rfl, fun s => laws_toInt64S_l0.eq x.1.1 s.1 s.2, fun R k => congrArg (fun g => (laws_toInt64S_l0 x.1.1 (x.1.2.2.1, x.2.1)).bind g) (funext fun t => laws_toInt64S_l0.outEq x.1.1 t R k)⟩
noncomputable def laws_toInt64S.L : Lam := mkL [(0, laws_toInt64S_l0.fr)]
def laws_toInt64S.out (t : List Int) : Out := ⟨[.cl .deep (.sl (.int .i64)) t], []⟩
theorem laws_toInt64S.eq (a : List Int) : ev tb laws_toInt64S.hn 22 1 laws_toInt64S.G laws_toInt64S.L (bodyOf Go.Proofs.Try.f81) (.two (.no) (.two (.no) (.two (.two (.no) (.one (.fr 0))) (.no)))) (initSt [.cl .sh (.sl (.int .i64)) a]) (kfin tb laws_toInt64S.hn Go.Proofs.Try.f81 [.sh]) =
    (laws_toInt64S a).map laws_toInt64S.out := by
  simp only [laws_toInt64S, cond_map, bind_map, sel_map, Option.map_some, Option.map_none]
  kernel_rfl
def laws_toInt64S.pts : List PT := [.cl .sh (.sl (.int .i64))]
noncomputable def laws_toInt64S.FS : FS := mkFS [.sh] laws_toInt64S.pts (fun x => laws_toInt64S x.1) laws_toInt64S.out
theorem laws_toInt64S.ok : FsOk Go.Proofs.Try.prog 81 laws_toInt64S.FS :=
  fs_ok (fn := Go.Proofs.Try.f81) tbok (by kernel_rfl) (body_some (by kernel_rfl)) (by kernel_rfl) (pts := laws_toInt64S.pts) (ev_sound (nt := 22) (np := 1) (hn := laws_toInt64S.hn) (G := laws_toInt64S.G) (L := laws_toInt64S.L) tbok laws_toInt64S.Gok hmix _ (.two (.no) (.two (.no) (.two (.two (.no) (.one (.fr 0))) (.no)))) (hok_of (l := [(0, .loop (codeAt (bodyOf Go.Proofs.Try.f81) [1, 1, 0, 1, 0, 0]))]) (by kernel_rfl) ⟨Lam.cons laws_toInt64S_l0.ok, trivial⟩)) rfl rfl
    fun x => laws_toInt64S.eq x.1
noncomputable def laws_toStep (a : Step_) : Option (Step_) :=
  (laws_toInt64S a.2.2.1).bind fun r => some (a.1, a.2.1, r, ())
noncomputable def laws_toStep.G : Gam := mkG [(81, laws_toInt64S.FS)]
theorem laws_toStep.Gok : GOk Go.Proofs.Try.prog laws_toStep.G := GOk.cons (laws_toInt64S.ok) (GOk.nil)
def laws_toStep.hn : Hint := ⟨[1], [], [], 0⟩
noncomputable def laws_toStep.L : Lam := mkL []
def laws_toStep.out (t : Step_) : Out := ⟨[.cl .deep tStep_ t], []⟩
theorem laws_toStep.eq (a : Step_) : ev tb laws_toStep.hn 15 1 laws_toStep.G laws_toStep.L (bodyOf Go.Proofs.Try.f21) (.no) (initSt [.cl .sh tStep_ a]) (kfin tb laws_toStep.hn Go.Proofs.Try.f21 [.sh]) =
    (laws_toStep a).map laws_toStep.out := by
  simp only [laws_toStep, cond_map, bind_map, sel_map, Option.map_some, Option.map_none]
  kernel_rfl
def laws_toStep.pts : List PT := [.cl .sh tStep_]
noncomputable def laws_toStep.FS : FS := mkFS [.sh] laws_toStep.pts (fun x => laws_toStep x.1) laws_toStep.out
theorem laws_toStep.ok : FsOk Go.Proofs.Try.prog 21 laws_toStep.FS :=
  fs_ok (fn := Go.Proofs.Try.f21) tbok (by kernel_rfl) (body_some (by kernel_rfl)) (by kernel_rfl) (pts := laws_toStep.pts) (ev_sound (nt := 15) (np := 1) (hn := laws_toStep.hn) (G := laws_toStep.G) (L := laws_toStep.L) tbok laws_toStep.Gok hmix _ (.no) (hok_of (l := []) (by kernel_rfl) trivial)) rfl rfl
    fun x => laws_toStep.eq x.1
noncomputable def laws_toStepS_l0.B (a : List Step_) (i_ : Int) (out_ : List Step_) : Option ((Int × List Step_) ⊕ (List Step_)) :=
  cond (decide (i_ < (a.length : Int))) (cond (inB i_ a.length) ((laws_toStep (a.getD i_.toNat zStep_)).bind fun r => cond (inB i_ out_.length) (some (.inl (w64 (i_ + 1), out_.set i_.toNat (r.1, r.2.1, r.2.2.1, r.2.2.2)))) (none)) (none)) (some (.inr out_))
noncomputable def laws_toStepS_l0 (a : List Step_) : (Int × List Step_) → Option (List Step_) :=
  loopL fun s => laws_toStepS_l0.B a s.1 s.2
noncomputable def laws_toStepS (a : List Step_) : Option (List Step_) :=
  cond (decide ((0 : Int) ≤ (a.length : Int)) && (decide ((a.length : Int) ≤ (a.length : Int)) && decide ((a.length : Int) ≤ 2147483648))) ((laws_toStepS_l0 a (0, List.replicate (a.length : Int).toNat zStep_)).bind fun o => some o) (none)
noncomputable def laws_toStepS.G : Gam := mkG [(21, laws_toStep.FS)]
theorem laws_toStepS.Gok : GOk Go.Proofs.Try.prog laws_toStepS.G := GOk.cons (laws_toStep.ok) (GOk.nil)
def laws_toStepS.hn : Hint := ⟨[], [], [], 0⟩
noncomputable def laws_toStepS_l0.wit (a : List Step_) (b : List Step_) : Ex × St := (.ex 0, ⟨[(3, .seg 3 [])], [(3, some ⟨.reg, .cl .deep (.sl tStep_) b⟩)]⟩)
theorem laws_toStepS_l0.eq (a : List Step_) (i_ : Int) (out_ : List Step_) : ev tb laws_toStepS.hn 23 1 laws_toStepS.G (mkL []) (codeAt (bodyOf Go.Proofs.Try.f31) [1, 1, 0, 1, 0, 0]) (.no) ⟨[(0, .cl .sh (.sl tStep_) a), (3, .seg 3 []), (4, .cl .sh (.int .i64) i_)], [(3, some ⟨.reg, .cl .deep (.sl tStep_) out_⟩)]⟩ (kLp (([0, 3, 4], [3])) [(0, ([3], [3]))] ([], [])) =
    (laws_toStepS_l0.B a i_ out_).map (fun o => sel o (fun s => .inl ⟨[(0, .cl .sh (.sl tStep_) a), (3, .seg 3 []), (4, .cl .sh (.int .i64) s.1)], [(3, some ⟨.reg, .cl .deep (.sl tStep_) s.2⟩)]⟩) (fun b => .inr (laws_toStepS_l0.wit a b))) := by
  simp only [laws_toStepS_l0.B, cond_map, bind_map, sel_map, Option.map_some, Option.map_none]
  kernel_rfl
def laws_toStepS_l0.sp : SP := ⟨[(0, .cl .sh (.sl tStep_)), (3, .seg 3 []), (4, .cl .sh (.int .i64))], [(3, .reg, .cl .deep (.sl tStep_))]⟩
noncomputable def laws_toStepS_l0.out (a : List Step_) : FOut (List Step_) := fun b _ k => k (.ex 0) ⟨[(3, .seg 3 [])], [(3, some ⟨.reg, .cl .deep (.sl tStep_) b⟩)]⟩
theorem laws_toStepS_l0.outEq (a : List Step_) (o : List Step_) (R : Type) (k : Ex → St → Option R) : laws_toStepS_l0.out a o R k = k (laws_toStepS_l0.wit a o).1 (laws_toStepS_l0.wit a o).2 := by
  rfl
noncomputable def laws_toStepS_l0.F (x : laws_toStepS_l0.sp.El) (R : Type) (k : Ex → St → Option R) : Option R := (laws_toStepS_l0 x.1.1 (x.1.2.2.1, x.2.1)).bind fun t => laws_toStepS_l0.out x.1.1 t R k
noncomputable def laws_toStepS_l0.fr : St → ∀ R : Type, (Ex → St → Option R) → Option R := mkFrag laws_toStepS_l0.sp laws_toStepS_l0.F
theorem laws_toStepS_l0.ok : CodeOk Go.Proofs.Try.prog 23 1 (.loop (codeAt (bodyOf Go.Proofs.Try.f31) [1, 1, 0, 1, 0, 0])) laws_toStepS_l0.fr :=
  loop_sound (sp := laws_toStepS_l0.sp) rfl (F := laws_toStepS_l0.F) (ev_sound (hn := laws_toStepS.hn) (G := laws_toStepS.G) (L := mkL []) tbok laws_toStepS.Gok hmix _ (.no) (hok_of (l := []) (by kernel_rfl) trivial)) 
    fun x => ⟨_, _, fun s => laws_toStepS_l0.B x.1.1 s.1 s.2, fun s => ⟨[(0, .cl .sh (.sl tStep_) x.1.1), (3, .seg 3 []), (4, .cl .sh (.int .i64) s.1)], [(3, some ⟨.reg, .cl .deep (.sl tStep_) s.2⟩)]⟩, laws_toStepS_l0.wit x.1.1, (x.1.2.2.1, x.2.1), rfl, fun s => laws_toStepS_l0.eq x.1.1 s.1 s.2, fun R k => congrArg (fun g => (laws_toStepS_l0 x.1.1 (x.1.2.2.1, x.2.1)).bind g) (funext fun t => laws_toStepS_l0.outEq x.1.1 t R k)⟩
noncomputable def laws_toStepS.L : Lam := mkL [(0, laws_toStepS_l0.fr)]
def laws_toStepS.out (t : List Step_) : Out := ⟨[.cl .deep (.sl tStep_) t], []⟩
theorem laws_toStepS.eq (a : List Step_) : ev tb laws_toStepS.hn 23 1 laws_toStepS.G laws_toStepS.L (bodyOf Go.Proofs.Try.f31) (.two (.no) (.two (.no) (.two (.two (.no) (.one (.fr 0))) (.no)))) (initSt [.cl .sh (.sl tStep_) a]) (kfin tb laws_toStepS.hn Go.Proofs.Try.f31 [.sh]) =
    (laws_toStepS a).map laws_toStepS.out := by
  simp only [laws_toStepS, cond_map, bind_map, sel_map, Option.map_some, Option.map_none]
  kernel_rfl
def laws_toStepS.pts : List PT := [.cl .sh (.sl tStep_)]
noncomputable def laws_toStepS.FS : FS := mkFS [.sh] laws_toStepS.pts (fun x => laws_toStepS x.1) laws_toStepS.out
theorem laws_toStepS.ok : FsOk Go.Proofs.Try.prog 31 laws_toStepS.FS :=
  fs_ok (fn := Go.Proofs.Try.f31) tbok (by kernel_rfl) (body_some (by kernel_rfl)) (by kernel_rfl) (pts := laws_toStepS.pts) (ev_sound (nt := 23) (np := 1) (hn := laws_toStepS.hn) (G := laws_toStepS.G) (L := laws_toStepS.L) tbok laws_toStepS.Gok hmix _ (.two (.no) (.two (.no) (.two (.two (.no) (.one (.fr 0))) (.no)))) (hok_of (l := [(0, .loop (codeAt (bodyOf Go.Proofs.Try.f31) [1, 1, 0, 1, 0, 0]))]) (by kernel_rfl) ⟨Lam.cons laws_toStepS_l0.ok, trivial⟩)) rfl rfl
    fun x => laws_toStepS.eq x.1
noncomputable def spec_l1In (v : Int) (low : Int) (high : Int) : Option (Bool) :=
  (some (cond (decide (v ≥ low)) (decide (v ≤ high)) false)).bind fun v2 => some v2
noncomputable def spec_l1In.G : Gam := mkG []
theorem spec_l1In.Gok : GOk Go.Proofs.Try.prog spec_l1In.G := GOk.nil
def spec_l1In.hn : Hint := ⟨[], [], [], 0⟩
noncomputable def spec_l1In.L : Lam := mkL []
def spec_l1In.out (t : Bool) : Out := ⟨[.cl .sh .bool t], []⟩
theorem spec_l1In.eq (v : Int) (low : Int) (high : Int) : ev tb spec_l1In.hn 15 3 spec_l1In.G spec_l1In.L (bodyOf Go.Proofs.Try.f74) (.no) (initSt [.cl .sh (.int .i64) v, .cl .sh (.int .i64) low, .cl .sh (.int .i64) high]) (kfin tb spec_l1In.hn Go.Proofs.Try.f74 [.sh, .sh, .sh]) =
    (spec_l1In v low high).map spec_l1In.out := by
  simp only [spec_l1In, cond_map, bind_map, sel_map, Option.map_some, Option.map_none]
  kernel_rfl
def spec_l1In.pts : List PT := [.cl .sh (.int .i64), .cl .sh (.int .i64), .cl .sh (.int .i64)]
noncomputable def spec_l1In.FS : FS := mkFS [.sh, .sh, .sh] spec_l1In.pts (fun x => spec_l1In x.1 x.2.1 x.2.2.1) spec_l1In.out
theorem spec_l1In.ok : FsOk Go.Proofs.Try.prog 74 spec_l1In.FS :=
  fs_ok (fn := Go.Proofs.Try.f74) tbok (by kernel_rfl) (body_some (by kernel_rfl)) (by kernel_rfl) (pts := spec_l1In.pts) (ev_sound (nt := 15) (np := 3) (hn := spec_l1In.hn) (G := spec_l1In.G) (L := spec_l1In.L) tbok spec_l1In.Gok hmix _ (.no) (hok_of (l := []) (by kernel_rfl) trivial)) rfl rfl
    fun x => spec_l1In.eq x.1 x.2.1 x.2.2.1
noncomputable def spec_l1Words_l0.B (w : List Int) (i_ : Int) : Option ((Int) ⊕ (((Int) ⊕ (Unit)))) :=
  cond (decide (i_ < (w.length : Int))) (cond (inB i_ w.length) ((spec_l1In (w.getD i_.toNat 0) 0 65535).bind fun r => cond (!r) (some (.inr (.inl 3))) (some (.inl (w64 (i_ + 1))))) (none)) (some (.inr (.inr ())))
noncomputable def spec_l1Words_l0 (w : List Int) : (Int) → Option (((Int) ⊕ (Unit))) :=
  loopL fun s => spec_l1Words_l0.B w s
noncomputable def spec_l1Words (w : List Int) : Option (Int) :=
  cond (decide ((w.length : Int) > 64)) (some 2) ((spec_l1Words_l0 w 0).bind fun o => sel o (fun b => some b) (fun c => some 0))
noncomputable def spec_l1Words.G : Gam := mkG [(74, spec_l1In.FS)]
theorem spec_l1Words.Gok : GOk Go.Proofs.Try.prog spec_l1Words.G := GOk.cons (spec_l1In.ok) (GOk.nil)
def spec_l1Words.hn : Hint := ⟨[], [], [], 0⟩
noncomputable def spec_l1Words_l0.wit (w : List Int) (o : ((Int) ⊕ (Unit))) : Ex × St := sel o (fun b => (.rt, ⟨[(2, .cl .sh (.int .i64) b)], []⟩)) (fun c => (.ex 0, ⟨[], []⟩))
theorem spec_l1Words_l0.eq (w : List Int) (i_ : Int) : ev tb spec_l1Words.hn 19 1 spec_l1Words.G (mkL []) (codeAt (bodyOf Go.Proofs.Try.f80) [1, 1, 0, 1, 0, 0]) (.no) ⟨[(0, .cl .sh (.sl (.int .i64)) w), (3, .cl .sh (.int .i64) i_)], []⟩ (kLp (([0, 3], [])) [(0, ([], []))] ([2], [])) =
    (spec_l1Words_l0.B w i_).map (fun o => sel o (fun s => .inl ⟨[(0, .cl .sh (.sl (.int .i64)) w), (3, .cl .sh (.int .i64) s)], []⟩) (fun o => .inr (spec_l1Words_l0.wit w o))) := by
  simp only [spec_l1Words_l0.B, cond_map, bind_map, sel_map, Option.map_some, Option.map_none]
  kernel_rfl
def spec_l1Words_l0.sp : SP := ⟨[(0, .cl .sh (.sl (.int .i64))), (3, .cl .sh (.int .i64))], []⟩
noncomputable def spec_l1Words_l0.out (w : List Int) : FOut (((Int) ⊕ (Unit))) := fun o _ k => sel o (fun b => k (.rt) ⟨[(2, .cl .sh (.int .i64) b)], []⟩) (fun c => k (.ex 0) ⟨[], []⟩)
theorem spec_l1Words_l0.outEq (w : List Int) (o : ((Int) ⊕ (Unit))) (R : Type) (k : Ex → St → Option R) : spec_l1Words_l0.out w o R k = k (spec_l1Words_l0.wit w o).1 (spec_l1Words_l0.wit w o).2 := by
  rcases o with o | o <;> rfl
noncomputable def spec_l1Words_l0.F (x : spec_l1Words_l0.sp.El) (R : Type) (k : Ex → St → Option R) : Option R := (spec_l1Words_l0 x.1.1 x.1.2.1).bind fun t => spec_l1Words_l0.out x.1.1 t R k
noncomputable def spec_l1Words_l0.fr : St → ∀ R : Type, (Ex → St → Option R) → Option R := mkFrag spec_l1Words_l0.sp spec_l1Words_l0.F
theorem spec_l1Words_l0.ok : CodeOk Go.Proofs.Try.prog 19 1 (.loop (codeAt (bodyOf Go.Proofs.Try.f80) [1, 1, 0, 1, 0, 0])) spec_l1Words_l0.fr :=
  loop_sound (sp := spec_l1Words_l0.sp) rfl (F := spec_l1Words_l0.F) (ev_sound (hn := spec_l1Words.hn) (G := spec_l1Words.G) (L := mkL []) tbok spec_l1Words.Gok hmix _ (.no) (hok_of (l := []) (by kernel_rfl) trivial)) 
    fun x => ⟨_, _, fun s => spec_l1Words_l0.B x.1.1 s, fun s => ⟨[(0, .cl .sh (.sl (.int .i64)) x.1.1), (3, .cl .sh (.int .i64) s)], []⟩, spec_l1Words_l0.wit x.1.1, x.1.2.1, rfl, fun s => spec_l1Words_l0.eq x.1.1 s, fun R k => congrArg (fun g => (spec_l1Words_l0 x.1.1 x.1.2.1).bind g) (funext fun t => spec_l1Words_l0.outEq x.1.1 t R k)⟩
noncomputable def spec_l1Words.L : Lam := mkL [(0, spec_l1Words_l0.fr)]
def spec_l1Words.out (t : Int) : Out := ⟨[.cl .sh (.int .i64) t], []⟩
theorem spec_l1Words.eq (w : List Int) : ev tb spec_l1Words.hn 19 1 spec_l1Words.G spec_l1Words.L (bodyOf Go.Proofs.Try.f80) (.two (.no) (.two (.no) (.two (.two (.no) (.one (.fr 0))) (.no)))) (initSt [.cl .sh (.sl (.int .i64)) w]) (kfin tb spec_l1Words.hn Go.Proofs.Try.f80 [.sh]) =
    (spec_l1Words w).map spec_l1Words.out := by
  simp only [spec_l1Words, cond_map, bind_map, sel_map, Option.map_some, Option.map_none]
  kernel_rfl
def spec_l1Words.pts : List PT := [.cl .sh (.sl (.int .i64))]
noncomputable def spec_l1Words.FS : FS := mkFS [.sh] spec_l1Words.pts (fun x => spec_l1Words x.1) spec_l1Words.out
theorem spec_l1Words.ok : FsOk Go.Proofs.Try.prog 80 spec_l1Words.FS :=
  fs_ok (fn := Go.Proofs.Try.f80) tbok (by kernel_rfl) (body_some (by kernel_rfl)) (by kernel_rfl) (pts := spec_l1Words.pts) (ev_sound (nt := 19) (np := 1) (hn := spec_l1Words.hn) (G := spec_l1Words.G) (L := spec_l1Words.L) tbok spec_l1Words.Gok hmix _ (.two (.no) (.two (.no) (.two (.two (.no) (.one (.fr 0))) (.no)))) (hok_of (l := [(0, .loop (codeAt (bodyOf Go.Proofs.Try.f80) [1, 1, 0, 1, 0, 0]))]) (by kernel_rfl) ⟨Lam.cons spec_l1Words_l0.ok, trivial⟩)) rfl rfl
    fun x => spec_l1Words.eq x.1
noncomputable def spec_StepFault (x : Step_) : Option (Int) :=
  (some (cond x.1 (cond (x.2.1 != 0) true (decide ((x.2.2.1.length : Int) > 0))) false)).bind fun v => cond v (some 1) ((spec_l1In x.2.1 0 46).bind fun r => cond (!r) (some 3) ((spec_l1Words x.2.2.1).bind fun r2 => some r2))
noncomputable def spec_StepFault.G : Gam := mkG [(74, spec_l1In.FS), (80, spec_l1Words.FS)]
theorem spec_StepFault.Gok : GOk Go.Proofs.Try.prog spec_StepFault.G := GOk.cons (spec_l1In.ok) (GOk.cons (spec_l1Words.ok) (GOk.nil))
def spec_StepFault.hn : Hint := ⟨[1], [], [], 0⟩
noncomputable def spec_StepFault.L : Lam := mkL []
def spec_StepFault.out (t : Int) : Out := ⟨[.cl .sh (.int .i64) t], []⟩
theorem spec_StepFault.eq (x : Step_) : ev tb spec_StepFault.hn 23 1 spec_StepFault.G spec_StepFault.L (bodyOf Go.Proofs.Try.f20) (.no) (initSt [.cl .sh tStep_ x]) (kfin tb spec_StepFault.hn Go.Proofs.Try.f20 [.sh]) =
    (spec_StepFault x).map spec_StepFault.out := by
  simp only [spec_StepFault, cond_map, bind_map, sel_map, Option.map_some, Option.map_none]
  kernel_rfl
def spec_StepFault.pts : List PT := [.cl .sh tStep_]
noncomputable def spec_StepFault.FS : FS := mkFS [.sh] spec_StepFault.pts (fun x => spec_StepFault x.1) spec_StepFault.out
theorem spec_StepFault.ok : FsOk Go.Proofs.Try.prog 20 spec_StepFault.FS :=
  fs_ok (fn := Go.Proofs.Try.f20) tbok (by kernel_rfl) (body_some (by kernel_rfl)) (by kernel_rfl) (pts := spec_StepFault.pts) (ev_sound (nt := 23) (np := 1) (hn := spec_StepFault.hn) (G := spec_StepFault.G) (L := spec_StepFault.L) tbok spec_StepFault.Gok hmix _ (.no) (hok_of (l := []) (by kernel_rfl) trivial)) rfl rfl
    fun x => spec_StepFault.eq x.1
noncomputable def spec_l13Steps_l0.B (list : List Step_) (i_ : Int) : Option ((Int) ⊕ (((Int) ⊕ (Unit)))) :=
  cond (decide (i_ < (list.length : Int))) (cond (inB i_ list.length) ((spec_StepFault (list.getD i_.toNat zStep_)).bind fun r => cond (r != 0) (some (.inr (.inl r))) (some (.inl (w64 (i_ + 1))))) (none)) (some (.inr (.inr ())))
noncomputable def spec_l13Steps_l0 (list : List Step_) : (Int) → Option (((Int) ⊕ (Unit))) :=
  loopL fun s => spec_l13Steps_l0.B list s
noncomputable def spec_l13Steps (list : List Step_) : Option (Int) :=
  cond (decide ((list.length : Int) > 120)) (some 2) ((spec_l13Steps_l0 list 0).bind fun o => sel o (fun b => some b) (fun c => some 0))
noncomputable def spec_l13Steps.G : Gam := mkG [(20, spec_StepFault.FS)]
theorem spec_l13Steps.Gok : GOk Go.Proofs.Try.prog spec_l13Steps.G := GOk.cons (spec_StepFault.ok) (GOk.nil)
def spec_l13Steps.hn : Hint := ⟨[], [], [], 0⟩
noncomputable def spec_l13Steps_l0.wit (list : List Step_) (o : ((Int) ⊕ (Unit))) : Ex × St := sel o (fun b => (.rt, ⟨[(2, .cl .sh (.int .i64) b)], []⟩)) (fun c => (.ex 0, ⟨[], []⟩))
theorem spec_l13Steps_l0.eq (list : List Step_) (i_ : Int) : ev tb spec_l13Steps.hn 22 1 spec_l13Steps.G (mkL []) (codeAt (bodyOf Go.Proofs.Try.f90) [1, 1, 0, 1, 0, 0]) (.no) ⟨[(0, .cl .sh (.sl tStep_) list), (3, .cl .sh (.int .i64) i_)], []⟩ (kLp (([0, 3], [])) [(0, ([], []))] ([2], [])) =
    (spec_l13Steps_l0.B list i_).map (fun o => sel o (fun s => .inl ⟨[(0, .cl .sh (.sl tStep_) list), (3, .cl .sh (.int .i64) s)], []⟩) (fun o => .inr (spec_l13Steps_l0.wit list o))) := by
  simp only [spec_l13Steps_l0.B, cond_map, bind_map, sel_map, Option.map_some, Option.map_none]
  kernel_rfl
def spec_l13Steps_l0.sp : SP := ⟨[(0, .cl .sh (.sl tStep_)), (3, .cl .sh (.int .i64))], []⟩
noncomputable def spec_l13Steps_l0.out (list : List Step_) : FOut (((Int) ⊕ (Unit))) := fun o _ k => sel o (fun b => k (.rt) ⟨[(2, .cl .sh (.int .i64) b)], []⟩) (fun c => k (.ex 0) ⟨[], []⟩)
theorem spec_l13Steps_l0.outEq (list : List Step_) (o : ((Int) ⊕ (Unit))) (R : Type) (k : Ex → St → Option R) : spec_l13Steps_l0.out list o R k = k (spec_l13Steps_l0.wit list o).1 (spec_l13Steps_l0.wit list o).2 := by
  rcases o with o | o <;> rfl
noncomputable def spec_l13Steps_l0.F (x : spec_l13Steps_l0.sp.El) (R : Type) (k : Ex → St → Option R) : Option R := (spec_l13Steps_l0 x.1.1 x.1.2.1).bind fun t => spec_l13Steps_l0.out x.1.1 t R k
noncomputable def spec_l13Steps_l0.fr : St → ∀ R : Type, (Ex → St → Option R) → Option R := mkFrag spec_l13Steps_l0.sp spec_l13Steps_l0.F
theorem spec_l13Steps_l0.ok : CodeOk Go.Proofs.Try.prog 22 1 (.loop (codeAt (bodyOf Go.Proofs.Try.f90) [1, 1, 0, 1, 0, 0])) spec_l13Steps_l0.fr :=
  loop_sound (sp := spec_l13Steps_l0.sp) rfl (F := spec_l13Steps_l0.F) (ev_sound (hn := spec_l13Steps.hn) (G := spec_l13Steps.G) (L := mkL []) tbok spec_l13Steps.Gok hmix _ (.no) (hok_of (l := []) (by kernel_rfl) trivial)) 
    fun x => ⟨_, _, fun s => spec_l13Steps_l0.B x.1.1 s, fun s => ⟨[(0, .cl .sh (.sl tStep_) x.1.1), (3, .cl .sh (.int .i64) s)], []⟩, spec_l13Steps_l0.wit x.1.1, x.1.2.1, rfl, fun s => spec_l13Steps_l0.eq x.1.1 s, fun R k => congrArg (fun g => (spec_l13Steps_l0 x.1.1 x.1.2.1).bind g) (funext fun t => spec_l13Steps_l0.outEq x.1.1 t R k)⟩
noncomputable def spec_l13Steps.L : Lam := mkL [(0, spec_l13Steps_l0.fr)]
def spec_l13Steps.out (t : Int) : Out := ⟨[.cl .sh (.int .i64) t], []⟩
theorem spec_l13Steps.eq (list : List Step_) : ev tb spec_l13Steps.hn 22 1 spec_l13Steps.G spec_l13Steps.L (bodyOf Go.Proofs.Try.f90) (.two (.no) (.two (.no) (.two (.two (.no) (.one (.fr 0))) (.no)))) (initSt [.cl .sh (.sl tStep_) list]) (kfin tb spec_l13Steps.hn Go.Proofs.Try.f90 [.sh]) =
    (spec_l13Steps list).map spec_l13Steps.out := by
  simp only [spec_l13Steps, cond_map, bind_map, sel_map, Option.map_some, Option.map_none]
  kernel_rfl
def spec_l13Steps.pts : List PT := [.cl .sh (.sl tStep_)]
noncomputable def spec_l13Steps.FS : FS := mkFS [.sh] spec_l13Steps.pts (fun x => spec_l13Steps x.1) spec_l13Steps.out
theorem spec_l13Steps.ok : FsOk Go.Proofs.Try.prog 90 spec_l13Steps.FS :=
  fs_ok (fn := Go.Proofs.Try.f90) tbok (by kernel_rfl) (body_some (by kernel_rfl)) (by kernel_rfl) (pts := spec_l13Steps.pts) (ev_sound (nt := 22) (np := 1) (hn := spec_l13Steps.hn) (G := spec_l13Steps.G) (L := spec_l13Steps.L) tbok spec_l13Steps.Gok hmix _ (.two (.no) (.two (.no) (.two (.two (.no) (.one (.fr 0))) (.no)))) (hok_of (l := [(0, .loop (codeAt (bodyOf Go.Proofs.Try.f90) [1, 1, 0, 1, 0, 0]))]) (by kernel_rfl) ⟨Lam.cons spec_l13Steps_l0.ok, trivial⟩)) rfl rfl
    fun x => spec_l13Steps.eq x.1
noncomputable def spec_l13Commit_l1.B (list : List Step_) (k_ : Int) : Option ((Int) ⊕ (((Int) ⊕ (Unit)))) :=
  cond (decide (k_ < (list.length : Int))) (cond (inB k_ list.length) (cond ((list.getD k_.toNat zStep_).1) (some (.inr (.inl k_))) (some (.inl (w64 (k_ + 1))))) (none)) (some (.inr (.inr ())))
noncomputable def spec_l13Commit_l1 (list : List Step_) : (Int) → Option (((Int) ⊕ (Unit))) :=
  loopL fun s => spec_l13Commit_l1.B list s
noncomputable def spec_l13Commit_l2.B (list : List Step_) (k_2 : Int) : Option ((Int) ⊕ (((Int) ⊕ (Unit)))) :=
  cond (decide (k_2 < (list.length : Int))) (cond (inB k_2 list.length) (cond ((list.getD k_2.toNat zStep_).1) (some (.inr (.inl k_2))) (some (.inl (w64 (k_2 + 1))))) (none)) (some (.inr (.inr ())))
noncomputable def spec_l13Commit_l2 (list : List Step_) : (Int) → Option (((Int) ⊕ (Unit))) :=
  loopL fun s => spec_l13Commit_l2.B list s
noncomputable def spec_l13Commit_l0.B (list : List Step_) (i_ : Int) : Option ((Int) ⊕ (((Int) ⊕ (Unit)))) :=
  cond (decide (i_ < (list.length : Int))) (cond (inB i_ list.length) (cond (!((list.getD i_.toNat zStep_).1)) ((spec_l1In (((list.getD i_.toNat zStep_).2).1) 1 16).bind fun r => (some (cond r ((((((list.getD i_.toNat zStep_).2).2).1).length : Int) == 3) false)).bind fun v => cond (cond v (inB 0 (((((list.getD i_.toNat zStep_).2).2).1).length)) true) ((some (cond v ((((((list.getD i_.toNat zStep_).2).2).1).getD (0 : Int).toNat 0) == 2) false)).bind fun v2 => cond v2 ((spec_l13Commit_l1 list i_).bind fun o => sel o (fun b => some (.inr (.inl b))) (fun c => some (.inr (.inl (list.length : Int))))) (some (.inl (w64 (i_ + 1))))) (none)) ((some (cond false ((((((list.getD i_.toNat zStep_).2).2).1).length : Int) == 3) false)).bind fun v3 => cond (cond v3 (inB 0 (((((list.getD i_.toNat zStep_).2).2).1).length)) true) ((some (cond v3 ((((((list.getD i_.toNat zStep_).2).2).1).getD (0 : Int).toNat 0) == 2) false)).bind fun v4 => cond v4 ((spec_l13Commit_l2 list i_).bind fun o2 => sel o2 (fun b2 => some (.inr (.inl b2))) (fun c2 => some (.inr (.inl (list.length : Int))))) (some (.inl (w64 (i_ + 1))))) (none))) (none)) (some (.inr (.inr ())))
noncomputable def spec_l13Commit_l0 (list : List Step_) : (Int) → Option (((Int) ⊕ (Unit))) :=
  loopL fun s => spec_l13Commit_l0.B list s
noncomputable def spec_l13Commit (list : List Step_) : Option (Int) :=
  (spec_l13Commit_l0 list 0).bind fun o3 => sel o3 (fun b3 => some b3) (fun c3 => some (-1))
noncomputable def spec_l13Commit.G : Gam := mkG [(74, spec_l1In.FS)]
theorem spec_l13Commit.Gok : GOk Go.Proofs.Try.prog spec_l13Commit.G := GOk.cons (spec_l1In.ok) (GOk.nil)
def spec_l13Commit.hn : Hint := ⟨[], [], [], 0⟩
noncomputable def spec_l13Commit_l1.wit (list : List Step_) (o : ((Int) ⊕ (Unit))) : Ex × St := sel o (fun b => (.rt, ⟨[(2, .cl .sh (.int .i64) b)], []⟩)) (fun c => (.ex 2, ⟨[(0, .cl .sh (.sl tStep_) list)], []⟩))
theorem spec_l13Commit_l1.eq (list : List Step_) (k_ : Int) : ev tb spec_l13Commit.hn 52 1 spec_l13Commit.G (mkL []) (codeAt (bodyOf Go.Proofs.Try.f91) [1, 0, 1, 0, 0, 1, 0, 0, 1, 1, 0, 0, 1, 0, 0]) (.no) ⟨[(0, .cl .sh (.sl tStep_) list), (5, .cl .sh (.int .i64) k_)], []⟩ (kLp (([0, 5], [])) [(2, ([0], []))] ([2], [])) =
    (spec_l13Commit_l1.B list k_).map (fun o => sel o (fun s => .inl ⟨[(0, .cl .sh (.sl tStep_) list), (5, .cl .sh (.int .i64) s)], []⟩) (fun o => .inr (spec_l13Commit_l1.wit list o))) := by
  simp only [spec_l13Commit_l1.B, cond_map, bind_map, sel_map, Option.map_some, Option.map_none]
  kernel_rfl
def spec_l13Commit_l1.sp : SP := ⟨[(0, .cl .sh (.sl tStep_)), (5, .cl .sh (.int .i64))], []⟩
noncomputable def spec_l13Commit_l1.out (list : List Step_) : FOut (((Int) ⊕ (Unit))) := fun o _ k => sel o (fun b => k (.rt) ⟨[(2, .cl .sh (.int .i64) b)], []⟩) (fun c => k (.ex 2) ⟨[(0, .cl .sh (.sl tStep_) list)], []⟩)
theorem spec_l13Commit_l1.outEq (list : List Step_) (o : ((Int) ⊕ (Unit))) (R : Type) (k : Ex → St → Option R) : spec_l13Commit_l1.out list o R k = k (spec_l13Commit_l1.wit list o).1 (spec_l13Commit_l1.wit list o).2 := by
  rcases o with o | o <;> rfl
noncomputable def spec_l13Commit_l1.F (x : spec_l13Commit_l1.sp.El) (R : Type) (k : Ex → St → Option R) : Option R := (spec_l13Commit_l1 x.1.1 x.1.2.1).bind fun t => spec_l13Commit_l1.out x.1.1 t R k
noncomputable def spec_l13Commit_l1.fr : St → ∀ R : Type, (Ex → St → Option R) → Option R := mkFrag spec_l13Commit_l1.sp spec_l13Commit_l1.F
theorem spec_l13Commit_l1.ok : CodeOk Go.Proofs.Try.prog 52 1 (.loop (codeAt (bodyOf Go.Proofs.Try.f91) [1, 0, 1, 0, 0, 1, 0, 0, 1, 1, 0, 0, 1, 0, 0])) spec_l13Commit_l1.fr :=
  loop_sound (sp := spec_l13Commit_l1.sp) rfl (F := spec_l13Commit_l1.F) (ev_sound (hn := spec_l13Commit.hn) (G := spec_l13Commit.G) (L := mkL []) tbok spec_l13Commit.Gok hmix _ (.no) (hok_of (l := []) (by kernel_rfl) trivial)) 
    fun x => ⟨_, _, fun s => spec_l13Commit_l1.B x.1.1 s, fun s => ⟨[(0, .cl .sh (.sl tStep_) x.1.1), (5, .cl .sh (.int .i64) s)], []⟩, spec_l13Commit_l1.wit x.1.1, x.1.2.1, rfl, fun s => spec_l13Commit_l1.eq x.1.1 s, fun R k => congrArg (fun g => (spec_l13Commit_l1 x.1.1 x.1.2.1).bind g) (funext fun t => spec_l13Commit_l1.outEq x.1.1 t R k)⟩
noncomputable def spec_l13Commit_l2.wit (list : List Step_) (o : ((Int) ⊕ (Unit))) : Ex × St := sel o (fun b => (.rt, ⟨[(2, .cl .sh (.int .i64) b)], []⟩)) (fun c => (.ex 2, ⟨[(0, .cl .sh (.sl tStep_) list)], []⟩))
theorem spec_l13Commit_l2.eq (list : List Step_) (k_2 : Int) : ev tb spec_l13Commit.hn 52 1 spec_l13Commit.G (mkL []) (codeAt (bodyOf Go.Proofs.Try.f91) [1, 0, 1, 0, 0, 1, 0, 0, 1, 1, 0, 0, 1, 0, 0]) (.no) ⟨[(0, .cl .sh (.sl tStep_) list), (5, .cl .sh (.int .i64) k_2)], []⟩ (kLp (([0, 5], [])) [(2, ([0], []))] ([2], [])) =
    (spec_l13Commit_l2.B list k_2).map (fun o => sel o (fun s => .inl ⟨[(0, .cl .sh (.sl tStep_) list), (5, .cl .sh (.int .i64) s)], []⟩) (fun o => .inr (spec_l13Commit_l2.wit list o))) := by
  simp only [spec_l13Commit_l2.B, cond_map, bind_map, sel_map, Option.map_some, Option.map_none]
  kernel_rfl
def spec_l13Commit_l2.sp : SP := ⟨[(0, .cl .sh (.sl tStep_)), (5, .cl .sh (.int .i64))], []⟩
noncomputable def spec_l13Commit_l2.out (list : List Step_) : FOut (((Int) ⊕ (Unit))) := fun o _ k => sel o (fun b => k (.rt) ⟨[(2, .cl .sh (.int .i64) b)], []⟩) (fun c => k (.ex 2) ⟨[(0, .cl .sh (.sl tStep_) list)], []⟩)
theorem spec_l13Commit_l2.outEq (list : List Step_) (o : ((Int) ⊕ (Unit))) (R : Type) (k : Ex → St → Option R) : spec_l13Commit_l2.out list o R k = k (spec_l13Commit_l2.wit list o).1 (spec_l13Commit_l2.wit list o).2 := by
  rcases o with o | o <;> rfl
noncomputable def spec_l13Commit_l2.F (x : spec_l13Commit_l2.sp.El) (R : Type) (k : Ex → St → Option R) : Option R := (spec_l13Commit_l2 x.1.1 x.1.2.1).bind fun t => spec_l13Commit_l2.out x.1.1 t R k
noncomputable def spec_l13Commit_l2.fr : St → ∀ R : Type, (Ex → St → Option R) → Option R := mkFrag spec_l13Commit_l2.sp spec_l13Commit_l2.F
theorem spec_l13Commit_l2.ok : CodeOk Go.Proofs.Try.prog 52 1 (.loop (codeAt (bodyOf Go.Proofs.Try.f91) [1, 0, 1, 0, 0, 1, 0, 0, 1, 1, 0, 0, 1, 0, 0])) spec_l13Commit_l2.fr :=
  loop_sound (sp := spec_l13Commit_l2.sp) rfl (F := spec_l13Commit_l2.F) (ev_sound (hn := spec_l13Commit.hn) (G := spec_l13Commit.G) (L := mkL []) tbok spec_l13Commit.Gok hmix _ (.no) (hok_of (l := []) (by kernel_rfl) trivial)) 
    fun x => ⟨_, _, fun s => spec_l13Commit_l2.B x.1.1 s, fun s => ⟨[(0, .cl .sh (.sl tStep_) x.1.1), (5, .cl .sh (.int .i64) s)], []⟩, spec_l13Commit_l2.wit x.1.1, x.1.2.1, rfl, fun s => spec_l13Commit_l2.eq x.1.1 s, fun R k => congrArg (fun g => (spec_l13Commit_l2 x.1.1 x.1.2.1).bind g) (funext fun t => spec_l13Commit_l2.outEq x.1.1 t R k)⟩
noncomputable def spec_l13Commit_l0.wit (list : List Step_) (o : ((Int) ⊕ (Unit))) : Ex × St := sel o (fun b => (.rt, ⟨[(2, .cl .sh (.int .i64) b)], []⟩)) (fun c => (.ex 0, ⟨[], []⟩))
theorem spec_l13Commit_l0.eq (list : List Step_) (i_ : Int) : ev tb spec_l13Commit.hn 52 1 spec_l13Commit.G (mkL [(1, spec_l13Commit_l1.fr), (2, spec_l13Commit_l2.fr)]) (codeAt (bodyOf Go.Proofs.Try.f91) [1, 0, 1, 0, 0]) (.two (.no) (.two (.one (.two (.no) (.two (.no) (.two (.two (.two (.no) (.one (.fr 2))) (.no)) (.no))))) (.no))) ⟨[(0, .cl .sh (.sl tStep_) list), (3, .cl .sh (.int .i64) i_)], []⟩ (kLp (([0, 3], [])) [(0, ([], []))] ([2], [])) =
    (spec_l13Commit_l0.B list i_).map (fun o => sel o (fun s => .inl ⟨[(0, .cl .sh (.sl tStep_) list), (3, .cl .sh (.int .i64) s)], []⟩) (fun o => .inr (spec_l13Commit_l0.wit list o))) := by
  simp only [spec_l13Commit_l0.B, cond_map, bind_map, sel_map, Option.map_some, Option.map_none]
  kernel_rfl
def spec_l13Commit_l0.sp : SP := ⟨[(0, .cl .sh (.sl tStep_)), (3, .cl .sh (.int .i64))], []⟩
noncomputable def spec_l13Commit_l0.out (list : List Step_) : FOut (((Int) ⊕ (Unit))) := fun o _ k => sel o (fun b => k (.rt) ⟨[(2, .cl .sh (.int .i64) b)], []⟩) (fun c => k (.ex 0) ⟨[], []⟩)
theorem spec_l13Commit_l0.outEq (list : List Step_) (o : ((Int) ⊕ (Unit))) (R : Type) (k : Ex → St → Option R) : spec_l13Commit_l0.out list o R k = k (spec_l13Commit_l0.wit list o).1 (spec_l13Commit_l0.wit list o).2 := by
  rcases o with o | o <;> rfl
noncomputable def spec_l13Commit_l0.F (x : spec_l13Commit_l0.sp.El) (R : Type) (k : Ex → St → Option R) : Option R := (spec_l13Commit_l0 x.1.1 x.1.2.1).bind fun t => spec_l13Commit_l0.out x.1.1 t R k
noncomputable def spec_l13Commit_l0.fr : St → ∀ R : Type, (Ex → St → Option R) → Option R := mkFrag spec_l13Commit_l0.sp spec_l13Commit_l0.F
theorem spec_l13Commit_l0.ok : CodeOk Go.Proofs.Try.prog 52 1 (.loop (codeAt (bodyOf Go.Proofs.Try.f91) [1, 0, 1, 0, 0])) spec_l13Commit_l0.fr :=
  loop_sound (sp := spec_l13Commit_l0.sp) rfl (F := spec_l13Commit_l0.F) (ev_sound (hn := spec_l13Commit.hn) (G := spec_l13Commit.G) (L := mkL [(1, spec_l13Commit_l1.fr), (2, spec_l13Commit_l2.fr)]) tbok spec_l13Commit.Gok hmix _ (.two (.no) (.two (.one (.two (.no) (.two (.no) (.two (.two (.two (.no) (.one (.fr 2))) (.no)) (.no))))) (.no))) (hok_of (l := [(2, .loop (codeAt (bodyOf Go.Proofs.Try.f91) [1, 0, 1, 0, 0, 1, 0, 0, 1, 1, 0, 0, 1, 0, 0]))]) (by kernel_rfl) ⟨Lam.skip rfl (Lam.cons spec_l13Commit_l2.ok), trivial⟩)) 
    fun x => ⟨_, _, fun s => spec_l13Commit_l0.B x.1.1 s, fun s => ⟨[(0, .cl .sh (.sl tStep_) x.1.1), (3, .cl .sh (.int .i64) s)], []⟩, spec_l13Commit_l0.wit x.1.1, x.1.2.1, rfl, fun s => spec_l13Commit_l0.eq x.1.1 s, fun R k => congrArg (fun g => (spec_l13Commit_l0 x.1.1 x.1.2.1).bind g) (funext fun t => spec_l13Commit_l0.outEq x.1.1 t R k)⟩
noncomputable def spec_l13Commit.L : Lam := mkL [(1, spec_l13Commit_l1.fr), (2, spec_l13Commit_l2.fr), (0, spec_l13Commit_l0.fr)]
def spec_l13Commit.out (t : Int) : Out := ⟨[.cl .sh (.int .i64) t], []⟩
theorem spec_l13Commit.eq (list : List Step_) : ev tb spec_l13Commit.hn 52 1 spec_l13Commit.G spec_l13Commit.L (bodyOf Go.Proofs.Try.f91) (.two (.no) (.two (.two (.no) (.one (.fr 0))) (.no))) (initSt [.cl .sh (.sl tStep_) list]) (kfin tb spec_l13Commit.hn Go.Proofs.Try.f91 [.sh]) =
    (spec_l13Commit list).map spec_l13Commit.out := by
  simp only [spec_l13Commit, cond_map, bind_map, sel_map, Option.map_some, Option.map_none]
  kernel_rfl
def spec_l13Commit.pts : List PT := [.cl .sh (.sl tStep_)]
noncomputable def spec_l13Commit.FS : FS := mkFS [.sh] spec_l13Commit.pts (fun x => spec_l13Commit x.1) spec_l13Commit.out
theorem spec_l13Commit.ok : FsOk Go.Proofs.Try.prog 91 spec_l13Commit.FS :=
  fs_ok (fn := Go.Proofs.Try.f91) tbok (by kernel_rfl) (body_some (by kernel_rfl)) (by kernel_rfl) (pts := spec_l13Commit.pts) (ev_sound (nt := 52) (np := 1) (hn := spec_l13Commit.hn) (G := spec_l13Commit.G) (L := spec_l13Commit.L) tbok spec_l13Commit.Gok hmix _ (.two (.no) (.two (.two (.no) (.one (.fr 0))) (.no))) (hok_of (l := [(0, .loop (codeAt (bodyOf Go.Proofs.Try.f91) [1, 0, 1, 0, 0]))]) (by kernel_rfl) ⟨Lam.skip rfl (Lam.skip rfl (Lam.cons spec_l13Commit_l0.ok)), trivial⟩)) rfl rfl
    fun x => spec_l13Commit.eq x.1
noncomputable def spec_CommitAt (list : List Step_) : Option (IntResult_) :=
  (spec_l13Steps list).bind fun r => cond (r != 0) (some (r, 0, ())) ((spec_l13Commit list).bind fun r2 => cond (decide (r2 < 0)) (some (4, 0, ())) (some (0, r2, ())))
noncomputable def spec_CommitAt.G : Gam := mkG [(90, spec_l13Steps.FS), (91, spec_l13Commit.FS)]
theorem spec_CommitAt.Gok : GOk Go.Proofs.Try.prog spec_CommitAt.G := GOk.cons (spec_l13Steps.ok) (GOk.cons (spec_l13Commit.ok) (GOk.nil))
def spec_CommitAt.hn : Hint := ⟨[], [], [], 0⟩
noncomputable def spec_CommitAt.L : Lam := mkL []
def spec_CommitAt.out (t : IntResult_) : Out := ⟨[.cl .sh tIntResult_ t], []⟩
theorem spec_CommitAt.eq (list : List Step_) : ev tb spec_CommitAt.hn 18 1 spec_CommitAt.G spec_CommitAt.L (bodyOf Go.Proofs.Try.f30) (.no) (initSt [.cl .sh (.sl tStep_) list]) (kfin tb spec_CommitAt.hn Go.Proofs.Try.f30 [.sh]) =
    (spec_CommitAt list).map spec_CommitAt.out := by
  simp only [spec_CommitAt, cond_map, bind_map, sel_map, Option.map_some, Option.map_none]
  kernel_rfl
def spec_CommitAt.pts : List PT := [.cl .sh (.sl tStep_)]
noncomputable def spec_CommitAt.FS : FS := mkFS [.sh] spec_CommitAt.pts (fun x => spec_CommitAt x.1) spec_CommitAt.out
theorem spec_CommitAt.ok : FsOk Go.Proofs.Try.prog 30 spec_CommitAt.FS :=
  fs_ok (fn := Go.Proofs.Try.f30) tbok (by kernel_rfl) (body_some (by kernel_rfl)) (by kernel_rfl) (pts := spec_CommitAt.pts) (ev_sound (nt := 18) (np := 1) (hn := spec_CommitAt.hn) (G := spec_CommitAt.G) (L := spec_CommitAt.L) tbok spec_CommitAt.Gok hmix _ (.no) (hok_of (l := []) (by kernel_rfl) trivial)) rfl rfl
    fun x => spec_CommitAt.eq x.1
noncomputable def impl_within (n : Int) (low : Int) (high : Int) : Option (Bool) :=
  (some (cond (decide (n ≥ low)) (decide (n ≤ high)) false)).bind fun v => some v
noncomputable def impl_within.G : Gam := mkG []
theorem impl_within.Gok : GOk Go.Proofs.Try.prog impl_within.G := GOk.nil
def impl_within.hn : Hint := ⟨[], [], [], 0⟩
noncomputable def impl_within.L : Lam := mkL []
def impl_within.out (t : Bool) : Out := ⟨[.cl .sh .bool t], []⟩
theorem impl_within.eq (n : Int) (low : Int) (high : Int) : ev tb impl_within.hn 15 3 impl_within.G impl_within.L (bodyOf Go.Proofs.Try.f95) (.no) (initSt [.cl .sh (.int .i64) n, .cl .sh (.int .i64) low, .cl .sh (.int .i64) high]) (kfin tb impl_within.hn Go.Proofs.Try.f95 [.sh, .sh, .sh]) =
    (impl_within n low high).map impl_within.out := by
  simp only [impl_within, cond_map, bind_map, sel_map, Option.map_some, Option.map_none]
  kernel_rfl
def impl_within.pts : List PT := [.cl .sh (.int .i64), .cl .sh (.int .i64), .cl .sh (.int .i64)]
noncomputable def impl_within.FS : FS := mkFS [.sh, .sh, .sh] impl_within.pts (fun x => impl_within x.1 x.2.1 x.2.2.1) impl_within.out
theorem impl_within.ok : FsOk Go.Proofs.Try.prog 95 impl_within.FS :=
  fs_ok (fn := Go.Proofs.Try.f95) tbok (by kernel_rfl) (body_some (by kernel_rfl)) (by kernel_rfl) (pts := impl_within.pts) (ev_sound (nt := 15) (np := 3) (hn := impl_within.hn) (G := impl_within.G) (L := impl_within.L) tbok impl_within.Gok hmix _ (.no) (hok_of (l := []) (by kernel_rfl) trivial)) rfl rfl
    fun x => impl_within.eq x.1 x.2.1 x.2.2.1
noncomputable def impl_wordsFault_c1 (w : Int) : Option (Bool) :=
  (impl_within w 0 65535).bind fun r => some (!r)
noncomputable def impl_wordsFault_c1.G : Gam := mkG [(95, impl_within.FS)]
theorem impl_wordsFault_c1.Gok : GOk Go.Proofs.Try.prog impl_wordsFault_c1.G := GOk.cons (impl_within.ok) (GOk.nil)
def impl_wordsFault_c1.hn : Hint := ⟨[], [], [], 0⟩
noncomputable def impl_wordsFault_c1.L : Lam := mkL []
def impl_wordsFault_c1.out (t : Bool) : Out := ⟨[.cl .sh .bool t], []⟩
theorem impl_wordsFault_c1.eq (w : Int) : ev tb impl_wordsFault_c1.hn 6 1 impl_wordsFault_c1.G impl_wordsFault_c1.L (bodyOf Go.Proofs.Try.f170) (.no) (initSt [.cl .sh (.int .i64) w]) (kfin tb impl_wordsFault_c1.hn Go.Proofs.Try.f170 [.sh]) =
    (impl_wordsFault_c1 w).map impl_wordsFault_c1.out := by
  simp only [impl_wordsFault_c1, cond_map, bind_map, sel_map, Option.map_some, Option.map_none]
  kernel_rfl
def impl_wordsFault_c1.pts : List PT := [.cl .sh (.int .i64)]
noncomputable def impl_wordsFault_c1.FS : FS := mkFS [.sh] impl_wordsFault_c1.pts (fun x => impl_wordsFault_c1 x.1) impl_wordsFault_c1.out
theorem impl_wordsFault_c1.ok : FsOk Go.Proofs.Try.prog 170 impl_wordsFault_c1.FS :=
  fs_ok (fn := Go.Proofs.Try.f170) tbok (by kernel_rfl) (body_some (by kernel_rfl)) (by kernel_rfl) (pts := impl_wordsFault_c1.pts) (ev_sound (nt := 6) (np := 1) (hn := impl_wordsFault_c1.hn) (G := impl_wordsFault_c1.G) (L := impl_wordsFault_c1.L) tbok impl_wordsFault_c1.Gok hmix _ (.no) (hok_of (l := []) (by kernel_rfl) trivial)) rfl rfl
    fun x => impl_wordsFault_c1.eq x.1
noncomputable def slices_IndexFunc_int64_wordsFault_c1_l0.B (s_ : List Int) (f : Unit) (v : Int) (v2 : Int) : Option ((Int) ⊕ (((Int) ⊕ (Unit)))) :=
  cond (decide (v2 < v)) (cond (inB v2 s_.length) ((impl_wordsFault_c1 (s_.getD v2.toNat 0)).bind fun r => cond r (some (.inr (.inl v2))) (some (.inl (w64 (v2 + 1))))) (none)) (some (.inr (.inr ())))
noncomputable def slices_IndexFunc_int64_wordsFault_c1_l0 (s_ : List Int) (f : Unit) (v : Int) : (Int) → Option (((Int) ⊕ (Unit))) :=
  loopL fun s => slices_IndexFunc_int64_wordsFault_c1_l0.B s_ f v s
noncomputable def slices_IndexFunc_int64_wordsFault_c1 (s_ : List Int) (f : Unit) : Option (Int) :=
  (slices_IndexFunc_int64_wordsFault_c1_l0 s_ f (s_.length : Int) 0).bind fun o => sel o (fun b => some b) (fun c => some (-1))
noncomputable def slices_IndexFunc_int64_wordsFault_c1.G : Gam := mkG [(170, impl_wordsFault_c1.FS)]
theorem slices_IndexFunc_int64_wordsFault_c1.Gok : GOk Go.Proofs.Try.prog slices_IndexFunc_int64_wordsFault_c1.G := GOk.cons (impl_wordsFault_c1.ok) (GOk.nil)
def slices_IndexFunc_int64_wordsFault_c1.hn : Hint := ⟨[], [], [], 0⟩
noncomputable def slices_IndexFunc_int64_wordsFault_c1_l0.wit (s_ : List Int) (f : Unit) (v : Int) (o : ((Int) ⊕ (Unit))) : Ex × St := sel o (fun b => (.rt, ⟨[(4, .cl .sh (.int .i64) b)], []⟩)) (fun c => (.ex 0, ⟨[], []⟩))
theorem slices_IndexFunc_int64_wordsFault_c1_l0.eq (s_ : List Int) (f : Unit) (v : Int) (v2 : Int) : ev tb slices_IndexFunc_int64_wordsFault_c1.hn 19 2 slices_IndexFunc_int64_wordsFault_c1.G (mkL []) (codeAt (bodyOf Go.Proofs.Try.f172) [1, 0, 1, 0, 0]) (.no) ⟨[(0, .cl .sh (.sl (.int .i64)) s_), (1, .clo 170 (.cl .sh .unit f)), (7, .cl .sh (.int .i64) v), (8, .cl .sh (.int .i64) v2)], []⟩ (kLp (([0, 1, 7, 8], [])) [(0, ([], []))] ([4], [])) =
    (slices_IndexFunc_int64_wordsFault_c1_l0.B s_ f v v2).map (fun o => sel o (fun s => .inl ⟨[(0, .cl .sh (.sl (.int .i64)) s_), (1, .clo 170 (.cl .sh .unit f)), (7, .cl .sh (.int .i64) v), (8, .cl .sh (.int .i64) s)], []⟩) (fun o => .inr (slices_IndexFunc_int64_wordsFault_c1_l0.wit s_ f v o))) := by
  simp only [slices_IndexFunc_int64_wordsFault_c1_l0.B, cond_map, bind_map, sel_map, Option.map_some, Option.map_none]
  kernel_rfl
def slices_IndexFunc_int64_wordsFault_c1_l0.sp : SP := ⟨[(0, .cl .sh (.sl (.int .i64))), (1, .clo 170 (.cl .sh .unit)), (7, .cl .sh (.int .i64)), (8, .cl .sh (.int .i64))], []⟩
noncomputable def slices_IndexFunc_int64_wordsFault_c1_l0.out (s_ : List Int) (f : Unit) (v : Int) : FOut (((Int) ⊕ (Unit))) := fun o _ k => sel o (fun b => k (.rt) ⟨[(4, .cl .sh (.int .i64) b)], []⟩) (fun c => k (.ex 0) ⟨[], []⟩)
theorem slices_IndexFunc_int64_wordsFault_c1_l0.outEq (s_ : List Int) (f : Unit) (v : Int) (o : ((Int) ⊕ (Unit))) (R : Type) (k : Ex → St → Option R) : slices_IndexFunc_int64_wordsFault_c1_l0.out s_ f v o R k = k (slices_IndexFunc_int64_wordsFault_c1_l0.wit s_ f v o).1 (slices_IndexFunc_int64_wordsFault_c1_l0.wit s_ f v o).2 := by
  rcases o with o | o <;> rfl
noncomputable def slices_IndexFunc_int64_wordsFault_c1_l0.F (x : slices_IndexFunc_int64_wordsFault_c1_l0.sp.El) (R : Type) (k : Ex → St → Option R) : Option R := (slices_IndexFunc_int64_wordsFault_c1_l0 x.1.1 x.1.2.1 x.1.2.2.1 x.1.2.2.2.1).bind fun t => slices_IndexFunc_int64_wordsFault_c1_l0.out x.1.1 x.1.2.1 x.1.2.2.1 t R k
noncomputable def slices_IndexFunc_int64_wordsFault_c1_l0.fr : St → ∀ R : Type, (Ex → St → Option R) → Option R := mkFrag slices_IndexFunc_int64_wordsFault_c1_l0.sp slices_IndexFunc_int64_wordsFault_c1_l0.F
theorem slices_IndexFunc_int64_wordsFault_c1_l0.ok : CodeOk Go.Proofs.Try.prog 19 2 (.loop (codeAt (bodyOf Go.Proofs.Try.f172) [1, 0, 1, 0, 0])) slices_IndexFunc_int64_wordsFault_c1_l0.fr :=
  loop_sound (sp := slices_IndexFunc_int64_wordsFault_c1_l0.sp) rfl (F := slices_IndexFunc_int64_wordsFault_c1_l0.F) (ev_sound (hn := slices_IndexFunc_int64_wordsFault_c1.hn) (G := slices_IndexFunc_int64_wordsFault_c1.G) (L := mkL []) tbok slices_IndexFunc_int64_wordsFault_c1.Gok hmix _ (.no) (hok_of (l := []) (by kernel_rfl) trivial)) 
    fun x => ⟨_, _, fun s => slices_IndexFunc_int64_wordsFault_c1_l0.B x.1.1 x.1.2.1 x.1.2.2.1 s, fun s => ⟨[(0, .cl .sh (.sl (.int .i64)) x.1.1), (1, .clo 170 (.cl .sh .unit x.1.2.1)), (7, .cl .sh (.int .i64) x.1.2.2.1), (8, .cl .sh (.int .i64) s)], []⟩, slices_IndexFunc_int64_wordsFault_c1_l0.wit x.1.1 x.1.2.1 x.1.2.2.1, x.1.2.2.2.1, rfl, fun s => slices_IndexFunc_int64_wordsFault_c1_l0.eq x.1.1 x.1.2.1 x.1.2.2.1 s, fun R k => congrArg (fun g => (slices_IndexFunc_int64_wordsFault_c1_l0 x.1.1 x.1.2.1 x.1.2.2.1 x.1.2.2.2.1).bind g) (funext fun t => slices_IndexFunc_int64_wordsFault_c1_l0.outEq x.1.1 x.1.2.1 x.1.2.2.1 t R k)⟩
noncomputable def slices_IndexFunc_int64_wordsFault_c1.L : Lam := mkL [(0, slices_IndexFunc_int64_wordsFault_c1_l0.fr)]
def slices_IndexFunc_int64_wordsFault_c1.out (t : Int) : Out := ⟨[.cl .sh (.int .i64) t], []⟩
theorem slices_IndexFunc_int64_wordsFault_c1.eq (s_ : List Int) (f : Unit) : ev tb slices_IndexFunc_int64_wordsFault_c1.hn 19 2 slices_IndexFunc_int64_wordsFault_c1.G slices_IndexFunc_int64_wordsFault_c1.L (bodyOf Go.Proofs.Try.f172) (.two (.no) (.two (.two (.no) (.one (.fr 0))) (.no))) (initSt [.cl .sh (.sl (.int .i64)) s_, .clo 170 (.cl .sh .unit f)]) (kfin tb slices_IndexFunc_int64_wordsFault_c1.hn Go.Proofs.Try.f172 [.sh, .sh]) =
    (slices_IndexFunc_int64_wordsFault_c1 s_ f).map slices_IndexFunc_int64_wordsFault_c1.out := by
  simp only [slices_IndexFunc_int64_wordsFault_c1, cond_map, bind_map, sel_map, Option.map_some, Option.map_none]
  kernel_rfl
def slices_IndexFunc_int64_wordsFault_c1.pts : List PT := [.cl .sh (.sl (.int .i64)), .clo 170 (.cl .sh .unit)]
noncomputable def slices_IndexFunc_int64_wordsFault_c1.FS : FS := mkFS [.sh, .sh] slices_IndexFunc_int64_wordsFault_c1.pts (fun x => slices_IndexFunc_int64_wordsFault_c1 x.1 x.2.1) slices_IndexFunc_int64_wordsFault_c1.out
theorem slices_IndexFunc_int64_wordsFault_c1.ok : FsOk Go.Proofs.Try.prog 172 slices_IndexFunc_int64_wordsFault_c1.FS :=
  fs_ok (fn := Go.Proofs.Try.f172) tbok (by kernel_rfl) (body_some (by kernel_rfl)) (by kernel_rfl) (pts := slices_IndexFunc_int64_wordsFault_c1.pts) (ev_sound (nt := 19) (np := 2) (hn := slices_IndexFunc_int64_wordsFault_c1.hn) (G := slices_IndexFunc_int64_wordsFault_c1.G) (L := slices_IndexFunc_int64_wordsFault_c1.L) tbok slices_IndexFunc_int64_wordsFault_c1.Gok hmix _ (.two (.no) (.two (.two (.no) (.one (.fr 0))) (.no))) (hok_of (l := [(0, .loop (codeAt (bodyOf Go.Proofs.Try.f172) [1, 0, 1, 0, 0]))]) (by kernel_rfl) ⟨Lam.cons slices_IndexFunc_int64_wordsFault_c1_l0.ok, trivial⟩)) rfl rfl
    fun x => slices_IndexFunc_int64_wordsFault_c1.eq x.1 x.2.1
noncomputable def slices_ContainsFunc_int64_wordsFault_c1 (s_ : List Int) (f : Unit) : Option (Bool) :=
  (slices_IndexFunc_int64_wordsFault_c1 s_ f).bind fun r => some (decide (r ≥ 0))
noncomputable def slices_ContainsFunc_int64_wordsFault_c1.G : Gam := mkG [(172, slices_IndexFunc_int64_wordsFault_c1.FS)]
theorem slices_ContainsFunc_int64_wordsFault_c1.Gok : GOk Go.Proofs.Try.prog slices_ContainsFunc_int64_wordsFault_c1.G := GOk.cons (slices_IndexFunc_int64_wordsFault_c1.ok) (GOk.nil)
def slices_ContainsFunc_int64_wordsFault_c1.hn : Hint := ⟨[], [], [], 0⟩
noncomputable def slices_ContainsFunc_int64_wordsFault_c1.L : Lam := mkL []
def slices_ContainsFunc_int64_wordsFault_c1.out (t : Bool) : Out := ⟨[.cl .sh .bool t], []⟩
theorem slices_ContainsFunc_int64_wordsFault_c1.eq (s_ : List Int) (f : Unit) : ev tb slices_ContainsFunc_int64_wordsFault_c1.hn 9 2 slices_ContainsFunc_int64_wordsFault_c1.G slices_ContainsFunc_int64_wordsFault_c1.L (bodyOf Go.Proofs.Try.f149) (.no) (initSt [.cl .sh (.sl (.int .i64)) s_, .clo 170 (.cl .sh .unit f)]) (kfin tb slices_ContainsFunc_int64_wordsFault_c1.hn Go.Proofs.Try.f149 [.sh, .sh]) =
    (slices_ContainsFunc_int64_wordsFault_c1 s_ f).map slices_ContainsFunc_int64_wordsFault_c1.out := by
  simp only [slices_ContainsFunc_int64_wordsFault_c1, cond_map, bind_map, sel_map, Option.map_some, Option.map_none]
  kernel_rfl
def slices_ContainsFunc_int64_wordsFault_c1.pts : List PT := [.cl .sh (.sl (.int .i64)), .clo 170 (.cl .sh .unit)]
noncomputable def slices_ContainsFunc_int64_wordsFault_c1.FS : FS := mkFS [.sh, .sh] slices_ContainsFunc_int64_wordsFault_c1.pts (fun x => slices_ContainsFunc_int64_wordsFault_c1 x.1 x.2.1) slices_ContainsFunc_int64_wordsFault_c1.out
theorem slices_ContainsFunc_int64_wordsFault_c1.ok : FsOk Go.Proofs.Try.prog 149 slices_ContainsFunc_int64_wordsFault_c1.FS :=
  fs_ok (fn := Go.Proofs.Try.f149) tbok (by kernel_rfl) (body_some (by kernel_rfl)) (by kernel_rfl) (pts := slices_ContainsFunc_int64_wordsFault_c1.pts) (ev_sound (nt := 9) (np := 2) (hn := slices_ContainsFunc_int64_wordsFault_c1.hn) (G := slices_ContainsFunc_int64_wordsFault_c1.G) (L := slices_ContainsFunc_int64_wordsFault_c1.L) tbok slices_ContainsFunc_int64_wordsFault_c1.Gok hmix _ (.no) (hok_of (l := []) (by kernel_rfl) trivial)) rfl rfl
    fun x => slices_ContainsFunc_int64_wordsFault_c1.eq x.1 x.2.1
noncomputable def impl_wordsFault (words : List Int) : Option (Int) :=
  cond (decide ((words.length : Int) > 64)) (some 2) ((slices_ContainsFunc_int64_wordsFault_c1 words ()).bind fun r => cond r (some 3) (some 0))
noncomputable def impl_wordsFault.G : Gam := mkG [(149, slices_ContainsFunc_int64_wordsFault_c1.FS)]
theorem impl_wordsFault.Gok : GOk Go.Proofs.Try.prog impl_wordsFault.G := GOk.cons (slices_ContainsFunc_int64_wordsFault_c1.ok) (GOk.nil)
def impl_wordsFault.hn : Hint := ⟨[], [], [], 0⟩
noncomputable def impl_wordsFault.L : Lam := mkL []
def impl_wordsFault.out (t : Int) : Out := ⟨[.cl .sh (.int .i64) t], []⟩
theorem impl_wordsFault.eq (words : List Int) : ev tb impl_wordsFault.hn 10 1 impl_wordsFault.G impl_wordsFault.L (bodyOf Go.Proofs.Try.f135) (.no) (initSt [.cl .sh (.sl (.int .i64)) words]) (kfin tb impl_wordsFault.hn Go.Proofs.Try.f135 [.sh]) =
    (impl_wordsFault words).map impl_wordsFault.out := by
  simp only [impl_wordsFault, cond_map, bind_map, sel_map, Option.map_some, Option.map_none]
  kernel_rfl
def impl_wordsFault.pts : List PT := [.cl .sh (.sl (.int .i64))]
noncomputable def impl_wordsFault.FS : FS := mkFS [.sh] impl_wordsFault.pts (fun x => impl_wordsFault x.1) impl_wordsFault.out
theorem impl_wordsFault.ok : FsOk Go.Proofs.Try.prog 135 impl_wordsFault.FS :=
  fs_ok (fn := Go.Proofs.Try.f135) tbok (by kernel_rfl) (body_some (by kernel_rfl)) (by kernel_rfl) (pts := impl_wordsFault.pts) (ev_sound (nt := 10) (np := 1) (hn := impl_wordsFault.hn) (G := impl_wordsFault.G) (L := impl_wordsFault.L) tbok impl_wordsFault.Gok hmix _ (.no) (hok_of (l := []) (by kernel_rfl) trivial)) rfl rfl
    fun x => impl_wordsFault.eq x.1
noncomputable def impl_stepFault (x : Step_) : Option (Int) :=
  (some (cond x.1 (cond (x.2.1 != 0) true (decide ((x.2.2.1.length : Int) > 0))) false)).bind fun v => cond v (some 1) ((impl_within x.2.1 0 46).bind fun r => cond (!r) (some 3) ((impl_wordsFault x.2.2.1).bind fun r2 => some r2))
noncomputable def impl_stepFault.G : Gam := mkG [(95, impl_within.FS), (135, impl_wordsFault.FS)]
theorem impl_stepFault.Gok : GOk Go.Proofs.Try.prog impl_stepFault.G := GOk.cons (impl_within.ok) (GOk.cons (impl_wordsFault.ok) (GOk.nil))
def impl_stepFault.hn : Hint := ⟨[1], [], [], 0⟩
noncomputable def impl_stepFault.L : Lam := mkL []
def impl_stepFault.out (t : Int) : Out := ⟨[.cl .sh (.int .i64) t], []⟩
theorem impl_stepFault.eq (x : Step_) : ev tb impl_stepFault.hn 25 1 impl_stepFault.G impl_stepFault.L (bodyOf Go.Proofs.Try.f82) (.no) (initSt [.cl .sh tStep_ x]) (kfin tb impl_stepFault.hn Go.Proofs.Try.f82 [.sh]) =
    (impl_stepFault x).map impl_stepFault.out := by
  simp only [impl_stepFault, cond_map, bind_map, sel_map, Option.map_some, Option.map_none]
  kernel_rfl
def impl_stepFault.pts : List PT := [.cl .sh tStep_]
noncomputable def impl_stepFault.FS : FS := mkFS [.sh] impl_stepFault.pts (fun x => impl_stepFault x.1) impl_stepFault.out
theorem impl_stepFault.ok : FsOk Go.Proofs.Try.prog 82 impl_stepFault.FS :=
  fs_ok (fn := Go.Proofs.Try.f82) tbok (by kernel_rfl) (body_some (by kernel_rfl)) (by kernel_rfl) (pts := impl_stepFault.pts) (ev_sound (nt := 25) (np := 1) (hn := impl_stepFault.hn) (G := impl_stepFault.G) (L := impl_stepFault.L) tbok impl_stepFault.Gok hmix _ (.no) (hok_of (l := []) (by kernel_rfl) trivial)) rfl rfl
    fun x => impl_stepFault.eq x.1
noncomputable def impl_stepsFault_l0.B (list : List Step_) (v : Int) (v2 : Int) : Option ((Int) ⊕ (((Int) ⊕ (Unit)))) :=
  cond (decide (v2 < v)) (cond (inB v2 list.length) ((impl_stepFault (list.getD v2.toNat zStep_)).bind fun r => cond (r != 0) (some (.inr (.inl r))) (some (.inl (w64 (v2 + 1))))) (none)) (some (.inr (.inr ())))
noncomputable def impl_stepsFault_l0 (list : List Step_) (v : Int) : (Int) → Option (((Int) ⊕ (Unit))) :=
  loopL fun s => impl_stepsFault_l0.B list v s
noncomputable def impl_stepsFault (list : List Step_) : Option (Int) :=
  cond (decide ((list.length : Int) > 120)) (some 2) ((impl_stepsFault_l0 list (list.length : Int) 0).bind fun o => sel o (fun b => some b) (fun c => some 0))
noncomputable def impl_stepsFault.G : Gam := mkG [(82, impl_stepFault.FS)]
theorem impl_stepsFault.Gok : GOk Go.Proofs.Try.prog impl_stepsFault.G := GOk.cons (impl_stepFault.ok) (GOk.nil)
def impl_stepsFault.hn : Hint := ⟨[], [], [], 0⟩
noncomputable def impl_stepsFault_l0.wit (list : List Step_) (v : Int) (o : ((Int) ⊕ (Unit))) : Ex × St := sel o (fun b => (.rt, ⟨[(2, .cl .sh (.int .i64) b)], []⟩)) (fun c => (.ex 0, ⟨[], []⟩))
theorem impl_stepsFault_l0.eq (list : List Step_) (v : Int) (v2 : Int) : ev tb impl_stepsFault.hn 21 1 impl_stepsFault.G (mkL []) (codeAt (bodyOf Go.Proofs.Try.f92) [1, 1, 0, 1, 0, 0]) (.no) ⟨[(9, .cl .sh (.sl tStep_) list), (10, .cl .sh (.int .i64) v), (11, .cl .sh (.int .i64) v2)], []⟩ (kLp (([9, 10, 11], [])) [(0, ([], []))] ([2], [])) =
    (impl_stepsFault_l0.B list v v2).map (fun o => sel o (fun s => .inl ⟨[(9, .cl .sh (.sl tStep_) list), (10, .cl .sh (.int .i64) v), (11, .cl .sh (.int .i64) s)], []⟩) (fun o => .inr (impl_stepsFault_l0.wit list v o))) := by
  simp only [impl_stepsFault_l0.B, cond_map, bind_map, sel_map, Option.map_some, Option.map_none]
  kernel_rfl
def impl_stepsFault_l0.sp : SP := ⟨[(9, .cl .sh (.sl tStep_)), (10, .cl .sh (.int .i64)), (11, .cl .sh (.int .i64))], []⟩
noncomputable def impl_stepsFault_l0.out (list : List Step_) (v : Int) : FOut (((Int) ⊕ (Unit))) := fun o _ k => sel o (fun b => k (.rt) ⟨[(2, .cl .sh (.int .i64) b)], []⟩) (fun c => k (.ex 0) ⟨[], []⟩)
theorem impl_stepsFault_l0.outEq (list : List Step_) (v : Int) (o : ((Int) ⊕ (Unit))) (R : Type) (k : Ex → St → Option R) : impl_stepsFault_l0.out list v o R k = k (impl_stepsFault_l0.wit list v o).1 (impl_stepsFault_l0.wit list v o).2 := by
  rcases o with o | o <;> rfl
noncomputable def impl_stepsFault_l0.F (x : impl_stepsFault_l0.sp.El) (R : Type) (k : Ex → St → Option R) : Option R := (impl_stepsFault_l0 x.1.1 x.1.2.1 x.1.2.2.1).bind fun t => impl_stepsFault_l0.out x.1.1 x.1.2.1 t R k
noncomputable def impl_stepsFault_l0.fr : St → ∀ R : Type, (Ex → St → Option R) → Option R := mkFrag impl_stepsFault_l0.sp impl_stepsFault_l0.F
theorem impl_stepsFault_l0.ok : CodeOk Go.Proofs.Try.prog 21 1 (.loop (codeAt (bodyOf Go.Proofs.Try.f92) [1, 1, 0, 1, 0, 0])) impl_stepsFault_l0.fr :=
  loop_sound (sp := impl_stepsFault_l0.sp) rfl (F := impl_stepsFault_l0.F) (ev_sound (hn := impl_stepsFault.hn) (G := impl_stepsFault.G) (L := mkL []) tbok impl_stepsFault.Gok hmix _ (.no) (hok_of (l := []) (by kernel_rfl) trivial)) 
    fun x => ⟨_, _, fun s => impl_stepsFault_l0.B x.1.1 x.1.2.1 s, fun s => ⟨[(9, .cl .sh (.sl tStep_) x.1.1), (10, .cl .sh (.int .i64) x.1.2.1), (11, .cl .sh (.int .i64) s)], []⟩, impl_stepsFault_l0.wit x.1.1 x.1.2.1, x.1.2.2.1, rfl, fun s => impl_stepsFault_l0.eq x.1.1 x.1.2.1 s, fun R k => congrArg (fun g => (impl_stepsFault_l0 x.1.1 x.1.2.1 x.1.2.2.1).bind g) (funext fun t => impl_stepsFault_l0.outEq x.1.1 x.1.2.1 t R k)⟩
noncomputable def impl_stepsFault.L : Lam := mkL [(0, impl_stepsFault_l0.fr)]
def impl_stepsFault.out (t : Int) : Out := ⟨[.cl .sh (.int .i64) t], []⟩
theorem impl_stepsFault.eq (list : List Step_) : ev tb impl_stepsFault.hn 21 1 impl_stepsFault.G impl_stepsFault.L (bodyOf Go.Proofs.Try.f92) (.two (.no) (.two (.no) (.two (.two (.no) (.one (.fr 0))) (.no)))) (initSt [.cl .sh (.sl tStep_) list]) (kfin tb impl_stepsFault.hn Go.Proofs.Try.f92 [.sh]) =
    (impl_stepsFault list).map impl_stepsFault.out := by
  simp only [impl_stepsFault, cond_map, bind_map, sel_map, Option.map_some, Option.map_none]
  kernel_rfl
def impl_stepsFault.pts : List PT := [.cl .sh (.sl tStep_)]
noncomputable def impl_stepsFault.FS : FS := mkFS [.sh] impl_stepsFault.pts (fun x => impl_stepsFault x.1) impl_stepsFault.out
theorem impl_stepsFault.ok : FsOk Go.Proofs.Try.prog 92 impl_stepsFault.FS :=
  fs_ok (fn := Go.Proofs.Try.f92) tbok (by kernel_rfl) (body_some (by kernel_rfl)) (by kernel_rfl) (pts := impl_stepsFault.pts) (ev_sound (nt := 21) (np := 1) (hn := impl_stepsFault.hn) (G := impl_stepsFault.G) (L := impl_stepsFault.L) tbok impl_stepsFault.Gok hmix _ (.two (.no) (.two (.no) (.two (.two (.no) (.one (.fr 0))) (.no)))) (hok_of (l := [(0, .loop (codeAt (bodyOf Go.Proofs.Try.f92) [1, 1, 0, 1, 0, 0]))]) (by kernel_rfl) ⟨Lam.cons impl_stepsFault_l0.ok, trivial⟩)) rfl rfl
    fun x => impl_stepsFault.eq x.1
noncomputable def impl_CommitAt_c1 (x : Step_) : Option (Bool) :=
  cond (!x.1) ((impl_within x.2.1 1 16).bind fun r => cond (cond (cond r ((x.2.2.1.length : Int) == 3) false) (inB 0 x.2.2.1.length) true) ((some (cond (cond r ((x.2.2.1.length : Int) == 3) false) ((x.2.2.1.getD (0 : Int).toNat 0) == 2) false)).bind fun v => some v) (none)) (cond (cond (cond false ((x.2.2.1.length : Int) == 3) false) (inB 0 x.2.2.1.length) true) ((some (cond (cond false ((x.2.2.1.length : Int) == 3) false) ((x.2.2.1.getD (0 : Int).toNat 0) == 2) false)).bind fun v2 => some v2) (none))
noncomputable def impl_CommitAt_c1.G : Gam := mkG [(95, impl_within.FS)]
theorem impl_CommitAt_c1.Gok : GOk Go.Proofs.Try.prog impl_CommitAt_c1.G := GOk.cons (impl_within.ok) (GOk.nil)
def impl_CommitAt_c1.hn : Hint := ⟨[1], [], [], 0⟩
noncomputable def impl_CommitAt_c1.L : Lam := mkL []
def impl_CommitAt_c1.out (t : Bool) : Out := ⟨[.cl .sh .bool t], []⟩
theorem impl_CommitAt_c1.eq (x : Step_) : ev tb impl_CommitAt_c1.hn 24 1 impl_CommitAt_c1.G impl_CommitAt_c1.L (bodyOf Go.Proofs.Try.f94) (.no) (initSt [.cl .sh tStep_ x]) (kfin tb impl_CommitAt_c1.hn Go.Proofs.Try.f94 [.sh]) =
    (impl_CommitAt_c1 x).map impl_CommitAt_c1.out := by
  simp only [impl_CommitAt_c1, cond_map, bind_map, sel_map, Option.map_some, Option.map_none]
  kernel_rfl
def impl_CommitAt_c1.pts : List PT := [.cl .sh tStep_]
noncomputable def impl_CommitAt_c1.FS : FS := mkFS [.sh] impl_CommitAt_c1.pts (fun x => impl_CommitAt_c1 x.1) impl_CommitAt_c1.out
theorem impl_CommitAt_c1.ok : FsOk Go.Proofs.Try.prog 94 impl_CommitAt_c1.FS :=
  fs_ok (fn := Go.Proofs.Try.f94) tbok (by kernel_rfl) (body_some (by kernel_rfl)) (by kernel_rfl) (pts := impl_CommitAt_c1.pts) (ev_sound (nt := 24) (np := 1) (hn := impl_CommitAt_c1.hn) (G := impl_CommitAt_c1.G) (L := impl_CommitAt_c1.L) tbok impl_CommitAt_c1.Gok hmix _ (.no) (hok_of (l := []) (by kernel_rfl) trivial)) rfl rfl
    fun x => impl_CommitAt_c1.eq x.1
noncomputable def slices_IndexFunc_Step_CommitAt_c1_l0.B (s_ : List Step_) (f : Unit) (v : Int) (v2 : Int) : Option ((Int) ⊕ (((Int) ⊕ (Unit)))) :=
  cond (decide (v2 < v)) (cond (inB v2 s_.length) ((impl_CommitAt_c1 (s_.getD v2.toNat zStep_)).bind fun r => cond r (some (.inr (.inl v2))) (some (.inl (w64 (v2 + 1))))) (none)) (some (.inr (.inr ())))
noncomputable def slices_IndexFunc_Step_CommitAt_c1_l0 (s_ : List Step_) (f : Unit) (v : Int) : (Int) → Option (((Int) ⊕ (Unit))) :=
  loopL fun s => slices_IndexFunc_Step_CommitAt_c1_l0.B s_ f v s
noncomputable def slices_IndexFunc_Step_CommitAt_c1 (s_ : List Step_) (f : Unit) : Option (Int) :=
  (slices_IndexFunc_Step_CommitAt_c1_l0 s_ f (s_.length : Int) 0).bind fun o => sel o (fun b => some b) (fun c => some (-1))
noncomputable def slices_IndexFunc_Step_CommitAt_c1.G : Gam := mkG [(94, impl_CommitAt_c1.FS)]
theorem slices_IndexFunc_Step_CommitAt_c1.Gok : GOk Go.Proofs.Try.prog slices_IndexFunc_Step_CommitAt_c1.G := GOk.cons (impl_CommitAt_c1.ok) (GOk.nil)
def slices_IndexFunc_Step_CommitAt_c1.hn : Hint := ⟨[], [], [], 0⟩
noncomputable def slices_IndexFunc_Step_CommitAt_c1_l0.wit (s_ : List Step_) (f : Unit) (v : Int) (o : ((Int) ⊕ (Unit))) : Ex × St := sel o (fun b => (.rt, ⟨[(4, .cl .sh (.int .i64) b)], []⟩)) (fun c => (.ex 0, ⟨[], []⟩))
theorem slices_IndexFunc_Step_CommitAt_c1_l0.eq (s_ : List Step_) (f : Unit) (v : Int) (v2 : Int) : ev tb slices_IndexFunc_Step_CommitAt_c1.hn 19 2 slices_IndexFunc_Step_CommitAt_c1.G (mkL []) (codeAt (bodyOf Go.Proofs.Try.f93) [1, 0, 1, 0, 0]) (.no) ⟨[(0, .cl .sh (.sl tStep_) s_), (1, .clo 94 (.cl .sh .unit f)), (7, .cl .sh (.int .i64) v), (8, .cl .sh (.int .i64) v2)], []⟩ (kLp (([0, 1, 7, 8], [])) [(0, ([], []))] ([4], [])) =
    (slices_IndexFunc_Step_CommitAt_c1_l0.B s_ f v v2).map (fun o => sel o (fun s => .inl ⟨[(0, .cl .sh (.sl tStep_) s_), (1, .clo 94 (.cl .sh .unit f)), (7, .cl .sh (.int .i64) v), (8, .cl .sh (.int .i64) s)], []⟩) (fun o => .inr (slices_IndexFunc_Step_CommitAt_c1_l0.wit s_ f v o))) := by
  simp only [slices_IndexFunc_Step_CommitAt_c1_l0.B, cond_map, bind_map, sel_map, Option.map_some, Option.map_none]
  kernel_rfl
def slices_IndexFunc_Step_CommitAt_c1_l0.sp : SP := ⟨[(0, .cl .sh (.sl tStep_)), (1, .clo 94 (.cl .sh .unit)), (7, .cl .sh (.int .i64)), (8, .cl .sh (.int .i64))], []⟩
noncomputable def slices_IndexFunc_Step_CommitAt_c1_l0.out (s_ : List Step_) (f : Unit) (v : Int) : FOut (((Int) ⊕ (Unit))) := fun o _ k => sel o (fun b => k (.rt) ⟨[(4, .cl .sh (.int .i64) b)], []⟩) (fun c => k (.ex 0) ⟨[], []⟩)
theorem slices_IndexFunc_Step_CommitAt_c1_l0.outEq (s_ : List Step_) (f : Unit) (v : Int) (o : ((Int) ⊕ (Unit))) (R : Type) (k : Ex → St → Option R) : slices_IndexFunc_Step_CommitAt_c1_l0.out s_ f v o R k = k (slices_IndexFunc_Step_CommitAt_c1_l0.wit s_ f v o).1 (slices_IndexFunc_Step_CommitAt_c1_l0.wit s_ f v o).2 := by
  rcases o with o | o <;> rfl
noncomputable def slices_IndexFunc_Step_CommitAt_c1_l0.F (x : slices_IndexFunc_Step_CommitAt_c1_l0.sp.El) (R : Type) (k : Ex → St → Option R) : Option R := (slices_IndexFunc_Step_CommitAt_c1_l0 x.1.1 x.1.2.1 x.1.2.2.1 x.1.2.2.2.1).bind fun t => slices_IndexFunc_Step_CommitAt_c1_l0.out x.1.1 x.1.2.1 x.1.2.2.1 t R k
noncomputable def slices_IndexFunc_Step_CommitAt_c1_l0.fr : St → ∀ R : Type, (Ex → St → Option R) → Option R := mkFrag slices_IndexFunc_Step_CommitAt_c1_l0.sp slices_IndexFunc_Step_CommitAt_c1_l0.F
theorem slices_IndexFunc_Step_CommitAt_c1_l0.ok : CodeOk Go.Proofs.Try.prog 19 2 (.loop (codeAt (bodyOf Go.Proofs.Try.f93) [1, 0, 1, 0, 0])) slices_IndexFunc_Step_CommitAt_c1_l0.fr :=
  loop_sound (sp := slices_IndexFunc_Step_CommitAt_c1_l0.sp) rfl (F := slices_IndexFunc_Step_CommitAt_c1_l0.F) (ev_sound (hn := slices_IndexFunc_Step_CommitAt_c1.hn) (G := slices_IndexFunc_Step_CommitAt_c1.G) (L := mkL []) tbok slices_IndexFunc_Step_CommitAt_c1.Gok hmix _ (.no) (hok_of (l := []) (by kernel_rfl) trivial)) 
    fun x => ⟨_, _, fun s => slices_IndexFunc_Step_CommitAt_c1_l0.B x.1.1 x.1.2.1 x.1.2.2.1 s, fun s => ⟨[(0, .cl .sh (.sl tStep_) x.1.1), (1, .clo 94 (.cl .sh .unit x.1.2.1)), (7, .cl .sh (.int .i64) x.1.2.2.1), (8, .cl .sh (.int .i64) s)], []⟩, slices_IndexFunc_Step_CommitAt_c1_l0.wit x.1.1 x.1.2.1 x.1.2.2.1, x.1.2.2.2.1, rfl, fun s => slices_IndexFunc_Step_CommitAt_c1_l0.eq x.1.1 x.1.2.1 x.1.2.2.1 s, fun R k => congrArg (fun g => (slices_IndexFunc_Step_CommitAt_c1_l0 x.1.1 x.1.2.1 x.1.2.2.1 x.1.2.2.2.1).bind g) (funext fun t => slices_IndexFunc_Step_CommitAt_c1_l0.outEq x.1.1 x.1.2.1 x.1.2.2.1 t R k)⟩
noncomputable def slices_IndexFunc_Step_CommitAt_c1.L : Lam := mkL [(0, slices_IndexFunc_Step_CommitAt_c1_l0.fr)]
def slices_IndexFunc_Step_CommitAt_c1.out (t : Int) : Out := ⟨[.cl .sh (.int .i64) t], []⟩
theorem slices_IndexFunc_Step_CommitAt_c1.eq (s_ : List Step_) (f : Unit) : ev tb slices_IndexFunc_Step_CommitAt_c1.hn 19 2 slices_IndexFunc_Step_CommitAt_c1.G slices_IndexFunc_Step_CommitAt_c1.L (bodyOf Go.Proofs.Try.f93) (.two (.no) (.two (.two (.no) (.one (.fr 0))) (.no))) (initSt [.cl .sh (.sl tStep_) s_, .clo 94 (.cl .sh .unit f)]) (kfin tb slices_IndexFunc_Step_CommitAt_c1.hn Go.Proofs.Try.f93 [.sh, .sh]) =
    (slices_IndexFunc_Step_CommitAt_c1 s_ f).map slices_IndexFunc_Step_CommitAt_c1.out := by
  simp only [slices_IndexFunc_Step_CommitAt_c1, cond_map, bind_map, sel_map, Option.map_some, Option.map_none]
  kernel_rfl
def slices_IndexFunc_Step_CommitAt_c1.pts : List PT := [.cl .sh (.sl tStep_), .clo 94 (.cl .sh .unit)]
noncomputable def slices_IndexFunc_Step_CommitAt_c1.FS : FS := mkFS [.sh, .sh] slices_IndexFunc_Step_CommitAt_c1.pts (fun x => slices_IndexFunc_Step_CommitAt_c1 x.1 x.2.1) slices_IndexFunc_Step_CommitAt_c1.out
theorem slices_IndexFunc_Step_CommitAt_c1.ok : FsOk Go.Proofs.Try.prog 93 slices_IndexFunc_Step_CommitAt_c1.FS :=
  fs_ok (fn := Go.Proofs.Try.f93) tbok (by kernel_rfl) (body_some (by kernel_rfl)) (by kernel_rfl) (pts := slices_IndexFunc_Step_CommitAt_c1.pts) (ev_sound (nt := 19) (np := 2) (hn := slices_IndexFunc_Step_CommitAt_c1.hn) (G := slices_IndexFunc_Step_CommitAt_c1.G) (L := slices_IndexFunc_Step_CommitAt_c1.L) tbok slices_IndexFunc_Step_CommitAt_c1.Gok hmix _ (.two (.no) (.two (.two (.no) (.one (.fr 0))) (.no))) (hok_of (l := [(0, .loop (codeAt (bodyOf Go.Proofs.Try.f93) [1, 0, 1, 0, 0]))]) (by kernel_rfl) ⟨Lam.cons slices_IndexFunc_Step_CommitAt_c1_l0.ok, trivial⟩)) rfl rfl
    fun x => slices_IndexFunc_Step_CommitAt_c1.eq x.1 x.2.1
noncomputable def impl_CommitAt_l0.B (list : List Step_) (v : IntResult_) (at_ : Int) : Option ((Int) ⊕ (Int)) :=
  cond (cond (decide (at_ < (list.length : Int))) (inB at_ list.length) true) ((some (cond (decide (at_ < (list.length : Int))) (!((list.getD at_.toNat zStep_).1)) false)).bind fun v2 => cond v2 (some (.inl (w64 (at_ + 1)))) (some (.inr at_))) (none)
noncomputable def impl_CommitAt_l0 (list : List Step_) (v : IntResult_) : (Int) → Option (Int) :=
  loopL fun s => impl_CommitAt_l0.B list v s
noncomputable def impl_CommitAt (list : List Step_) : Option (IntResult_) :=
  (impl_stepsFault list).bind fun r => cond (r != 0) (some (r, 0, ())) ((slices_IndexFunc_Step_CommitAt_c1 list ()).bind fun r2 => cond (decide (r2 < 0)) (some (4, 0, ())) ((impl_CommitAt_l0 list (0, 0, ()) r2).bind fun o => some (0, o, ())))
noncomputable def impl_CommitAt.G : Gam := mkG [(92, impl_stepsFault.FS), (93, slices_IndexFunc_Step_CommitAt_c1.FS)]
theorem impl_CommitAt.Gok : GOk Go.Proofs.Try.prog impl_CommitAt.G := GOk.cons (impl_stepsFault.ok) (GOk.cons (slices_IndexFunc_Step_CommitAt_c1.ok) (GOk.nil))
def impl_CommitAt.hn : Hint := ⟨[], [], [], 0⟩
noncomputable def impl_CommitAt_l0.wit (list : List Step_) (v : IntResult_) (b : Int) : Ex × St := (.ex 0, ⟨[(2, .loc 2 []), (4, .cl .sh (.int .i64) b)], [(2, some ⟨.mem, .cl .deep tIntResult_ v⟩)]⟩)
theorem impl_CommitAt_l0.eq (list : List Step_) (v : IntResult_) (at_ : Int) : ev tb impl_CommitAt.hn 32 1 impl_CommitAt.G (mkL []) (codeAt (bodyOf Go.Proofs.Try.f32) [1, 1, 1, 1, 0, 0, 0]) (.no) ⟨[(0, .cl .sh (.sl tStep_) list), (2, .loc 2 []), (4, .cl .sh (.int .i64) at_)], [(2, some ⟨.mem, .cl .deep tIntResult_ v⟩)]⟩ (kLp (([0, 2, 4], [2])) [(0, ([2, 4], [2]))] ([], [])) =
    (impl_CommitAt_l0.B list v at_).map (fun o => sel o (fun s => .inl ⟨[(0, .cl .sh (.sl tStep_) list), (2, .loc 2 []), (4, .cl .sh (.int .i64) s)], [(2, some ⟨.mem, .cl .deep tIntResult_ v⟩)]⟩) (fun b => .inr (impl_CommitAt_l0.wit list v b))) := by
  simp only [impl_CommitAt_l0.B, cond_map, bind_map, sel_map, Option.map_some, Option.map_none]
  kernel_rfl
def impl_CommitAt_l0.sp : SP := ⟨[(0, .cl .sh (.sl tStep_)), (2, .loc 2 []), (4, .cl .sh (.int .i64))], [(2, .mem, .cl .deep tIntResult_)]⟩
noncomputable def impl_CommitAt_l0.out (list : List Step_) (v : IntResult_) : FOut (Int) := fun b _ k => k (.ex 0) ⟨[(2, .loc 2 []), (4, .cl .sh (.int .i64) b)], [(2, some ⟨.mem, .cl .deep tIntResult_ v⟩)]⟩
theorem impl_CommitAt_l0.outEq (list : List Step_) (v : IntResult_) (o : Int) (R : Type) (k : Ex → St → Option R) : impl_CommitAt_l0.out list v o R k = k (impl_CommitAt_l0.wit list v o).1 (impl_CommitAt_l0.wit list v o).2 := by
  rfl
noncomputable def impl_CommitAt_l0.F (x : impl_CommitAt_l0.sp.El) (R : Type) (k : Ex → St → Option R) : Option R := (impl_CommitAt_l0 x.1.1 x.2.1 x.1.2.2.1).bind fun t => impl_CommitAt_l0.out x.1.1 x.2.1 t R k
noncomputable def impl_CommitAt_l0.fr : St → ∀ R : Type, (Ex → St → Option R) → Option R := mkFrag impl_CommitAt_l0.sp impl_CommitAt_l0.F
theorem impl_CommitAt_l0.ok : CodeOk Go.Proofs.Try.prog 32 1 (.loop (codeAt (bodyOf Go.Proofs.Try.f32) [1, 1, 1, 1, 0, 0, 0])) impl_CommitAt_l0.fr :=
  loop_sound (sp := impl_CommitAt_l0.sp) rfl (F := impl_CommitAt_l0.F) (ev_sound (hn := impl_CommitAt.hn) (G := impl_CommitAt.G) (L := mkL []) tbok impl_CommitAt.Gok hmix _ (.no) (hok_of (l := []) (by kernel_rfl) trivial)) 
    fun x => ⟨_, _, fun s => impl_CommitAt_l0.B x.1.1 x.2.1 s, fun s => ⟨[(0, .cl .sh (.sl tStep_) x.1.1), (2, .loc 2 []), (4, .cl .sh (.int .i64) s)], [(2, some ⟨.mem, .cl .deep tIntResult_ x.2.1⟩)]⟩, impl_CommitAt_l0.wit x.1.1 x.2.1, x.1.2.2.1, rfl, fun s => impl_CommitAt_l0.eq x.1.1 x.2.1 s, fun R k => congrArg (fun g => (impl_CommitAt_l0 x.1.1 x.2.1 x.1.2.2.1).bind g) (funext fun t => impl_CommitAt_l0.outEq x.1.1 x.2.1 t R k)⟩
noncomputable def impl_CommitAt.L : Lam := mkL [(0, impl_CommitAt_l0.fr)]
def impl_CommitAt.out (t : IntResult_) : Out := ⟨[.cl .sh tIntResult_ t], []⟩
theorem impl_CommitAt.eq (list : List Step_) : ev tb impl_CommitAt.hn 32 1 impl_CommitAt.G impl_CommitAt.L (bodyOf Go.Proofs.Try.f32) (.two (.no) (.two (.no) (.two (.no) (.two (.no) (.two (.one (.fr 0)) (.no)))))) (initSt [.cl .sh (.sl tStep_) list]) (kfin tb impl_CommitAt.hn Go.Proofs.Try.f32 [.sh]) =
    (impl_CommitAt list).map impl_CommitAt.out := by
  simp only [impl_CommitAt, cond_map, bind_map, sel_map, Option.map_some, Option.map_none]
  kernel_rfl
def impl_CommitAt.pts : List PT := [.cl .sh (.sl tStep_)]
noncomputable def impl_CommitAt.FS : FS := mkFS [.sh] impl_CommitAt.pts (fun x => impl_CommitAt x.1) impl_CommitAt.out
theorem impl_CommitAt.ok : FsOk Go.Proofs.Try.prog 32 impl_CommitAt.FS :=
  fs_ok (fn := Go.Proofs.Try.f32) tbok (by kernel_rfl) (body_some (by kernel_rfl)) (by kernel_rfl) (pts := impl_CommitAt.pts) (ev_sound (nt := 32) (np := 1) (hn := impl_CommitAt.hn) (G := impl_CommitAt.G) (L := impl_CommitAt.L) tbok impl_CommitAt.Gok hmix _ (.two (.no) (.two (.no) (.two (.no) (.two (.no) (.two (.one (.fr 0)) (.no)))))) (hok_of (l := [(0, .loop (codeAt (bodyOf Go.Proofs.Try.f32) [1, 1, 1, 1, 0, 0, 0]))]) (by kernel_rfl) ⟨Lam.cons impl_CommitAt_l0.ok, trivial⟩)) rfl rfl
    fun x => impl_CommitAt.eq x.1
noncomputable def laws_eqIntResult (a : IntResult_) (b : IntResult_) : Option (Bool) :=
  cond (a.1 != b.1) (some false) (cond (a.2.1 != b.2.1) (some false) (some true))
noncomputable def laws_eqIntResult.G : Gam := mkG []
theorem laws_eqIntResult.Gok : GOk Go.Proofs.Try.prog laws_eqIntResult.G := GOk.nil
def laws_eqIntResult.hn : Hint := ⟨[2, 3], [], [], 0⟩
noncomputable def laws_eqIntResult.L : Lam := mkL []
def laws_eqIntResult.out (t : Bool) : Out := ⟨[.cl .sh .bool t], []⟩
theorem laws_eqIntResult.eq (a : IntResult_) (b : IntResult_) : ev tb laws_eqIntResult.hn 15 2 laws_eqIntResult.G laws_eqIntResult.L (bodyOf Go.Proofs.Try.f33) (.no) (initSt [.cl .sh tIntResult_ a, .cl .sh tIntResult_ b]) (kfin tb laws_eqIntResult.hn Go.Proofs.Try.f33 [.sh, .sh]) =
    (laws_eqIntResult a b).map laws_eqIntResult.out := by
  simp only [laws_eqIntResult, cond_map, bind_map, sel_map, Option.map_some, Option.map_none]
  kernel_rfl
def laws_eqIntResult.pts : List PT := [.cl .sh tIntResult_, .cl .sh tIntResult_]
noncomputable def laws_eqIntResult.FS : FS := mkFS [.sh, .sh] laws_eqIntResult.pts (fun x => laws_eqIntResult x.1 x.2.1) laws_eqIntResult.out
theorem laws_eqIntResult.ok : FsOk Go.Proofs.Try.prog 33 laws_eqIntResult.FS :=
  fs_ok (fn := Go.Proofs.Try.f33) tbok (by kernel_rfl) (body_some (by kernel_rfl)) (by kernel_rfl) (pts := laws_eqIntResult.pts) (ev_sound (nt := 15) (np := 2) (hn := laws_eqIntResult.hn) (G := laws_eqIntResult.G) (L := laws_eqIntResult.L) tbok laws_eqIntResult.Gok hmix _ (.no) (hok_of (l := []) (by kernel_rfl) trivial)) rfl rfl
    fun x => laws_eqIntResult.eq x.1 x.2.1
noncomputable def laws_eqInt64S_l0.B (a : List Int) (b : List Int) (i_ : Int) : Option ((Int) ⊕ (((Bool) ⊕ (Unit)))) :=
  cond (decide (i_ < (a.length : Int))) (cond (inB i_ a.length) (cond (inB i_ b.length) (cond ((a.getD i_.toNat 0) != (b.getD i_.toNat 0)) (some (.inr (.inl false))) (some (.inl (w64 (i_ + 1))))) (none)) (none)) (some (.inr (.inr ())))
noncomputable def laws_eqInt64S_l0 (a : List Int) (b : List Int) : (Int) → Option (((Bool) ⊕ (Unit))) :=
  loopL fun s => laws_eqInt64S_l0.B a b s
noncomputable def laws_eqInt64S (a : List Int) (b : List Int) : Option (Bool) :=
  cond ((a.length : Int) != (b.length : Int)) (some false) ((laws_eqInt64S_l0 a b 0).bind fun o => sel o (fun b2 => some b2) (fun c => some true))
noncomputable def laws_eqInt64S.G : Gam := mkG []
theorem laws_eqInt64S.Gok : GOk Go.Proofs.Try.prog laws_eqInt64S.G := GOk.nil
def laws_eqInt64S.hn : Hint := ⟨[], [], [], 0⟩
noncomputable def laws_eqInt64S_l0.wit (a : List Int) (b : List Int) (o : ((Bool) ⊕ (Unit))) : Ex × St := sel o (fun b => (.rt, ⟨[(4, .cl .sh .bool b)], []⟩)) (fun c => (.ex 0, ⟨[], []⟩))
theorem laws_eqInt64S_l0.eq (a : List Int) (b : List Int) (i_ : Int) : ev tb laws_eqInt64S.hn 26 2 laws_eqInt64S.G (mkL []) (codeAt (bodyOf Go.Proofs.Try.f83) [1, 1, 0, 1, 0, 0]) (.no) ⟨[(0, .cl .sh (.sl (.int .i64)) a), (1, .cl .sh (.sl (.int .i64)) b), (5, .cl .sh (.int .i64) i_)], []⟩ (kLp (([0, 1, 5], [])) [(0, ([], []))] ([4], [])) =
    (laws_eqInt64S_l0.B a b i_).map (fun o => sel o (fun s => .inl ⟨[(0, .cl .sh (.sl (.int .i64)) a), (1, .cl .sh (.sl (.int .i64)) b), (5, .cl .sh (.int .i64) s)], []⟩) (fun o => .inr (laws_eqInt64S_l0.wit a b o))) := by
  simp only [laws_eqInt64S_l0.B, cond_map, bind_map, sel_map, Option.map_some, Option.map_none]
  kernel_rfl
def laws_eqInt64S_l0.sp : SP := ⟨[(0, .cl .sh (.sl (.int .i64))), (1, .cl .sh (.sl (.int .i64))), (5, .cl .sh (.int .i64))], []⟩
noncomputable def laws_eqInt64S_l0.out (a : List Int) (b : List Int) : FOut (((Bool) ⊕ (Unit))) := fun o _ k => sel o (fun b => k (.rt) ⟨[(4, .cl .sh .bool b)], []⟩) (fun c => k (.ex 0) ⟨[], []⟩)
theorem laws_eqInt64S_l0.outEq (a : List Int) (b : List Int) (o : ((Bool) ⊕ (Unit))) (R : Type) (k : Ex → St → Option R) : laws_eqInt64S_l0.out a b o R k = k (laws_eqInt64S_l0.wit a b o).1 (laws_eqInt64S_l0.wit a b o).2 := by
  rcases o with o | o <;> rfl
noncomputable def laws_eqInt64S_l0.F (x : laws_eqInt64S_l0.sp.El) (R : Type) (k : Ex → St → Option R) : Option R := (laws_eqInt64S_l0 x.1.1 x.1.2.1 x.1.2.2.1).bind fun t => laws_eqInt64S_l0.out x.1.1 x.1.2.1 t R k
noncomputable def laws_eqInt64S_l0.fr : St → ∀ R : Type, (Ex → St → Option R) → Option R := mkFrag laws_eqInt64S_l0.sp laws_eqInt64S_l0.F
theorem laws_eqInt64S_l0.ok : CodeOk Go.Proofs.Try.prog 26 2 (.loop (codeAt (bodyOf Go.Proofs.Try.f83) [1, 1, 0, 1, 0, 0])) laws_eqInt64S_l0.fr :=
  loop_sound (sp := laws_eqInt64S_l0.sp) rfl (F := laws_eqInt64S_l0.F) (ev_sound (hn := laws_eqInt64S.hn) (G := laws_eqInt64S.G) (L := mkL []) tbok laws_eqInt64S.Gok hmix _ (.no) (hok_of (l := []) (by kernel_rfl) trivial)) 
    fun x => ⟨_, _, fun s => laws_eqInt64S_l0.B x.1.1 x.1.2.1 s, fun s => ⟨[(0, .cl .sh (.sl (.int .i64)) x.1.1), (1, .cl .sh (.sl (.int .i64)) x.1.2.1), (5, .cl .sh (.int .i64) s)], []⟩, laws_eqInt64S_l0.wit x.1.1 x.1.2.1, x.1.2.2.1, rfl, fun s => laws_eqInt64S_l0.eq x.1.1 x.1.2.1 s, fun R k => congrArg (fun g => (laws_eqInt64S_l0 x.1.1 x.1.2.1 x.1.2.2.1).bind g) (funext fun t => laws_eqInt64S_l0.outEq x.1.1 x.1.2.1 t R k)⟩
noncomputable def laws_eqInt64S.L : Lam := mkL [(0, laws_eqInt64S_l0.fr)]
def laws_eqInt64S.out (t : Bool) : Out := ⟨[.cl .sh .bool t], []⟩
theorem laws_eqInt64S.eq (a : List Int) (b : List Int) : ev tb laws_eqInt64S.hn 26 2 laws_eqInt64S.G laws_eqInt64S.L (bodyOf Go.Proofs.Try.f83) (.two (.no) (.two (.no) (.two (.two (.no) (.one (.fr 0))) (.no)))) (initSt [.cl .sh (.sl (.int .i64)) a, .cl .sh (.sl (.int .i64)) b]) (kfin tb laws_eqInt64S.hn Go.Proofs.Try.f83 [.sh, .sh]) =
    (laws_eqInt64S a b).map laws_eqInt64S.out := by
  simp only [laws_eqInt64S, cond_map, bind_map, sel_map, Option.map_some, Option.map_none]
  kernel_rfl
def laws_eqInt64S.pts : List PT := [.cl .sh (.sl (.int .i64)), .cl .sh (.sl (.int .i64))]
noncomputable def laws_eqInt64S.FS : FS := mkFS [.sh, .sh] laws_eqInt64S.pts (fun x => laws_eqInt64S x.1 x.2.1) laws_eqInt64S.out
theorem laws_eqInt64S.ok : FsOk Go.Proofs.Try.prog 83 laws_eqInt64S.FS :=
  fs_ok (fn := Go.Proofs.Try.f83) tbok (by kernel_rfl) (body_some (by kernel_rfl)) (by kernel_rfl) (pts := laws_eqInt64S.pts) (ev_sound (nt := 26) (np := 2) (hn := laws_eqInt64S.hn) (G := laws_eqInt64S.G) (L := laws_eqInt64S.L) tbok laws_eqInt64S.Gok hmix _ (.two (.no) (.two (.no) (.two (.two (.no) (.one (.fr 0))) (.no)))) (hok_of (l := [(0, .loop (codeAt (bodyOf Go.Proofs.Try.f83) [1, 1, 0, 1, 0, 0]))]) (by kernel_rfl) ⟨Lam.cons laws_eqInt64S_l0.ok, trivial⟩)) rfl rfl
    fun x => laws_eqInt64S.eq x.1 x.2.1
noncomputable def laws_eqStep (a : Step_) (b : Step_) : Option (Bool) :=
  cond (!(a.1 == b.1)) (some false) (cond (a.2.1 != b.2.1) (some false) ((laws_eqInt64S a.2.2.1 b.2.2.1).bind fun r => cond (!r) (some false) (some true)))
noncomputable def laws_eqStep.G : Gam := mkG [(83, laws_eqInt64S.FS)]
theorem laws_eqStep.Gok : GOk Go.Proofs.Try.prog laws_eqStep.G := GOk.cons (laws_eqInt64S.ok) (GOk.nil)
def laws_eqStep.hn : Hint := ⟨[2, 3], [], [], 0⟩
noncomputable def laws_eqStep.L : Lam := mkL []
def laws_eqStep.out (t : Bool) : Out := ⟨[.cl .sh .bool t], []⟩
theorem laws_eqStep.eq (a : Step_) (b : Step_) : ev tb laws_eqStep.hn 21 2 laws_eqStep.G laws_eqStep.L (bodyOf Go.Proofs.Try.f23) (.no) (initSt [.cl .sh tStep_ a, .cl .sh tStep_ b]) (kfin tb laws_eqStep.hn Go.Proofs.Try.f23 [.sh, .sh]) =
    (laws_eqStep a b).map laws_eqStep.out := by
  simp only [laws_eqStep, cond_map, bind_map, sel_map, Option.map_some, Option.map_none]
  kernel_rfl
def laws_eqStep.pts : List PT := [.cl .sh tStep_, .cl .sh tStep_]
noncomputable def laws_eqStep.FS : FS := mkFS [.sh, .sh] laws_eqStep.pts (fun x => laws_eqStep x.1 x.2.1) laws_eqStep.out
theorem laws_eqStep.ok : FsOk Go.Proofs.Try.prog 23 laws_eqStep.FS :=
  fs_ok (fn := Go.Proofs.Try.f23) tbok (by kernel_rfl) (body_some (by kernel_rfl)) (by kernel_rfl) (pts := laws_eqStep.pts) (ev_sound (nt := 21) (np := 2) (hn := laws_eqStep.hn) (G := laws_eqStep.G) (L := laws_eqStep.L) tbok laws_eqStep.Gok hmix _ (.no) (hok_of (l := []) (by kernel_rfl) trivial)) rfl rfl
    fun x => laws_eqStep.eq x.1 x.2.1
noncomputable def laws_eqStepS_l0.B (a : List Step_) (b : List Step_) (i_ : Int) : Option ((Int) ⊕ (((Bool) ⊕ (Unit)))) :=
  cond (decide (i_ < (a.length : Int))) (cond (inB i_ a.length) (cond (inB i_ b.length) ((laws_eqStep (a.getD i_.toNat zStep_) (b.getD i_.toNat zStep_)).bind fun r => cond (!r) (some (.inr (.inl false))) (some (.inl (w64 (i_ + 1))))) (none)) (none)) (some (.inr (.inr ())))
noncomputable def laws_eqStepS_l0 (a : List Step_) (b : List Step_) : (Int) → Option (((Bool) ⊕ (Unit))) :=
  loopL fun s => laws_eqStepS_l0.B a b s
noncomputable def laws_eqStepS (a : List Step_) (b : List Step_) : Option (Bool) :=
  cond ((a.length : Int) != (b.length : Int)) (some false) ((laws_eqStepS_l0 a b 0).bind fun o => sel o (fun b2 => some b2) (fun c => some true))
noncomputable def laws_eqStepS.G : Gam := mkG [(23, laws_eqStep.FS)]
theorem laws_eqStepS.Gok : GOk Go.Proofs.Try.prog laws_eqStepS.G := GOk.cons (laws_eqStep.ok) (GOk.nil)
def laws_eqStepS.hn : Hint := ⟨[], [], [], 0⟩
noncomputable def laws_eqStepS_l0.wit (a : List Step_) (b : List Step_) (o : ((Bool) ⊕ (Unit))) : Ex × St := sel o (fun b => (.rt, ⟨[(4, .cl .sh .bool b)], []⟩)) (fun c => (.ex 0, ⟨[], []⟩))
theorem laws_eqStepS_l0.eq (a : List Step_) (b : List Step_) (i_ : Int) : ev tb laws_eqStepS.hn 27 2 laws_eqStepS.G (mkL []) (codeAt (bodyOf Go.Proofs.Try.f34) [1, 1, 0, 1, 0, 0]) (.no) ⟨[(0, .cl .sh (.sl tStep_) a), (1, .cl .sh (.sl tStep_) b), (5, .cl .sh (.int .i64) i_)], []⟩ (kLp (([0, 1, 5], [])) [(0, ([], []))] ([4], [])) =
    (laws_eqStepS_l0.B a b i_).map (fun o => sel o (fun s => .inl ⟨[(0, .cl .sh (.sl tStep_) a), (1, .cl .sh (.sl tStep_) b), (5, .cl .sh (.int .i64) s)], []⟩) (fun o => .inr (laws_eqStepS_l0.wit a b o))) := by
  simp only [laws_eqStepS_l0.B, cond_map, bind_map, sel_map, Option.map_some, Option.map_none]
  kernel_rfl
def laws_eqStepS_l0.sp : SP := ⟨[(0, .cl .sh (.sl tStep_)), (1, .cl .sh (.sl tStep_)), (5, .cl .sh (.int .i64))], []⟩
noncomputable def laws_eqStepS_l0.out (a : List Step_) (b : List Step_) : FOut (((Bool) ⊕ (Unit))) := fun o _ k => sel o (fun b => k (.rt) ⟨[(4, .cl .sh .bool b)], []⟩) (fun c => k (.ex 0) ⟨[], []⟩)
theorem laws_eqStepS_l0.outEq (a : List Step_) (b : List Step_) (o : ((Bool) ⊕ (Unit))) (R : Type) (k : Ex → St → Option R) : laws_eqStepS_l0.out a b o R k = k (laws_eqStepS_l0.wit a b o).1 (laws_eqStepS_l0.wit a b o).2 := by
  rcases o with o | o <;> rfl
noncomputable def laws_eqStepS_l0.F (x : laws_eqStepS_l0.sp.El) (R : Type) (k : Ex → St → Option R) : Option R := (laws_eqStepS_l0 x.1.1 x.1.2.1 x.1.2.2.1).bind fun t => laws_eqStepS_l0.out x.1.1 x.1.2.1 t R k
noncomputable def laws_eqStepS_l0.fr : St → ∀ R : Type, (Ex → St → Option R) → Option R := mkFrag laws_eqStepS_l0.sp laws_eqStepS_l0.F
theorem laws_eqStepS_l0.ok : CodeOk Go.Proofs.Try.prog 27 2 (.loop (codeAt (bodyOf Go.Proofs.Try.f34) [1, 1, 0, 1, 0, 0])) laws_eqStepS_l0.fr :=
  loop_sound (sp := laws_eqStepS_l0.sp) rfl (F := laws_eqStepS_l0.F) (ev_sound (hn := laws_eqStepS.hn) (G := laws_eqStepS.G) (L := mkL []) tbok laws_eqStepS.Gok hmix _ (.no) (hok_of (l := []) (by kernel_rfl) trivial)) 
    fun x => ⟨_, _, fun s => laws_eqStepS_l0.B x.1.1 x.1.2.1 s, fun s => ⟨[(0, .cl .sh (.sl tStep_) x.1.1), (1, .cl .sh (.sl tStep_) x.1.2.1), (5, .cl .sh (.int .i64) s)], []⟩, laws_eqStepS_l0.wit x.1.1 x.1.2.1, x.1.2.2.1, rfl, fun s => laws_eqStepS_l0.eq x.1.1 x.1.2.1 s, fun R k => congrArg (fun g => (laws_eqStepS_l0 x.1.1 x.1.2.1 x.1.2.2.1).bind g) (funext fun t => laws_eqStepS_l0.outEq x.1.1 x.1.2.1 t R k)⟩
noncomputable def laws_eqStepS.L : Lam := mkL [(0, laws_eqStepS_l0.fr)]
def laws_eqStepS.out (t : Bool) : Out := ⟨[.cl .sh .bool t], []⟩
theorem laws_eqStepS.eq (a : List Step_) (b : List Step_) : ev tb laws_eqStepS.hn 27 2 laws_eqStepS.G laws_eqStepS.L (bodyOf Go.Proofs.Try.f34) (.two (.no) (.two (.no) (.two (.two (.no) (.one (.fr 0))) (.no)))) (initSt [.cl .sh (.sl tStep_) a, .cl .sh (.sl tStep_) b]) (kfin tb laws_eqStepS.hn Go.Proofs.Try.f34 [.sh, .sh]) =
    (laws_eqStepS a b).map laws_eqStepS.out := by
  simp only [laws_eqStepS, cond_map, bind_map, sel_map, Option.map_some, Option.map_none]
  kernel_rfl
def laws_eqStepS.pts : List PT := [.cl .sh (.sl tStep_), .cl .sh (.sl tStep_)]
noncomputable def laws_eqStepS.FS : FS := mkFS [.sh, .sh] laws_eqStepS.pts (fun x => laws_eqStepS x.1 x.2.1) laws_eqStepS.out
theorem laws_eqStepS.ok : FsOk Go.Proofs.Try.prog 34 laws_eqStepS.FS :=
  fs_ok (fn := Go.Proofs.Try.f34) tbok (by kernel_rfl) (body_some (by kernel_rfl)) (by kernel_rfl) (pts := laws_eqStepS.pts) (ev_sound (nt := 27) (np := 2) (hn := laws_eqStepS.hn) (G := laws_eqStepS.G) (L := laws_eqStepS.L) tbok laws_eqStepS.Gok hmix _ (.two (.no) (.two (.no) (.two (.two (.no) (.one (.fr 0))) (.no)))) (hok_of (l := [(0, .loop (codeAt (bodyOf Go.Proofs.Try.f34) [1, 1, 0, 1, 0, 0]))]) (by kernel_rfl) ⟨Lam.cons laws_eqStepS_l0.ok, trivial⟩)) rfl rfl
    fun x => laws_eqStepS.eq x.1 x.2.1
noncomputable def laws_FnExactCommitAt (aList : List Step_) : Option (Bool) :=
  (laws_szStepS aList 1048576).bind fun r => cond (decide (r < 0)) (some true) ((laws_toStepS aList).bind fun r2 => (spec_CommitAt r2).bind fun r3 => (laws_toStepS aList).bind fun r4 => (impl_CommitAt r4).bind fun r5 => (laws_eqIntResult r5 r3).bind fun r6 => cond (!r6) (some false) ((laws_toStepS aList).bind fun r7 => (laws_eqStepS r4 r7).bind fun r8 => cond (!r8) (some false) (some true)))
noncomputable def laws_FnExactCommitAt.G : Gam := mkG [(29, laws_szStepS.FS), (31, laws_toStepS.FS), (30, spec_CommitAt.FS), (32, impl_CommitAt.FS), (33, laws_eqIntResult.FS), (34, laws_eqStepS.FS)]
theorem laws_FnExactCommitAt.Gok : GOk Go.Proofs.Try.prog laws_FnExactCommitAt.G := GOk.cons (laws_szStepS.ok) (GOk.cons (laws_toStepS.ok) (GOk.cons (spec_CommitAt.ok) (GOk.cons (impl_CommitAt.ok) (GOk.cons (laws_eqIntResult.ok) (GOk.cons (laws_eqStepS.ok) (GOk.nil))))))
def laws_FnExactCommitAt.hn : Hint := ⟨[], [], [], 0⟩
noncomputable def laws_FnExactCommitAt.L : Lam := mkL []
def laws_FnExactCommitAt.out (t : Bool) : Out := ⟨[.cl .sh .bool t], []⟩
theorem laws_FnExactCommitAt.eq (aList : List Step_) : ev tb laws_FnExactCommitAt.hn 28 1 laws_FnExactCommitAt.G laws_FnExactCommitAt.L (bodyOf Go.Proofs.Try.f6) (.no) (initSt [.cl .sh (.sl tStep_) aList]) (kfin tb laws_FnExactCommitAt.hn Go.Proofs.Try.f6 [.sh]) =
    (laws_FnExactCommitAt aList).map laws_FnExactCommitAt.out := by
  simp only [laws_FnExactCommitAt, cond_map, bind_map, sel_map, Option.map_some, Option.map_none]
  kernel_rfl
def laws_FnExactCommitAt.pts : List PT := [.cl .sh (.sl tStep_)]
noncomputable def laws_FnExactCommitAt.FS : FS := mkFS [.sh] laws_FnExactCommitAt.pts (fun x => laws_FnExactCommitAt x.1) laws_FnExactCommitAt.out
theorem laws_FnExactCommitAt.ok : FsOk Go.Proofs.Try.prog 6 laws_FnExactCommitAt.FS :=
  fs_ok (fn := Go.Proofs.Try.f6) tbok (by kernel_rfl) (body_some (by kernel_rfl)) (by kernel_rfl) (pts := laws_FnExactCommitAt.pts) (ev_sound (nt := 28) (np := 1) (hn := laws_FnExactCommitAt.hn) (G := laws_FnExactCommitAt.G) (L := laws_FnExactCommitAt.L) tbok laws_FnExactCommitAt.Gok hmix _ (.no) (hok_of (l := []) (by kernel_rfl) trivial)) rfl rfl
    fun x => laws_FnExactCommitAt.eq x.1
end Mf
