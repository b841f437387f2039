/- The functions that FnExactNewWorld reaches: what each computes, and that it does. -/
import Derived.Test.YtkckfagcnnhimaaMf7
import Derived.Test.YtkckfagcnnhimaaProg
import Derived.KernelRfl
namespace Mf
open Go
set_option linter.unusedVariables false
set_option linter.unusedSimpArgs false
set_option maxRecDepth 100000
abbrev tPut_ : Ty := (.pair (.int .i64) (.pair (.sl (.int .i64)) .unit))
abbrev Put_ : Type := Int × (List Int) × Unit
def zPut_ : Put_ := (0, [], ())
abbrev tDisk_ : Ty := (.pair (.sl (.sl (.int .i64))) (.pair (.sl tPut_) .unit))
abbrev Disk_ : Type := (List (List Int)) × (List Put_) × Unit
def zDisk_ : Disk_ := ([], [], ())
abbrev tStep_ : Ty := (.pair .bool tPut_)
abbrev Step_ : Type := Bool × Put_
def zStep_ : Step_ := (false, 0, [], ())
abbrev tEntry_ : Ty := (.pair .str (.pair (.int .i64) .unit))
abbrev Entry_ : Type := (List UInt8) × Int × Unit
def zEntry_ : Entry_ := ([], 0, ())
abbrev tInode_ : Ty := (.pair (.int .i64) (.pair (.int .i64) (.pair (.int .i64) (.pair (.sl (.int .i64)) (.pair (.sl tEntry_) .unit)))))
abbrev Inode_ : Type := Int × Int × Int × (List Int) × (List Entry_) × Unit
def zInode_ : Inode_ := (0, 0, 0, [], [], ())
abbrev tFs_ : Ty := (.pair (.sl tInode_) (.pair (.sl (.sl (.int .u8))) .unit))
abbrev Fs_ : Type := (List Inode_) × (List (List Int)) × Unit
def zFs_ : Fs_ := ([], [], ())
abbrev tWorld_ : Ty := (.pair tDisk_ (.pair tFs_ (.pair tFs_ .unit)))
abbrev World_ : Type := Disk_ × Fs_ × Fs_ × Unit
def zWorld_ : World_ := (([], [], ()), ([], [], ()), ([], [], ()), ())
abbrev tCall_ : Ty := (.pair (.int .i64) (.pair .str (.pair .str (.pair (.int .i64) (.pair (.int .i64) (.pair (.sl (.int .u8)) .unit))))))
abbrev Call_ : Type := Int × (List UInt8) × (List UInt8) × Int × Int × (List Int) × Unit
def zCall_ : Call_ := (0, [], [], 0, 0, [], ())
abbrev tCallResult_ : Ty := (.pair (.int .i64) (.pair (.int .i64) (.pair (.int .i64) (.pair (.sl (.int .u8)) (.pair (.sl .str) (.pair tFs_ .unit))))))
abbrev CallResult_ : Type := Int × Int × Int × (List Int) × (List (List UInt8)) × Fs_ × Unit
def zCallResult_ : CallResult_ := (0, 0, 0, [], [], ([], [], ()), ())
abbrev tDiskResult_ : Ty := (.pair (.int .i64) (.pair tDisk_ .unit))
abbrev DiskResult_ : Type := Int × Disk_ × Unit
def zDiskResult_ : DiskResult_ := (0, ([], [], ()), ())
abbrev tIntResult_ : Ty := (.pair (.int .i64) (.pair (.int .i64) .unit))
abbrev IntResult_ : Type := Int × Int × Unit
def zIntResult_ : IntResult_ := (0, 0, ())
abbrev tPutsResult_ : Ty := (.pair (.int .i64) (.pair (.sl tPut_) .unit))
abbrev PutsResult_ : Type := Int × (List Put_) × Unit
def zPutsResult_ : PutsResult_ := (0, [], ())
abbrev tStepsResult_ : Ty := (.pair (.int .i64) (.pair (.sl tStep_) .unit))
abbrev StepsResult_ : Type := Int × (List Step_) × Unit
def zStepsResult_ : StepsResult_ := (0, [], ())
abbrev tTxResult_ : Ty := (.pair (.int .i64) (.pair .bool (.pair (.sl tPut_) .unit)))
abbrev TxResult_ : Type := Int × Bool × (List Put_) × Unit
def zTxResult_ : TxResult_ := (0, false, [], ())
abbrev tWorldResult_ : Ty := (.pair (.int .i64) (.pair tCallResult_ (.pair tWorld_ .unit)))
abbrev WorldResult_ : Type := Int × CallResult_ × World_ × Unit
def zWorldResult_ : WorldResult_ := (0, (0, 0, 0, [], [], ([], [], ()), ()), (([], [], ()), ([], [], ()), ([], [], ()), ()), ())
abbrev tBoundsError_ : Ty := (.pair (.int .i64) (.pair (.int .i64) (.pair .bool (.pair (.int .u8) .unit))))
abbrev BoundsError_ : Type := Int × Int × Bool × Int × Unit
def zBoundsError_ : BoundsError_ := (0, 0, false, 0, ())
abbrev tErrorAddressString_ : Ty := (.pair .str (.pair (.int .u64) .unit))
abbrev ErrorAddressString_ : Type := (List UInt8) × Int × Unit
def zErrorAddressString_ : ErrorAddressString_ := ([], 0, ())
def tb : Tb := [(2, ⟨.int .i64, (.int .i64), 8⟩), (3, ⟨.int .i64, (.int .i64), 8⟩), (4, ⟨.bool, .bool, 1⟩), (5, ⟨.int .u8, (.int .u8), 1⟩), (6, ⟨.int .u8, (.int .u8), 1⟩), (7, ⟨.st [0, 1, 2, 3], tBoundsError_, 24⟩), (8, ⟨.st [0, 1, 2, 3], tBoundsError_, 24⟩), (9, ⟨.str, .str, 16⟩), (10, ⟨.str, .str, 16⟩), (11, ⟨.str, .str, 16⟩), (12, ⟨.int .u64, (.int .u64), 8⟩), (13, ⟨.st [0, 1], tErrorAddressString_, 24⟩), (14, ⟨.st [0, 1], tErrorAddressString_, 24⟩), (21, ⟨.int .i32, (.int .i32), 4⟩), (22, ⟨.sl 5, (.sl (.int .u8)), 24⟩), (23, ⟨.st [0, 1, 2, 3, 4, 5], tCall_, 80⟩), (24, ⟨.st [0, 1, 2, 3, 4, 5], tCall_, 80⟩), (27, ⟨.st [0, 1, 2, 3, 4, 5], tCall_, 80⟩), (31, ⟨.sl 2, (.sl (.int .i64)), 24⟩), (32, ⟨.st [0, 1, 2], tStep_, 40⟩), (33, ⟨.st [0, 1, 2], tStep_, 40⟩), (36, ⟨.st [0, 1, 2], tStep_, 40⟩), (40, ⟨.sl 31, (.sl (.sl (.int .i64))), 24⟩), (41, ⟨.sl 141, (.sl tPut_), 24⟩), (42, ⟨.st [0, 1], tDisk_, 48⟩), (43, ⟨.st [0, 1], tDisk_, 48⟩), (44, ⟨.st [0, 1], tDiskResult_, 56⟩), (45, ⟨.st [0, 1], tDiskResult_, 56⟩), (50, ⟨.sl 33, (.sl tStep_), 24⟩), (52, ⟨.st [0, 1], tIntResult_, 16⟩), (53, ⟨.st [0, 1], tIntResult_, 16⟩), (55, ⟨.sl 36, (.sl tStep_), 24⟩), (60, ⟨.sl 139, (.sl tPut_), 24⟩), (61, ⟨.st [0, 1], tDisk_, 48⟩), (62, ⟨.st [0, 1], tDisk_, 48⟩), (69, ⟨.st [0, 1], tPutsResult_, 32⟩), (70, ⟨.st [0, 1], tPutsResult_, 32⟩), (79, ⟨.st [0, 1, 2], tTxResult_, 40⟩), (80, ⟨.st [0, 1, 2], tTxResult_, 40⟩), (84, ⟨.st [0, 1], tStepsResult_, 32⟩), (85, ⟨.st [0, 1], tStepsResult_, 32⟩), (92, ⟨.sl 9, (.sl .str), 24⟩), (93, ⟨.sl 125, (.sl tInode_), 24⟩), (94, ⟨.sl 22, (.sl (.sl (.int .u8))), 24⟩), (95, ⟨.st [0, 1], tFs_, 48⟩), (96, ⟨.st [0, 1], tFs_, 48⟩), (97, ⟨.st [0, 1, 2, 3, 4, 5], tCallResult_, 120⟩), (98, ⟨.st [0, 1, 2, 3, 4, 5], tCallResult_, 120⟩), (99, ⟨.st [0, 2, 4], tWorld_, 144⟩), (100, ⟨.st [0, 2, 4], tWorld_, 144⟩), (101, ⟨.st [0, 1, 8], tWorldResult_, 272⟩), (102, ⟨.st [0, 1, 8], tWorldResult_, 272⟩), (106, ⟨.sl 4, (.sl .bool), 24⟩), (123, ⟨.sl 167, (.sl tEntry_), 24⟩), (124, ⟨.st [0, 1, 2, 3, 4], tInode_, 72⟩), (125, ⟨.st [0, 1, 2, 3, 4], tInode_, 72⟩), (138, ⟨.st [0, 1], tPut_, 32⟩), (139, ⟨.st [0, 1], tPut_, 32⟩), (141, ⟨.st [0, 1], tPut_, 32⟩), (166, ⟨.st [0, 1], tEntry_, 24⟩), (167, ⟨.st [0, 1], tEntry_, 24⟩), (202, ⟨.int .u32, (.int .u32), 4⟩), (203, ⟨.int .u8, (.int .u8), 1⟩), (204, ⟨.int .u8, (.int .u8), 1⟩), (207, ⟨.int .i32, (.int .i32), 4⟩), (208, ⟨.int .i32, (.int .i32), 4⟩)]
theorem tbok : TbOk Go.Proofs.Try.prog tb := tbB_ok (by kernel_rfl)
theorem hmix : Go.Proofs.Try.prog.follows .mixedOrders = true := by kernel_rfl
noncomputable def spec_l1In (v : Int) (low : Int) (high : Int) : Option (Bool) :=
  (some (cond (decide (v ≥ low)) (decide (v ≤ high)) false)).bind fun v2 => some v2
noncomputable def spec_l1In.G : Gam := mkG []
theorem spec_l1In.Gok : GOk Go.Proofs.Try.prog spec_l1In.G := GOk.nil
def spec_l1In.hn : Hint := ⟨[], [], [], 0⟩
noncomputable def spec_l1In.L : Lam := mkL []
def spec_l1In.out (t : Bool) : Out := ⟨[.cl .sh .bool t], []⟩
theorem spec_l1In.eq (v : Int) (low : Int) (high : Int) : ev tb spec_l1In.hn 15 3 spec_l1In.G spec_l1In.L (bodyOf Go.Proofs.Try.f74) (.no) (initSt [.cl .sh (.int .i64) v, .cl .sh (.int .i64) low, .cl .sh (.int .i64) high]) (kfin tb spec_l1In.hn Go.Proofs.Try.f74 [.sh, .sh, .sh]) =
    (spec_l1In v low high).map spec_l1In.out := by
  simp only [spec_l1In, cond_map, bind_map, sel_map, Option.map_some, Option.map_none]
  kernel_rfl
def spec_l1In.pts : List PT := [.cl .sh (.int .i64), .cl .sh (.int .i64), .cl .sh (.int .i64)]
noncomputable def spec_l1In.FS : FS := mkFS [.sh, .sh, .sh] spec_l1In.pts (fun x => spec_l1In x.1 x.2.1 x.2.2.1) spec_l1In.out
theorem spec_l1In.ok : FsOk Go.Proofs.Try.prog 74 spec_l1In.FS :=
  fs_ok (fn := Go.Proofs.Try.f74) tbok (by kernel_rfl) (body_some (by kernel_rfl)) (by kernel_rfl) (pts := spec_l1In.pts) (ev_sound (nt := 15) (np := 3) (hn := spec_l1In.hn) (G := spec_l1In.G) (L := spec_l1In.L) tbok spec_l1In.Gok hmix _ (.no) (hok_of (l := []) (by kernel_rfl) trivial)) rfl rfl
    fun x => spec_l1In.eq x.1 x.2.1 x.2.2.1
noncomputable def spec_l12Seq (n : Int) : Option (Bool) :=
  (spec_l1In n 1 60000).bind fun r => some r
noncomputable def spec_l12Seq.G : Gam := mkG [(74, spec_l1In.FS)]
theorem spec_l12Seq.Gok : GOk Go.Proofs.Try.prog spec_l12Seq.G := GOk.cons (spec_l1In.ok) (GOk.nil)
def spec_l12Seq.hn : Hint := ⟨[], [], [], 0⟩
noncomputable def spec_l12Seq.L : Lam := mkL []
def spec_l12Seq.out (t : Bool) : Out := ⟨[.cl .sh .bool t], []⟩
theorem spec_l12Seq.eq (n : Int) : ev tb spec_l12Seq.hn 5 1 spec_l12Seq.G spec_l12Seq.L (bodyOf Go.Proofs.Try.f84) (.no) (initSt [.cl .sh (.int .i64) n]) (kfin tb spec_l12Seq.hn Go.Proofs.Try.f84 [.sh]) =
    (spec_l12Seq n).map spec_l12Seq.out := by
  simp only [spec_l12Seq, cond_map, bind_map, sel_map, Option.map_some, Option.map_none]
  kernel_rfl
def spec_l12Seq.pts : List PT := [.cl .sh (.int .i64)]
noncomputable def spec_l12Seq.FS : FS := mkFS [.sh] spec_l12Seq.pts (fun x => spec_l12Seq x.1) spec_l12Seq.out
theorem spec_l12Seq.ok : FsOk Go.Proofs.Try.prog 84 spec_l12Seq.FS :=
  fs_ok (fn := Go.Proofs.Try.f84) tbok (by kernel_rfl) (body_some (by kernel_rfl)) (by kernel_rfl) (pts := spec_l12Seq.pts) (ev_sound (nt := 5) (np := 1) (hn := spec_l12Seq.hn) (G := spec_l12Seq.G) (L := spec_l12Seq.L) tbok spec_l12Seq.Gok hmix _ (.no) (hok_of (l := []) (by kernel_rfl) trivial)) rfl rfl
    fun x => spec_l12Seq.eq x.1
noncomputable def spec_l1New (size : Int) : Option (Disk_) :=
  cond (decide ((0 : Int) ≤ size) && (decide (size ≤ size) && decide (size ≤ 2147483648))) (some (List.replicate size.toNat ([] : List Int), [], ())) (none)
noncomputable def spec_l1New.G : Gam := mkG []
theorem spec_l1New.Gok : GOk Go.Proofs.Try.prog spec_l1New.G := GOk.nil
def spec_l1New.hn : Hint := ⟨[], [], [], 0⟩
noncomputable def spec_l1New.L : Lam := mkL []
def spec_l1New.out (t : Disk_) : Out := ⟨[.cl .deep tDisk_ t], []⟩
theorem spec_l1New.eq (size : Int) : ev tb spec_l1New.hn 6 1 spec_l1New.G spec_l1New.L (bodyOf Go.Proofs.Try.f136) (.no) (initSt [.cl .sh (.int .i64) size]) (kfin tb spec_l1New.hn Go.Proofs.Try.f136 [.sh]) =
    (spec_l1New size).map spec_l1New.out := by
  simp only [spec_l1New, cond_map, bind_map, sel_map, Option.map_some, Option.map_none]
  kernel_rfl
def spec_l1New.pts : List PT := [.cl .sh (.int .i64)]
noncomputable def spec_l1New.FS : FS := mkFS [.sh] spec_l1New.pts (fun x => spec_l1New x.1) spec_l1New.out
theorem spec_l1New.ok : FsOk Go.Proofs.Try.prog 136 spec_l1New.FS :=
  fs_ok (fn := Go.Proofs.Try.f136) tbok (by kernel_rfl) (body_some (by kernel_rfl)) (by kernel_rfl) (pts := spec_l1New.pts) (ev_sound (nt := 6) (np := 1) (hn := spec_l1New.hn) (G := spec_l1New.G) (L := spec_l1New.L) tbok spec_l1New.Gok hmix _ (.no) (hok_of (l := []) (by kernel_rfl) trivial)) rfl rfl
    fun x => spec_l1New.eq x.1
noncomputable def spec_l4Pack_l1.B (x : Inode_) (i_ : Int) (e_ : Entry_) (k_ : Int) (out_2 : List Int) : Option ((Int × List Int) ⊕ (List Int)) :=
  cond (decide (k_ < (e_.1.length : Int))) (cond (inB k_ e_.1.length) ((some (out_2 ++ ([w64 (((e_.1.getD k_.toNat 0).toNat : Int))]))).bind fun v4 => cond (decide (v4.length ≤ 2147483648)) (some (.inl (w64 (k_ + 1), v4))) (none)) (none)) (some (.inr out_2))
noncomputable def spec_l4Pack_l1 (x : Inode_) (i_ : Int) (e_ : Entry_) : (Int × List Int) → Option (List Int) :=
  loopL fun s => spec_l4Pack_l1.B x i_ e_ s.1 s.2
noncomputable def spec_l4Pack_l0.B (x : Inode_) (i_ : Int) (out_ : List Int) : Option ((Int × List Int) ⊕ (List Int)) :=
  cond (decide (i_ < (x.2.2.2.2.1.length : Int))) (cond (inB i_ x.2.2.2.2.1.length) ((some (((x.2.2.2.2.1.getD i_.toNat zEntry_).1).length : Int)).bind fun v2 => (some (out_ ++ ([((x.2.2.2.2.1.getD i_.toNat zEntry_).2).1, v2]))).bind fun v3 => cond (decide (v3.length ≤ 2147483648)) ((spec_l4Pack_l1 x i_ (x.2.2.2.2.1.getD i_.toNat zEntry_) (0, v3)).bind fun o => some (.inl (w64 (i_ + 1), o))) (none)) (none)) (some (.inr out_))
noncomputable def spec_l4Pack_l0 (x : Inode_) : (Int × List Int) → Option (List Int) :=
  loopL fun s => spec_l4Pack_l0.B x s.1 s.2
noncomputable def spec_l4Pack (x : Inode_) : Option (List Int) :=
  cond (decide ((([x.1, x.2.1, x.2.2.1]) ++ x.2.2.2.1).length ≤ 2147483648)) (cond (x.1 != 2) (some (([x.1, x.2.1, x.2.2.1]) ++ x.2.2.2.1)) ((some ((([x.1, x.2.1, x.2.2.1]) ++ x.2.2.2.1) ++ ([(x.2.2.2.2.1.length : Int)]))).bind fun v => cond (decide (v.length ≤ 2147483648)) ((spec_l4Pack_l0 x (0, v)).bind fun o2 => some o2) (none))) (none)
noncomputable def spec_l4Pack.G : Gam := mkG []
theorem spec_l4Pack.Gok : GOk Go.Proofs.Try.prog spec_l4Pack.G := GOk.nil
def spec_l4Pack.hn : Hint := ⟨[1], [], [], 0⟩
noncomputable def spec_l4Pack_l1.wit (x : Inode_) (i_ : Int) (e_ : Entry_) (b : List Int) : Ex × St := (.ex 2, ⟨[(1, .pt tInode_ x), (3, .seg 3 []), (4, .cl .sh (.int .i64) i_)], [(3, some ⟨.reg, .cl .deep (.sl (.int .i64)) b⟩)]⟩)
theorem spec_l4Pack_l1.eq (x : Inode_) (i_ : Int) (e_ : Entry_) (k_ : Int) (out_2 : List Int) : ev tb spec_l4Pack.hn 63 1 spec_l4Pack.G (mkL []) (codeAt (bodyOf Go.Proofs.Try.f137) [1, 1, 1, 1, 0, 1, 0, 0, 1, 0, 0, 1, 1, 1, 0, 0]) (.no) ⟨[(1, .pt tInode_ x), (3, .seg 3 []), (4, .cl .sh (.int .i64) i_), (5, .loc 5 []), (6, .cl .sh (.int .i64) k_)], [(3, some ⟨.reg, .cl .deep (.sl (.int .i64)) out_2⟩), (5, some ⟨.mem, .cl .sh tEntry_ e_⟩)]⟩ (kLp (([1, 3, 4, 5, 6], [3, 5])) [(2, ([1, 3, 4], [3]))] ([], [])) =
    (spec_l4Pack_l1.B x i_ e_ k_ out_2).map (fun o => sel o (fun s => .inl ⟨[(1, .pt tInode_ x), (3, .seg 3 []), (4, .cl .sh (.int .i64) i_), (5, .loc 5 []), (6, .cl .sh (.int .i64) s.1)], [(3, some ⟨.reg, .cl .deep (.sl (.int .i64)) s.2⟩), (5, some ⟨.mem, .cl .sh tEntry_ e_⟩)]⟩) (fun b => .inr (spec_l4Pack_l1.wit x i_ e_ b))) := by
  simp only [spec_l4Pack_l1.B, cond_map, bind_map, sel_map, Option.map_some, Option.map_none]
  kernel_rfl
def spec_l4Pack_l1.sp : SP := ⟨[(1, .pt tInode_), (3, .seg 3 []), (4, .cl .sh (.int .i64)), (5, .loc 5 []), (6, .cl .sh (.int .i64))], [(3, .reg, .cl .deep (.sl (.int .i64))), (5, .mem, .cl .sh tEntry_)]⟩
noncomputable def spec_l4Pack_l1.out (x : Inode_) (i_ : Int) (e_ : Entry_) : FOut (List Int) := fun b _ k => k (.ex 2) ⟨[(1, .pt tInode_ x), (3, .seg 3 []), (4, .cl .sh (.int .i64) i_)], [(3, some ⟨.reg, .cl .deep (.sl (.int .i64)) b⟩)]⟩
theorem spec_l4Pack_l1.outEq (x : Inode_) (i_ : Int) (e_ : Entry_) (o : List Int) (R : Type) (k : Ex → St → Option R) : spec_l4Pack_l1.out x i_ e_ o R k = k (spec_l4Pack_l1.wit x i_ e_ o).1 (spec_l4Pack_l1.wit x i_ e_ o).2 := by
  rfl
noncomputable def spec_l4Pack_l1.F (x : spec_l4Pack_l1.sp.El) (R : Type) (k : Ex → St → Option R) : Option R := (spec_l4Pack_l1 x.1.1 x.1.2.2.1 x.2.2.1 (x.1.2.2.2.2.1, x.2.1)).bind fun t => spec_l4Pack_l1.out x.1.1 x.1.2.2.1 x.2.2.1 t R k
noncomputable def spec_l4Pack_l1.fr : St → ∀ R : Type, (Ex → St → Option R) → Option R := mkFrag spec_l4Pack_l1.sp spec_l4Pack_l1.F
theorem spec_l4Pack_l1.ok : CodeOk Go.Proofs.Try.prog 63 1 (.loop (codeAt (bodyOf Go.Proofs.Try.f137) [1, 1, 1, 1, 0, 1, 0, 0, 1, 0, 0, 1, 1, 1, 0, 0])) spec_l4Pack_l1.fr :=
  loop_sound (sp := spec_l4Pack_l1.sp) rfl (F := spec_l4Pack_l1.F) (ev_sound (hn := spec_l4Pack.hn) (G := spec_l4Pack.G) (L := mkL []) tbok spec_l4Pack.Gok hmix _ (.no) (hok_of (l := []) (by kernel_rfl) trivial)) 
    fun x => ⟨_, _, fun s => spec_l4Pack_l1.B x.1.1 x.1.2.2.1 x.2.2.1 s.1 s.2, fun s => ⟨[(1, .pt tInode_ x.1.1), (3, .seg 3 []), (4, .cl .sh (.int .i64) x.1.2.2.1), (5, .loc 5 []), (6, .cl .sh (.int .i64) s.1)], [(3, some ⟨.reg, .cl .deep (.sl (.int .i64)) s.2⟩), (5, some ⟨.mem, .cl .sh tEntry_ x.2.2.1⟩)]⟩, spec_l4Pack_l1.wit x.1.1 x.1.2.2.1 x.2.2.1, (x.1.2.2.2.2.1, x.2.1), rfl, fun s => spec_l4Pack_l1.eq x.1.1 x.1.2.2.1 x.2.2.1 s.1 s.2, fun R k => congrArg (fun g => (spec_l4Pack_l1 x.1.1 x.1.2.2.1 x.2.2.1 (x.1.2.2.2.2.1, x.2.1)).bind g) (funext fun t => spec_l4Pack_l1.outEq x.1.1 x.1.2.2.1 x.2.2.1 t R k)⟩
noncomputable def spec_l4Pack_l0.wit (x : Inode_) (b : List Int) : Ex × St := (.ex 0, ⟨[(3, .seg 3 [])], [(3, some ⟨.reg, .cl .deep (.sl (.int .i64)) b⟩)]⟩)
theorem spec_l4Pack_l0.eq (x : Inode_) (i_ : Int) (out_ : List Int) : ev tb spec_l4Pack.hn 63 1 spec_l4Pack.G (mkL [(1, spec_l4Pack_l1.fr)]) (codeAt (bodyOf Go.Proofs.Try.f137) [1, 1, 1, 1, 0, 1, 0, 0]) (.two (.no) (.two (.one (.two (.no) (.two (.no) (.two (.no) (.one (.fr 1)))))) (.no))) ⟨[(1, .pt tInode_ x), (3, .seg 3 []), (4, .cl .sh (.int .i64) i_)], [(3, some ⟨.reg, .cl .deep (.sl (.int .i64)) out_⟩)]⟩ (kLp (([1, 3, 4], [3])) [(0, ([3], [3]))] ([], [])) =
    (spec_l4Pack_l0.B x i_ out_).map (fun o => sel o (fun s => .inl ⟨[(1, .pt tInode_ x), (3, .seg 3 []), (4, .cl .sh (.int .i64) s.1)], [(3, some ⟨.reg, .cl .deep (.sl (.int .i64)) s.2⟩)]⟩) (fun b => .inr (spec_l4Pack_l0.wit x b))) := by
  simp only [spec_l4Pack_l0.B, cond_map, bind_map, sel_map, Option.map_some, Option.map_none]
  kernel_rfl
def spec_l4Pack_l0.sp : SP := ⟨[(1, .pt tInode_), (3, .seg 3 []), (4, .cl .sh (.int .i64))], [(3, .reg, .cl .deep (.sl (.int .i64)))]⟩
noncomputable def spec_l4Pack_l0.out (x : Inode_) : FOut (List Int) := fun b _ k => k (.ex 0) ⟨[(3, .seg 3 [])], [(3, some ⟨.reg, .cl .deep (.sl (.int .i64)) b⟩)]⟩
theorem spec_l4Pack_l0.outEq (x : Inode_) (o : List Int) (R : Type) (k : Ex → St → Option R) : spec_l4Pack_l0.out x o R k = k (spec_l4Pack_l0.wit x o).1 (spec_l4Pack_l0.wit x o).2 := by
  rfl
noncomputable def spec_l4Pack_l0.F (x : spec_l4Pack_l0.sp.El) (R : Type) (k : Ex → St → Option R) : Option R := (spec_l4Pack_l0 x.1.1 (x.1.2.2.1, x.2.1)).bind fun t => spec_l4Pack_l0.out x.1.1 t R k
noncomputable def spec_l4Pack_l0.fr : St → ∀ R : Type, (Ex → St → Option R) → Option R := mkFrag spec_l4Pack_l0.sp spec_l4Pack_l0.F
theorem spec_l4Pack_l0.ok : CodeOk Go.Proofs.Try.prog 63 1 (.loop (codeAt (bodyOf Go.Proofs.Try.f137) [1, 1, 1, 1, 0, 1, 0, 0])) spec_l4Pack_l0.fr :=
  loop_sound (sp := spec_l4Pack_l0.sp) rfl (F := spec_l4Pack_l0.F) (ev_sound (hn := spec_l4Pack.hn) (G := spec_l4Pack.G) (L := mkL [(1, spec_l4Pack_l1.fr)]) tbok spec_l4Pack.Gok hmix _ (.two (.no) (.two (.one (.two (.no) (.two (.no) (.two (.no) (.one (.fr 1)))))) (.no))) (hok_of (l := [(1, .loop (codeAt (bodyOf Go.Proofs.Try.f137) [1, 1, 1, 1, 0, 1, 0, 0, 1, 0, 0, 1, 1, 1, 0, 0]))]) (by kernel_rfl) ⟨Lam.cons spec_l4Pack_l1.ok, trivial⟩)) 
    fun x => ⟨_, _, fun s => spec_l4Pack_l0.B x.1.1 s.1 s.2, fun s => ⟨[(1, .pt tInode_ x.1.1), (3, .seg 3 []), (4, .cl .sh (.int .i64) s.1)], [(3, some ⟨.reg, .cl .deep (.sl (.int .i64)) s.2⟩)]⟩, spec_l4Pack_l0.wit x.1.1, (x.1.2.2.1, x.2.1), rfl, fun s => spec_l4Pack_l0.eq x.1.1 s.1 s.2, fun R k => congrArg (fun g => (spec_l4Pack_l0 x.1.1 (x.1.2.2.1, x.2.1)).bind g) (funext fun t => spec_l4Pack_l0.outEq x.1.1 t R k)⟩
noncomputable def spec_l4Pack.L : Lam := mkL [(1, spec_l4Pack_l1.fr), (0, spec_l4Pack_l0.fr)]
def spec_l4Pack.out (t : List Int) : Out := ⟨[.cl .deep (.sl (.int .i64)) t], []⟩
theorem spec_l4Pack.eq (x : Inode_) : ev tb spec_l4Pack.hn 63 1 spec_l4Pack.G spec_l4Pack.L (bodyOf Go.Proofs.Try.f137) (.two (.no) (.two (.no) (.two (.no) (.two (.no) (.two (.two (.no) (.one (.fr 0))) (.no)))))) (initSt [.cl .sh tInode_ x]) (kfin tb spec_l4Pack.hn Go.Proofs.Try.f137 [.sh]) =
    (spec_l4Pack x).map spec_l4Pack.out := by
  simp only [spec_l4Pack, cond_map, bind_map, sel_map, Option.map_some, Option.map_none]
  kernel_rfl
def spec_l4Pack.pts : List PT := [.cl .sh tInode_]
noncomputable def spec_l4Pack.FS : FS := mkFS [.sh] spec_l4Pack.pts (fun x => spec_l4Pack x.1) spec_l4Pack.out
theorem spec_l4Pack.ok : FsOk Go.Proofs.Try.prog 137 spec_l4Pack.FS :=
  fs_ok (fn := Go.Proofs.Try.f137) tbok (by kernel_rfl) (body_some (by kernel_rfl)) (by kernel_rfl) (pts := spec_l4Pack.pts) (ev_sound (nt := 63) (np := 1) (hn := spec_l4Pack.hn) (G := spec_l4Pack.G) (L := spec_l4Pack.L) tbok spec_l4Pack.Gok hmix _ (.two (.no) (.two (.no) (.two (.no) (.two (.no) (.two (.two (.no) (.one (.fr 0))) (.no)))))) (hok_of (l := [(0, .loop (codeAt (bodyOf Go.Proofs.Try.f137) [1, 1, 1, 1, 0, 1, 0, 0]))]) (by kernel_rfl) ⟨Lam.skip rfl (Lam.cons spec_l4Pack_l0.ok), trivial⟩)) rfl rfl
    fun x => spec_l4Pack.eq x.1
noncomputable def spec_l12Format (seq : Int) : Option (Disk_) :=
  (spec_l1New 47).bind fun r => cond (inB 0 r.1.length) ((spec_l4Pack (2, 0, 0, [], [], ())).bind fun r2 => cond (inB 17 ((r.1.set ((0 : Int).toNat) ([7, seq])).length)) ((some ((r.1.set ((0 : Int).toNat) ([7, seq])).set ((17 : Int).toNat) r2)).bind fun d_ => some (d_, r.2.1, r.2.2)) (none)) (none)
noncomputable def spec_l12Format.G : Gam := mkG [(136, spec_l1New.FS), (137, spec_l4Pack.FS)]
theorem spec_l12Format.Gok : GOk Go.Proofs.Try.prog spec_l12Format.G := GOk.cons (spec_l1New.ok) (GOk.cons (spec_l4Pack.ok) (GOk.nil))
def spec_l12Format.hn : Hint := ⟨[], [], [], 0⟩
noncomputable def spec_l12Format.L : Lam := mkL []
def spec_l12Format.out (t : Disk_) : Out := ⟨[.cl .deep tDisk_ t], []⟩
theorem spec_l12Format.eq (seq : Int) : ev tb spec_l12Format.hn 16 1 spec_l12Format.G spec_l12Format.L (bodyOf Go.Proofs.Try.f85) (.no) (initSt [.cl .sh (.int .i64) seq]) (kfin tb spec_l12Format.hn Go.Proofs.Try.f85 [.sh]) =
    (spec_l12Format seq).map spec_l12Format.out := by
  simp only [spec_l12Format, cond_map, bind_map, sel_map, Option.map_some, Option.map_none]
  kernel_rfl
def spec_l12Format.pts : List PT := [.cl .sh (.int .i64)]
noncomputable def spec_l12Format.FS : FS := mkFS [.sh] spec_l12Format.pts (fun x => spec_l12Format x.1) spec_l12Format.out
theorem spec_l12Format.ok : FsOk Go.Proofs.Try.prog 85 spec_l12Format.FS :=
  fs_ok (fn := Go.Proofs.Try.f85) tbok (by kernel_rfl) (body_some (by kernel_rfl)) (by kernel_rfl) (pts := spec_l12Format.pts) (ev_sound (nt := 16) (np := 1) (hn := spec_l12Format.hn) (G := spec_l12Format.G) (L := spec_l12Format.L) tbok spec_l12Format.Gok hmix _ (.no) (hok_of (l := []) (by kernel_rfl) trivial)) rfl rfl
    fun x => spec_l12Format.eq x.1
noncomputable def spec_FormatDisk (seq : Int) : Option (DiskResult_) :=
  (spec_l12Seq seq).bind fun r => cond (!r) (some (3, ([], [], ()), ())) ((spec_l12Format seq).bind fun r2 => some (0, (r2.1, r2.2.1, r2.2.2), ()))
noncomputable def spec_FormatDisk.G : Gam := mkG [(84, spec_l12Seq.FS), (85, spec_l12Format.FS)]
theorem spec_FormatDisk.Gok : GOk Go.Proofs.Try.prog spec_FormatDisk.G := GOk.cons (spec_l12Seq.ok) (GOk.cons (spec_l12Format.ok) (GOk.nil))
def spec_FormatDisk.hn : Hint := ⟨[], [], [], 0⟩
noncomputable def spec_FormatDisk.L : Lam := mkL []
def spec_FormatDisk.out (t : DiskResult_) : Out := ⟨[.cl .deep tDiskResult_ t], []⟩
theorem spec_FormatDisk.eq (seq : Int) : ev tb spec_FormatDisk.hn 10 1 spec_FormatDisk.G spec_FormatDisk.L (bodyOf Go.Proofs.Try.f24) (.no) (initSt [.cl .sh (.int .i64) seq]) (kfin tb spec_FormatDisk.hn Go.Proofs.Try.f24 [.sh]) =
    (spec_FormatDisk seq).map spec_FormatDisk.out := by
  simp only [spec_FormatDisk, cond_map, bind_map, sel_map, Option.map_some, Option.map_none]
  kernel_rfl
def spec_FormatDisk.pts : List PT := [.cl .sh (.int .i64)]
noncomputable def spec_FormatDisk.FS : FS := mkFS [.sh] spec_FormatDisk.pts (fun x => spec_FormatDisk x.1) spec_FormatDisk.out
theorem spec_FormatDisk.ok : FsOk Go.Proofs.Try.prog 24 spec_FormatDisk.FS :=
  fs_ok (fn := Go.Proofs.Try.f24) tbok (by kernel_rfl) (body_some (by kernel_rfl)) (by kernel_rfl) (pts := spec_FormatDisk.pts) (ev_sound (nt := 10) (np := 1) (hn := spec_FormatDisk.hn) (G := spec_FormatDisk.G) (L := spec_FormatDisk.L) tbok spec_FormatDisk.Gok hmix _ (.no) (hok_of (l := []) (by kernel_rfl) trivial)) rfl rfl
    fun x => spec_FormatDisk.eq x.1
noncomputable def spec_l6New  : Option (Fs_) :=
  cond (decide ((0 : Int) ≤ (20 : Int)) && (decide ((20 : Int) ≤ (20 : Int)) && decide ((20 : Int) ≤ 2147483648))) (some ([(2, 0, 0, [], [], ())], List.replicate (20 : Int).toNat ([] : List Int), ())) (none)
noncomputable def spec_l6New.G : Gam := mkG []
theorem spec_l6New.Gok : GOk Go.Proofs.Try.prog spec_l6New.G := GOk.nil
def spec_l6New.hn : Hint := ⟨[], [], [], 0⟩
noncomputable def spec_l6New.L : Lam := mkL []
def spec_l6New.out (t : Fs_) : Out := ⟨[.cl .deep tFs_ t], []⟩
theorem spec_l6New.eq  : ev tb spec_l6New.hn 5 0 spec_l6New.G spec_l6New.L (bodyOf Go.Proofs.Try.f125) (.no) (initSt []) (kfin tb spec_l6New.hn Go.Proofs.Try.f125 []) =
    (spec_l6New).map spec_l6New.out := by
  simp only [spec_l6New, cond_map, bind_map, sel_map, Option.map_some, Option.map_none]
  kernel_rfl
def spec_l6New.pts : List PT := []
noncomputable def spec_l6New.FS : FS := mkFS [] spec_l6New.pts (fun x => spec_l6New) spec_l6New.out
theorem spec_l6New.ok : FsOk Go.Proofs.Try.prog 125 spec_l6New.FS :=
  fs_ok (fn := Go.Proofs.Try.f125) tbok (by kernel_rfl) (body_some (by kernel_rfl)) (by kernel_rfl) (pts := spec_l6New.pts) (ev_sound (nt := 5) (np := 0) (hn := spec_l6New.hn) (G := spec_l6New.G) (L := spec_l6New.L) tbok spec_l6New.Gok hmix _ (.no) (hok_of (l := []) (by kernel_rfl) trivial)) rfl rfl
    fun x => spec_l6New.eq
noncomputable def spec_NewWorld (seq : Int) : Option (WorldResult_) :=
  (spec_FormatDisk seq).bind fun r => cond (r.1 != 0) (some (r.1, (0, 0, 0, [], [], ([], [], ()), ()), (([], [], ()), ([], [], ()), ([], [], ()), ()), ())) ((spec_l6New).bind fun r2 => (spec_l6New).bind fun r3 => some (0, (0, 0, 0, [], [], ([], [], ()), ()), ((r.2.1.1, r.2.1.2.1, r.2.1.2.2), (r2.1, r2.2.1, r2.2.2), (r3.1, r3.2.1, r3.2.2), ()), ()))
noncomputable def spec_NewWorld.G : Gam := mkG [(24, spec_FormatDisk.FS), (125, spec_l6New.FS)]
theorem spec_NewWorld.Gok : GOk Go.Proofs.Try.prog spec_NewWorld.G := GOk.cons (spec_FormatDisk.ok) (GOk.cons (spec_l6New.ok) (GOk.nil))
def spec_NewWorld.hn : Hint := ⟨[], [], [], 0⟩
noncomputable def spec_NewWorld.L : Lam := mkL []
def spec_NewWorld.out (t : WorldResult_) : Out := ⟨[.cl .deep tWorldResult_ t], []⟩
theorem spec_NewWorld.eq (seq : Int) : ev tb spec_NewWorld.hn 18 1 spec_NewWorld.G spec_NewWorld.L (bodyOf Go.Proofs.Try.f63) (.no) (initSt [.cl .sh (.int .i64) seq]) (kfin tb spec_NewWorld.hn Go.Proofs.Try.f63 [.sh]) =
    (spec_NewWorld seq).map spec_NewWorld.out := by
  simp only [spec_NewWorld, cond_map, bind_map, sel_map, Option.map_some, Option.map_none]
  kernel_rfl
def spec_NewWorld.pts : List PT := [.cl .sh (.int .i64)]
noncomputable def spec_NewWorld.FS : FS := mkFS [.sh] spec_NewWorld.pts (fun x => spec_NewWorld x.1) spec_NewWorld.out
theorem spec_NewWorld.ok : FsOk Go.Proofs.Try.prog 63 spec_NewWorld.FS :=
  fs_ok (fn := Go.Proofs.Try.f63) tbok (by kernel_rfl) (body_some (by kernel_rfl)) (by kernel_rfl) (pts := spec_NewWorld.pts) (ev_sound (nt := 18) (np := 1) (hn := spec_NewWorld.hn) (G := spec_NewWorld.G) (L := spec_NewWorld.L) tbok spec_NewWorld.Gok hmix _ (.no) (hok_of (l := []) (by kernel_rfl) trivial)) rfl rfl
    fun x => spec_NewWorld.eq x.1
noncomputable def impl_within (n : Int) (low : Int) (high : Int) : Option (Bool) :=
  (some (cond (decide (n ≥ low)) (decide (n ≤ high)) false)).bind fun v => some v
noncomputable def impl_within.G : Gam := mkG []
theorem impl_within.Gok : GOk Go.Proofs.Try.prog impl_within.G := GOk.nil
def impl_within.hn : Hint := ⟨[], [], [], 0⟩
noncomputable def impl_within.L : Lam := mkL []
def impl_within.out (t : Bool) : Out := ⟨[.cl .sh .bool t], []⟩
theorem impl_within.eq (n : Int) (low : Int) (high : Int) : ev tb impl_within.hn 15 3 impl_within.G impl_within.L (bodyOf Go.Proofs.Try.f95) (.no) (initSt [.cl .sh (.int .i64) n, .cl .sh (.int .i64) low, .cl .sh (.int .i64) high]) (kfin tb impl_within.hn Go.Proofs.Try.f95 [.sh, .sh, .sh]) =
    (impl_within n low high).map impl_within.out := by
  simp only [impl_within, cond_map, bind_map, sel_map, Option.map_some, Option.map_none]
  kernel_rfl
def impl_within.pts : List PT := [.cl .sh (.int .i64), .cl .sh (.int .i64), .cl .sh (.int .i64)]
noncomputable def impl_within.FS : FS := mkFS [.sh, .sh, .sh] impl_within.pts (fun x => impl_within x.1 x.2.1 x.2.2.1) impl_within.out
theorem impl_within.ok : FsOk Go.Proofs.Try.prog 95 impl_within.FS :=
  fs_ok (fn := Go.Proofs.Try.f95) tbok (by kernel_rfl) (body_some (by kernel_rfl)) (by kernel_rfl) (pts := impl_within.pts) (ev_sound (nt := 15) (np := 3) (hn := impl_within.hn) (G := impl_within.G) (L := impl_within.L) tbok impl_within.Gok hmix _ (.no) (hok_of (l := []) (by kernel_rfl) trivial)) rfl rfl
    fun x => impl_within.eq x.1 x.2.1 x.2.2.1
noncomputable def impl_isSeq (seq : Int) : Option (Bool) :=
  (impl_within seq 1 60000).bind fun r => some r
noncomputable def impl_isSeq.G : Gam := mkG [(95, impl_within.FS)]
theorem impl_isSeq.Gok : GOk Go.Proofs.Try.prog impl_isSeq.G := GOk.cons (impl_within.ok) (GOk.nil)
def impl_isSeq.hn : Hint := ⟨[], [], [], 0⟩
noncomputable def impl_isSeq.L : Lam := mkL []
def impl_isSeq.out (t : Bool) : Out := ⟨[.cl .sh .bool t], []⟩
theorem impl_isSeq.eq (seq : Int) : ev tb impl_isSeq.hn 5 1 impl_isSeq.G impl_isSeq.L (bodyOf Go.Proofs.Try.f86) (.no) (initSt [.cl .sh (.int .i64) seq]) (kfin tb impl_isSeq.hn Go.Proofs.Try.f86 [.sh]) =
    (impl_isSeq seq).map impl_isSeq.out := by
  simp only [impl_isSeq, cond_map, bind_map, sel_map, Option.map_some, Option.map_none]
  kernel_rfl
def impl_isSeq.pts : List PT := [.cl .sh (.int .i64)]
noncomputable def impl_isSeq.FS : FS := mkFS [.sh] impl_isSeq.pts (fun x => impl_isSeq x.1) impl_isSeq.out
theorem impl_isSeq.ok : FsOk Go.Proofs.Try.prog 86 impl_isSeq.FS :=
  fs_ok (fn := Go.Proofs.Try.f86) tbok (by kernel_rfl) (body_some (by kernel_rfl)) (by kernel_rfl) (pts := impl_isSeq.pts) (ev_sound (nt := 5) (np := 1) (hn := impl_isSeq.hn) (G := impl_isSeq.G) (L := impl_isSeq.L) tbok impl_isSeq.Gok hmix _ (.no) (hok_of (l := []) (by kernel_rfl) trivial)) rfl rfl
    fun x => impl_isSeq.eq x.1
noncomputable def impl_superWords (seq : Int) : Option (List Int) :=
  some ([7, seq])
noncomputable def impl_superWords.G : Gam := mkG []
theorem impl_superWords.Gok : GOk Go.Proofs.Try.prog impl_superWords.G := GOk.nil
def impl_superWords.hn : Hint := ⟨[], [], [], 0⟩
noncomputable def impl_superWords.L : Lam := mkL []
def impl_superWords.out (t : List Int) : Out := ⟨[.cl .deep (.sl (.int .i64)) t], []⟩
theorem impl_superWords.eq (seq : Int) : ev tb impl_superWords.hn 5 1 impl_superWords.G impl_superWords.L (bodyOf Go.Proofs.Try.f87) (.no) (initSt [.cl .sh (.int .i64) seq]) (kfin tb impl_superWords.hn Go.Proofs.Try.f87 [.sh]) =
    (impl_superWords seq).map impl_superWords.out := by
  simp only [impl_superWords, cond_map, bind_map, sel_map, Option.map_some, Option.map_none]
  kernel_rfl
def impl_superWords.pts : List PT := [.cl .sh (.int .i64)]
noncomputable def impl_superWords.FS : FS := mkFS [.sh] impl_superWords.pts (fun x => impl_superWords x.1) impl_superWords.out
theorem impl_superWords.ok : FsOk Go.Proofs.Try.prog 87 impl_superWords.FS :=
  fs_ok (fn := Go.Proofs.Try.f87) tbok (by kernel_rfl) (body_some (by kernel_rfl)) (by kernel_rfl) (pts := impl_superWords.pts) (ev_sound (nt := 5) (np := 1) (hn := impl_superWords.hn) (G := impl_superWords.G) (L := impl_superWords.L) tbok impl_superWords.Gok hmix _ (.no) (hok_of (l := []) (by kernel_rfl) trivial)) rfl rfl
    fun x => impl_superWords.eq x.1
noncomputable def impl_size_Entry (l : List Entry_) : Option (Int) :=
  some (l.length : Int)
noncomputable def impl_size_Entry.G : Gam := mkG []
theorem impl_size_Entry.Gok : GOk Go.Proofs.Try.prog impl_size_Entry.G := GOk.nil
def impl_size_Entry.hn : Hint := ⟨[], [], [], 0⟩
noncomputable def impl_size_Entry.L : Lam := mkL []
def impl_size_Entry.out (t : Int) : Out := ⟨[.cl .sh (.int .i64) t], []⟩
theorem impl_size_Entry.eq (l : List Entry_) : ev tb impl_size_Entry.hn 5 1 impl_size_Entry.G impl_size_Entry.L (bodyOf Go.Proofs.Try.f138) (.no) (initSt [.cl .sh (.sl tEntry_) l]) (kfin tb impl_size_Entry.hn Go.Proofs.Try.f138 [.sh]) =
    (impl_size_Entry l).map impl_size_Entry.out := by
  simp only [impl_size_Entry, cond_map, bind_map, sel_map, Option.map_some, Option.map_none]
  kernel_rfl
def impl_size_Entry.pts : List PT := [.cl .sh (.sl tEntry_)]
noncomputable def impl_size_Entry.FS : FS := mkFS [.sh] impl_size_Entry.pts (fun x => impl_size_Entry x.1) impl_size_Entry.out
theorem impl_size_Entry.ok : FsOk Go.Proofs.Try.prog 138 impl_size_Entry.FS :=
  fs_ok (fn := Go.Proofs.Try.f138) tbok (by kernel_rfl) (body_some (by kernel_rfl)) (by kernel_rfl) (pts := impl_size_Entry.pts) (ev_sound (nt := 5) (np := 1) (hn := impl_size_Entry.hn) (G := impl_size_Entry.G) (L := impl_size_Entry.L) tbok impl_size_Entry.Gok hmix _ (.no) (hok_of (l := []) (by kernel_rfl) trivial)) rfl rfl
    fun x => impl_size_Entry.eq x.1
noncomputable def impl_packInode_l1.B (v : List Entry_) (v2 : Int) (v3 : Int) (v5 : Int) (e_ : Entry_) (v6 : Int) (words_2 : List Int) : Option ((Int × List Int) ⊕ (List Int)) :=
  cond (decide (v6 < v5)) (cond (inB v6 e_.1.length) ((some (words_2 ++ ([w64 (((e_.1.getD v6.toNat 0).toNat : Int))]))).bind fun v7 => cond (decide (v7.length ≤ 2147483648)) (some (.inl (w64 (v6 + 1), v7))) (none)) (none)) (some (.inr words_2))
noncomputable def impl_packInode_l1 (v : List Entry_) (v2 : Int) (v3 : Int) (v5 : Int) (e_ : Entry_) : (Int × List Int) → Option (List Int) :=
  loopL fun s => impl_packInode_l1.B v v2 v3 v5 e_ s.1 s.2
noncomputable def impl_packInode_l0.B (v : List Entry_) (v2 : Int) (v3 : Int) (words_ : List Int) : Option ((Int × List Int) ⊕ (List Int)) :=
  cond (decide (v3 < v2)) (cond (inB v3 v.length) ((some (words_ ++ ([((v.getD v3.toNat zEntry_).2).1, (((v.getD v3.toNat zEntry_).1).length : Int)]))).bind fun v4 => cond (decide (v4.length ≤ 2147483648)) ((impl_packInode_l1 v v2 v3 (((v.getD v3.toNat zEntry_).1).length : Int) (v.getD v3.toNat zEntry_) (0, v4)).bind fun o => some (.inl (w64 (v3 + 1), o))) (none)) (none)) (some (.inr words_))
noncomputable def impl_packInode_l0 (v : List Entry_) (v2 : Int) : (Int × List Int) → Option (List Int) :=
  loopL fun s => impl_packInode_l0.B v v2 s.1 s.2
noncomputable def impl_packInode (x : Inode_) : Option (List Int) :=
  cond (decide ((([x.1, x.2.1, x.2.2.1]) ++ x.2.2.2.1).length ≤ 2147483648)) (cond (x.1 != 2) (some (([x.1, x.2.1, x.2.2.1]) ++ x.2.2.2.1)) ((impl_size_Entry x.2.2.2.2.1).bind fun r => cond (decide (((([x.1, x.2.1, x.2.2.1]) ++ x.2.2.2.1) ++ ([r])).length ≤ 2147483648)) ((impl_packInode_l0 x.2.2.2.2.1 (x.2.2.2.2.1.length : Int) (0, (([x.1, x.2.1, x.2.2.1]) ++ x.2.2.2.1) ++ ([r]))).bind fun o2 => some o2) (none))) (none)
noncomputable def impl_packInode.G : Gam := mkG [(138, impl_size_Entry.FS)]
theorem impl_packInode.Gok : GOk Go.Proofs.Try.prog impl_packInode.G := GOk.cons (impl_size_Entry.ok) (GOk.nil)
def impl_packInode.hn : Hint := ⟨[1], [], [], 0⟩
noncomputable def impl_packInode_l1.wit (v : List Entry_) (v2 : Int) (v3 : Int) (v5 : Int) (e_ : Entry_) (b : List Int) : Ex × St := (.ex 2, ⟨[(3, .seg 3 []), (28, .cl .sh (.sl tEntry_) v), (29, .cl .sh (.int .i64) v2), (30, .cl .sh (.int .i64) v3)], [(3, some ⟨.reg, .cl .deep (.sl (.int .i64)) b⟩)]⟩)
theorem impl_packInode_l1.eq (v : List Entry_) (v2 : Int) (v3 : Int) (v5 : Int) (e_ : Entry_) (v6 : Int) (words_2 : List Int) : ev tb impl_packInode.hn 59 1 impl_packInode.G (mkL []) (codeAt (bodyOf Go.Proofs.Try.f88) [1, 1, 1, 1, 0, 1, 0, 0, 1, 1, 0, 0, 1, 1, 1, 0, 0]) (.no) ⟨[(3, .seg 3 []), (5, .loc 5 []), (28, .cl .sh (.sl tEntry_) v), (29, .cl .sh (.int .i64) v2), (30, .cl .sh (.int .i64) v3), (44, .cl .sh (.int .i64) v5), (45, .cl .sh (.int .i64) v6)], [(3, some ⟨.reg, .cl .deep (.sl (.int .i64)) words_2⟩), (5, some ⟨.mem, .cl .sh tEntry_ e_⟩)]⟩ (kLp (([3, 5, 28, 29, 30, 44, 45], [3, 5])) [(2, ([3, 28, 29, 30], [3]))] ([], [])) =
    (impl_packInode_l1.B v v2 v3 v5 e_ v6 words_2).map (fun o => sel o (fun s => .inl ⟨[(3, .seg 3 []), (5, .loc 5 []), (28, .cl .sh (.sl tEntry_) v), (29, .cl .sh (.int .i64) v2), (30, .cl .sh (.int .i64) v3), (44, .cl .sh (.int .i64) v5), (45, .cl .sh (.int .i64) s.1)], [(3, some ⟨.reg, .cl .deep (.sl (.int .i64)) s.2⟩), (5, some ⟨.mem, .cl .sh tEntry_ e_⟩)]⟩) (fun b => .inr (impl_packInode_l1.wit v v2 v3 v5 e_ b))) := by
  simp only [impl_packInode_l1.B, cond_map, bind_map, sel_map, Option.map_some, Option.map_none]
  kernel_rfl
def impl_packInode_l1.sp : SP := ⟨[(3, .seg 3 []), (5, .loc 5 []), (28, .cl .sh (.sl tEntry_)), (29, .cl .sh (.int .i64)), (30, .cl .sh (.int .i64)), (44, .cl .sh (.int .i64)), (45, .cl .sh (.int .i64))], [(3, .reg, .cl .deep (.sl (.int .i64))), (5, .mem, .cl .sh tEntry_)]⟩
noncomputable def impl_packInode_l1.out (v : List Entry_) (v2 : Int) (v3 : Int) (v5 : Int) (e_ : Entry_) : FOut (List Int) := fun b _ k => k (.ex 2) ⟨[(3, .seg 3 []), (28, .cl .sh (.sl tEntry_) v), (29, .cl .sh (.int .i64) v2), (30, .cl .sh (.int .i64) v3)], [(3, some ⟨.reg, .cl .deep (.sl (.int .i64)) b⟩)]⟩
theorem impl_packInode_l1.outEq (v : List Entry_) (v2 : Int) (v3 : Int) (v5 : Int) (e_ : Entry_) (o : List Int) (R : Type) (k : Ex → St → Option R) : impl_packInode_l1.out v v2 v3 v5 e_ o R k = k (impl_packInode_l1.wit v v2 v3 v5 e_ o).1 (impl_packInode_l1.wit v v2 v3 v5 e_ o).2 := by
  rfl
noncomputable def impl_packInode_l1.F (x : impl_packInode_l1.sp.El) (R : Type) (k : Ex → St → Option R) : Option R := (impl_packInode_l1 x.1.2.2.1 x.1.2.2.2.1 x.1.2.2.2.2.1 x.1.2.2.2.2.2.1 x.2.2.1 (x.1.2.2.2.2.2.2.1, x.2.1)).bind fun t => impl_packInode_l1.out x.1.2.2.1 x.1.2.2.2.1 x.1.2.2.2.2.1 x.1.2.2.2.2.2.1 x.2.2.1 t R k
noncomputable def impl_packInode_l1.fr : St → ∀ R : Type, (Ex → St → Option R) → Option R := mkFrag impl_packInode_l1.sp impl_packInode_l1.F
theorem impl_packInode_l1.ok : CodeOk Go.Proofs.Try.prog 59 1 (.loop (codeAt (bodyOf Go.Proofs.Try.f88) [1, 1, 1, 1, 0, 1, 0, 0, 1, 1, 0, 0, 1, 1, 1, 0, 0])) impl_packInode_l1.fr :=
  loop_sound (sp := impl_packInode_l1.sp) rfl (F := impl_packInode_l1.F) (ev_sound (hn := impl_packInode.hn) (G := impl_packInode.G) (L := mkL []) tbok impl_packInode.Gok hmix _ (.no) (hok_of (l := []) (by kernel_rfl) trivial)) 
    fun x => ⟨_, _, fun s => impl_packInode_l1.B x.1.2.2.1 x.1.2.2.2.1 x.1.2.2.2.2.1 x.1.2.2.2.2.2.1 x.2.2.1 s.1 s.2, fun s => ⟨[(3, .seg 3 []), (5, .loc 5 []), (28, .cl .sh (.sl tEntry_) x.1.2.2.1), (29, .cl .sh (.int .i64) x.1.2.2.2.1), (30, .cl .sh (.int .i64) x.1.2.2.2.2.1), (44, .cl .sh (.int .i64) x.1.2.2.2.2.2.1), (45, .cl .sh (.int .i64) s.1)], [(3, some ⟨.reg, .cl .deep (.sl (.int .i64)) s.2⟩), (5, some ⟨.mem, .cl .sh tEntry_ x.2.2.1⟩)]⟩, impl_packInode_l1.wit x.1.2.2.1 x.1.2.2.2.1 x.1.2.2.2.2.1 x.1.2.2.2.2.2.1 x.2.2.1, (x.1.2.2.2.2.2.2.1, x.2.1), rfl, fun s => impl_packInode_l1.eq x.1.2.2.1 x.1.2.2.2.1 x.1.2.2.2.2.1 x.1.2.2.2.2.2.1 x.2.2.1 s.1 s.2, fun R k => congrArg (fun g => (impl_packInode_l1 x.1.2.2.1 x.1.2.2.2.1 x.1.2.2.2.2.1 x.1.2.2.2.2.2.1 x.2.2.1 (x.1.2.2.2.2.2.2.1, x.2.1)).bind g) (funext fun t => impl_packInode_l1.outEq x.1.2.2.1 x.1.2.2.2.1 x.1.2.2.2.2.1 x.1.2.2.2.2.2.1 x.2.2.1 t R k)⟩
noncomputable def impl_packInode_l0.wit (v : List Entry_) (v2 : Int) (b : List Int) : Ex × St := (.ex 0, ⟨[(3, .seg 3 [])], [(3, some ⟨.reg, .cl .deep (.sl (.int .i64)) b⟩)]⟩)
theorem impl_packInode_l0.eq (v : List Entry_) (v2 : Int) (v3 : Int) (words_ : List Int) : ev tb impl_packInode.hn 59 1 impl_packInode.G (mkL [(1, impl_packInode_l1.fr)]) (codeAt (bodyOf Go.Proofs.Try.f88) [1, 1, 1, 1, 0, 1, 0, 0]) (.two (.no) (.two (.no) (.two (.one (.two (.no) (.two (.no) (.two (.no) (.one (.fr 1)))))) (.no)))) ⟨[(3, .seg 3 []), (28, .cl .sh (.sl tEntry_) v), (29, .cl .sh (.int .i64) v2), (30, .cl .sh (.int .i64) v3)], [(3, some ⟨.reg, .cl .deep (.sl (.int .i64)) words_⟩)]⟩ (kLp (([3, 28, 29, 30], [3])) [(0, ([3], [3]))] ([], [])) =
    (impl_packInode_l0.B v v2 v3 words_).map (fun o => sel o (fun s => .inl ⟨[(3, .seg 3 []), (28, .cl .sh (.sl tEntry_) v), (29, .cl .sh (.int .i64) v2), (30, .cl .sh (.int .i64) s.1)], [(3, some ⟨.reg, .cl .deep (.sl (.int .i64)) s.2⟩)]⟩) (fun b => .inr (impl_packInode_l0.wit v v2 b))) := by
  simp only [impl_packInode_l0.B, cond_map, bind_map, sel_map, Option.map_some, Option.map_none]
  kernel_rfl
def impl_packInode_l0.sp : SP := ⟨[(3, .seg 3 []), (28, .cl .sh (.sl tEntry_)), (29, .cl .sh (.int .i64)), (30, .cl .sh (.int .i64))], [(3, .reg, .cl .deep (.sl (.int .i64)))]⟩
noncomputable def impl_packInode_l0.out (v : List Entry_) (v2 : Int) : FOut (List Int) := fun b _ k => k (.ex 0) ⟨[(3, .seg 3 [])], [(3, some ⟨.reg, .cl .deep (.sl (.int .i64)) b⟩)]⟩
theorem impl_packInode_l0.outEq (v : List Entry_) (v2 : Int) (o : List Int) (R : Type) (k : Ex → St → Option R) : impl_packInode_l0.out v v2 o R k = k (impl_packInode_l0.wit v v2 o).1 (impl_packInode_l0.wit v v2 o).2 := by
  rfl
noncomputable def impl_packInode_l0.F (x : impl_packInode_l0.sp.El) (R : Type) (k : Ex → St → Option R) : Option R := (impl_packInode_l0 x.1.2.1 x.1.2.2.1 (x.1.2.2.2.1, x.2.1)).bind fun t => impl_packInode_l0.out x.1.2.1 x.1.2.2.1 t R k
noncomputable def impl_packInode_l0.fr : St → ∀ R : Type, (Ex → St → Option R) → Option R := mkFrag impl_packInode_l0.sp impl_packInode_l0.F
theorem impl_packInode_l0.ok : CodeOk Go.Proofs.Try.prog 59 1 (.loop (codeAt (bodyOf Go.Proofs.Try.f88) [1, 1, 1, 1, 0, 1, 0, 0])) impl_packInode_l0.fr :=
  loop_sound (sp := impl_packInode_l0.sp) rfl (F := impl_packInode_l0.F) (ev_sound (hn := impl_packInode.hn) (G := impl_packInode.G) (L := mkL [(1, impl_packInode_l1.fr)]) tbok impl_packInode.Gok hmix _ (.two (.no) (.two (.no) (.two (.one (.two (.no) (.two (.no) (.two (.no) (.one (.fr 1)))))) (.no)))) (hok_of (l := [(1, .loop (codeAt (bodyOf Go.Proofs.Try.f88) [1, 1, 1, 1, 0, 1, 0, 0, 1, 1, 0, 0, 1, 1, 1, 0, 0]))]) (by kernel_rfl) ⟨Lam.cons impl_packInode_l1.ok, trivial⟩)) 
    fun x => ⟨_, _, fun s => impl_packInode_l0.B x.1.2.1 x.1.2.2.1 s.1 s.2, fun s => ⟨[(3, .seg 3 []), (28, .cl .sh (.sl tEntry_) x.1.2.1), (29, .cl .sh (.int .i64) x.1.2.2.1), (30, .cl .sh (.int .i64) s.1)], [(3, some ⟨.reg, .cl .deep (.sl (.int .i64)) s.2⟩)]⟩, impl_packInode_l0.wit x.1.2.1 x.1.2.2.1, (x.1.2.2.2.1, x.2.1), rfl, fun s => impl_packInode_l0.eq x.1.2.1 x.1.2.2.1 s.1 s.2, fun R k => congrArg (fun g => (impl_packInode_l0 x.1.2.1 x.1.2.2.1 (x.1.2.2.2.1, x.2.1)).bind g) (funext fun t => impl_packInode_l0.outEq x.1.2.1 x.1.2.2.1 t R k)⟩
noncomputable def impl_packInode.L : Lam := mkL [(1, impl_packInode_l1.fr), (0, impl_packInode_l0.fr)]
def impl_packInode.out (t : List Int) : Out := ⟨[.cl .deep (.sl (.int .i64)) t], []⟩
theorem impl_packInode.eq (x : Inode_) : ev tb impl_packInode.hn 59 1 impl_packInode.G impl_packInode.L (bodyOf Go.Proofs.Try.f88) (.two (.no) (.two (.no) (.two (.no) (.two (.no) (.two (.two (.no) (.one (.fr 0))) (.no)))))) (initSt [.cl .sh tInode_ x]) (kfin tb impl_packInode.hn Go.Proofs.Try.f88 [.sh]) =
    (impl_packInode x).map impl_packInode.out := by
  simp only [impl_packInode, cond_map, bind_map, sel_map, Option.map_some, Option.map_none]
  kernel_rfl
def impl_packInode.pts : List PT := [.cl .sh tInode_]
noncomputable def impl_packInode.FS : FS := mkFS [.sh] impl_packInode.pts (fun x => impl_packInode x.1) impl_packInode.out
theorem impl_packInode.ok : FsOk Go.Proofs.Try.prog 88 impl_packInode.FS :=
  fs_ok (fn := Go.Proofs.Try.f88) tbok (by kernel_rfl) (body_some (by kernel_rfl)) (by kernel_rfl) (pts := impl_packInode.pts) (ev_sound (nt := 59) (np := 1) (hn := impl_packInode.hn) (G := impl_packInode.G) (L := impl_packInode.L) tbok impl_packInode.Gok hmix _ (.two (.no) (.two (.no) (.two (.no) (.two (.no) (.two (.two (.no) (.one (.fr 0))) (.no)))))) (hok_of (l := [(0, .loop (codeAt (bodyOf Go.Proofs.Try.f88) [1, 1, 1, 1, 0, 1, 0, 0]))]) (by kernel_rfl) ⟨Lam.skip rfl (Lam.cons impl_packInode_l0.ok), trivial⟩)) rfl rfl
    fun x => impl_packInode.eq x.1
noncomputable def impl_FormatDisk (seq : Int) : Option (DiskResult_) :=
  (impl_isSeq seq).bind fun r => cond (!r) (some (3, ([], [], ()), ())) (cond (decide ((0 : Int) ≤ (47 : Int)) && (decide ((47 : Int) ≤ (47 : Int)) && decide ((47 : Int) ≤ 2147483648))) ((impl_superWords seq).bind fun r2 => cond (inB 0 ((List.replicate (47 : Int).toNat ([] : List Int)).length)) ((some ((List.replicate (47 : Int).toNat ([] : List Int)).set ((0 : Int).toNat) r2)).bind fun d_ => (impl_packInode (2, 0, 0, [], [], ())).bind fun r3 => cond (inB 17 d_.length) (some (0, (d_.set ((17 : Int).toNat) r3, [], ()), ())) (none)) (none)) (none))
noncomputable def impl_FormatDisk.G : Gam := mkG [(86, impl_isSeq.FS), (87, impl_superWords.FS), (88, impl_packInode.FS)]
theorem impl_FormatDisk.Gok : GOk Go.Proofs.Try.prog impl_FormatDisk.G := GOk.cons (impl_isSeq.ok) (GOk.cons (impl_superWords.ok) (GOk.cons (impl_packInode.ok) (GOk.nil)))
def impl_FormatDisk.hn : Hint := ⟨[], [], [], 0⟩
noncomputable def impl_FormatDisk.L : Lam := mkL []
def impl_FormatDisk.out (t : DiskResult_) : Out := ⟨[.cl .deep tDiskResult_ t], []⟩
theorem impl_FormatDisk.eq (seq : Int) : ev tb impl_FormatDisk.hn 22 1 impl_FormatDisk.G impl_FormatDisk.L (bodyOf Go.Proofs.Try.f25) (.no) (initSt [.cl .sh (.int .i64) seq]) (kfin tb impl_FormatDisk.hn Go.Proofs.Try.f25 [.sh]) =
    (impl_FormatDisk seq).map impl_FormatDisk.out := by
  simp only [impl_FormatDisk, cond_map, bind_map, sel_map, Option.map_some, Option.map_none]
  kernel_rfl
def impl_FormatDisk.pts : List PT := [.cl .sh (.int .i64)]
noncomputable def impl_FormatDisk.FS : FS := mkFS [.sh] impl_FormatDisk.pts (fun x => impl_FormatDisk x.1) impl_FormatDisk.out
theorem impl_FormatDisk.ok : FsOk Go.Proofs.Try.prog 25 impl_FormatDisk.FS :=
  fs_ok (fn := Go.Proofs.Try.f25) tbok (by kernel_rfl) (body_some (by kernel_rfl)) (by kernel_rfl) (pts := impl_FormatDisk.pts) (ev_sound (nt := 22) (np := 1) (hn := impl_FormatDisk.hn) (G := impl_FormatDisk.G) (L := impl_FormatDisk.L) tbok impl_FormatDisk.Gok hmix _ (.no) (hok_of (l := []) (by kernel_rfl) trivial)) rfl rfl
    fun x => impl_FormatDisk.eq x.1
noncomputable def slices_Clone_byte (s : List Int) : Option (List Int) := cloneP s
noncomputable def slices_Clone_byte.FS : FS := mkFS [.sh] [.cl .sh (.sl (.int .u8))] (fun x => slices_Clone_byte x.1) fun y => ⟨[.cl .deep (.sl (.int .u8)) y], []⟩
theorem slices_Clone_byte.ok : FsOk Go.Proofs.Try.prog 173 slices_Clone_byte.FS :=
  clone_fs (hn := ⟨[], [], [], 0⟩) tbok hmix (fn := Go.Proofs.Try.f173) (by kernel_rfl) (body_some (by kernel_rfl)) (by kernel_rfl) (by kernel_rfl) .deep (.int .u8) 22 22 5 (by kernel_rfl) (by kernel_rfl) (by kernel_rfl) (by kernel_rfl) (by kernel_rfl) (by kernel_rfl) (by kernel_rfl) (by kernel_rfl) (fun xs => by kernel_rfl) (fun xs => by kernel_rfl) (fun xs => by kernel_rfl) (fun xs => by kernel_rfl)
noncomputable def impl_cloneData_l0.B (data : List (List Int)) (v : Int) (v2 : Int) (out_ : List (List Int)) : Option ((Int × List (List Int)) ⊕ (List (List Int))) :=
  cond (decide (v2 < v)) (cond (inB v2 data.length) ((slices_Clone_byte (data.getD v2.toNat [])).bind fun r => cond (decide ((out_ ++ ([r])).length ≤ 2147483648)) (some (.inl (w64 (v2 + 1), out_ ++ ([r])))) (none)) (none)) (some (.inr out_))
noncomputable def impl_cloneData_l0 (data : List (List Int)) (v : Int) : (Int × List (List Int)) → Option (List (List Int)) :=
  loopL fun s => impl_cloneData_l0.B data v s.1 s.2
noncomputable def impl_cloneData (data : List (List Int)) : Option (List (List Int)) :=
  (impl_cloneData_l0 data (data.length : Int) (0, [])).bind fun o => some o
noncomputable def impl_cloneData.G : Gam := mkG [(173, slices_Clone_byte.FS)]
theorem impl_cloneData.Gok : GOk Go.Proofs.Try.prog impl_cloneData.G := GOk.cons (slices_Clone_byte.ok) (GOk.nil)
def impl_cloneData.hn : Hint := ⟨[], [], [], 0⟩
noncomputable def impl_cloneData_l0.wit (data : List (List Int)) (v : Int) (b : List (List Int)) : Ex × St := (.ex 0, ⟨[(3, .seg 3 [])], [(3, some ⟨.reg, .cl .deep (.sl (.sl (.int .u8))) b⟩)]⟩)
theorem impl_cloneData_l0.eq (data : List (List Int)) (v : Int) (v2 : Int) (out_ : List (List Int)) : ev tb impl_cloneData.hn 19 1 impl_cloneData.G (mkL []) (codeAt (bodyOf Go.Proofs.Try.f157) [1, 1, 0, 1, 0, 0]) (.no) ⟨[(3, .seg 3 []), (6, .cl .sh (.sl (.sl (.int .u8))) data), (7, .cl .sh (.int .i64) v), (8, .cl .sh (.int .i64) v2)], [(3, some ⟨.reg, .cl .deep (.sl (.sl (.int .u8))) out_⟩)]⟩ (kLp (([3, 6, 7, 8], [3])) [(0, ([3], [3]))] ([], [])) =
    (impl_cloneData_l0.B data v v2 out_).map (fun o => sel o (fun s => .inl ⟨[(3, .seg 3 []), (6, .cl .sh (.sl (.sl (.int .u8))) data), (7, .cl .sh (.int .i64) v), (8, .cl .sh (.int .i64) s.1)], [(3, some ⟨.reg, .cl .deep (.sl (.sl (.int .u8))) s.2⟩)]⟩) (fun b => .inr (impl_cloneData_l0.wit data v b))) := by
  simp only [impl_cloneData_l0.B, cond_map, bind_map, sel_map, Option.map_some, Option.map_none]
  kernel_rfl
def impl_cloneData_l0.sp : SP := ⟨[(3, .seg 3 []), (6, .cl .sh (.sl (.sl (.int .u8)))), (7, .cl .sh (.int .i64)), (8, .cl .sh (.int .i64))], [(3, .reg, .cl .deep (.sl (.sl (.int .u8))))]⟩
noncomputable def impl_cloneData_l0.out (data : List (List Int)) (v : Int) : FOut (List (List Int)) := fun b _ k => k (.ex 0) ⟨[(3, .seg 3 [])], [(3, some ⟨.reg, .cl .deep (.sl (.sl (.int .u8))) b⟩)]⟩
theorem impl_cloneData_l0.outEq (data : List (List Int)) (v : Int) (o : List (List Int)) (R : Type) (k : Ex → St → Option R) : impl_cloneData_l0.out data v o R k = k (impl_cloneData_l0.wit data v o).1 (impl_cloneData_l0.wit data v o).2 := by
  rfl
noncomputable def impl_cloneData_l0.F (x : impl_cloneData_l0.sp.El) (R : Type) (k : Ex → St → Option R) : Option R := (impl_cloneData_l0 x.1.2.1 x.1.2.2.1 (x.1.2.2.2.1, x.2.1)).bind fun t => impl_cloneData_l0.out x.1.2.1 x.1.2.2.1 t R k
noncomputable def impl_cloneData_l0.fr : St → ∀ R : Type, (Ex → St → Option R) → Option R := mkFrag impl_cloneData_l0.sp impl_cloneData_l0.F
theorem impl_cloneData_l0.ok : CodeOk Go.Proofs.Try.prog 19 1 (.loop (codeAt (bodyOf Go.Proofs.Try.f157) [1, 1, 0, 1, 0, 0])) impl_cloneData_l0.fr :=
  loop_sound (sp := impl_cloneData_l0.sp) rfl (F := impl_cloneData_l0.F) (ev_sound (hn := impl_cloneData.hn) (G := impl_cloneData.G) (L := mkL []) tbok impl_cloneData.Gok hmix _ (.no) (hok_of (l := []) (by kernel_rfl) trivial)) 
    fun x => ⟨_, _, fun s => impl_cloneData_l0.B x.1.2.1 x.1.2.2.1 s.1 s.2, fun s => ⟨[(3, .seg 3 []), (6, .cl .sh (.sl (.sl (.int .u8))) x.1.2.1), (7, .cl .sh (.int .i64) x.1.2.2.1), (8, .cl .sh (.int .i64) s.1)], [(3, some ⟨.reg, .cl .deep (.sl (.sl (.int .u8))) s.2⟩)]⟩, impl_cloneData_l0.wit x.1.2.1 x.1.2.2.1, (x.1.2.2.2.1, x.2.1), rfl, fun s => impl_cloneData_l0.eq x.1.2.1 x.1.2.2.1 s.1 s.2, fun R k => congrArg (fun g => (impl_cloneData_l0 x.1.2.1 x.1.2.2.1 (x.1.2.2.2.1, x.2.1)).bind g) (funext fun t => impl_cloneData_l0.outEq x.1.2.1 x.1.2.2.1 t R k)⟩
noncomputable def impl_cloneData.L : Lam := mkL [(0, impl_cloneData_l0.fr)]
def impl_cloneData.out (t : List (List Int)) : Out := ⟨[.cl .deep (.sl (.sl (.int .u8))) t], []⟩
theorem impl_cloneData.eq (data : List (List Int)) : ev tb impl_cloneData.hn 19 1 impl_cloneData.G impl_cloneData.L (bodyOf Go.Proofs.Try.f157) (.two (.no) (.two (.no) (.two (.two (.no) (.one (.fr 0))) (.no)))) (initSt [.cl .sh (.sl (.sl (.int .u8))) data]) (kfin tb impl_cloneData.hn Go.Proofs.Try.f157 [.sh]) =
    (impl_cloneData data).map impl_cloneData.out := by
  simp only [impl_cloneData, cond_map, bind_map, sel_map, Option.map_some, Option.map_none]
  kernel_rfl
def impl_cloneData.pts : List PT := [.cl .sh (.sl (.sl (.int .u8)))]
noncomputable def impl_cloneData.FS : FS := mkFS [.sh] impl_cloneData.pts (fun x => impl_cloneData x.1) impl_cloneData.out
theorem impl_cloneData.ok : FsOk Go.Proofs.Try.prog 157 impl_cloneData.FS :=
  fs_ok (fn := Go.Proofs.Try.f157) tbok (by kernel_rfl) (body_some (by kernel_rfl)) (by kernel_rfl) (pts := impl_cloneData.pts) (ev_sound (nt := 19) (np := 1) (hn := impl_cloneData.hn) (G := impl_cloneData.G) (L := impl_cloneData.L) tbok impl_cloneData.Gok hmix _ (.two (.no) (.two (.no) (.two (.two (.no) (.one (.fr 0))) (.no)))) (hok_of (l := [(0, .loop (codeAt (bodyOf Go.Proofs.Try.f157) [1, 1, 0, 1, 0, 0]))]) (by kernel_rfl) ⟨Lam.cons impl_cloneData_l0.ok, trivial⟩)) rfl rfl
    fun x => impl_cloneData.eq x.1
noncomputable def slices_Clone_int64 (s : List Int) : Option (List Int) := cloneP s
noncomputable def slices_Clone_int64.FS : FS := mkFS [.sh] [.cl .sh (.sl (.int .i64))] (fun x => slices_Clone_int64 x.1) fun y => ⟨[.cl .deep (.sl (.int .i64)) y], []⟩
theorem slices_Clone_int64.ok : FsOk Go.Proofs.Try.prog 145 slices_Clone_int64.FS :=
  clone_fs (hn := ⟨[], [], [], 0⟩) tbok hmix (fn := Go.Proofs.Try.f145) (by kernel_rfl) (body_some (by kernel_rfl)) (by kernel_rfl) (by kernel_rfl) .deep (.int .i64) 31 31 2 (by kernel_rfl) (by kernel_rfl) (by kernel_rfl) (by kernel_rfl) (by kernel_rfl) (by kernel_rfl) (by kernel_rfl) (by kernel_rfl) (fun xs => by kernel_rfl) (fun xs => by kernel_rfl) (fun xs => by kernel_rfl) (fun xs => by kernel_rfl)
noncomputable def slices_Clone_Entry (s : List Entry_) : Option (List Entry_) := cloneP s
noncomputable def slices_Clone_Entry.FS : FS := mkFS [.sh] [.cl .sh (.sl tEntry_)] (fun x => slices_Clone_Entry x.1) fun y => ⟨[.cl .deep (.sl tEntry_) y], []⟩
theorem slices_Clone_Entry.ok : FsOk Go.Proofs.Try.prog 158 slices_Clone_Entry.FS :=
  clone_fs (hn := ⟨[], [], [], 0⟩) tbok hmix (fn := Go.Proofs.Try.f158) (by kernel_rfl) (body_some (by kernel_rfl)) (by kernel_rfl) (by kernel_rfl) .deep tEntry_ 123 123 167 (by kernel_rfl) (by kernel_rfl) (by kernel_rfl) (by kernel_rfl) (by kernel_rfl) (by kernel_rfl) (by kernel_rfl) (by kernel_rfl) (fun xs => by kernel_rfl) (fun xs => by kernel_rfl) (fun xs => by kernel_rfl) (fun xs => by kernel_rfl)
noncomputable def impl_cloneFs_l0.B (v : List Inode_) (v2 : Int) (v4 : Fs_) (v3 : Int) (out_ : Fs_) : Option ((Int × Fs_) ⊕ (Fs_)) :=
  cond (decide (v3 < v2)) (cond (inB v3 v.length) ((slices_Clone_int64 (((((v.getD v3.toNat zInode_).2).2).2).1)).bind fun r2 => (slices_Clone_Entry ((((((v.getD v3.toNat zInode_).2).2).2).2).1)).bind fun r3 => (some (out_.1 ++ ([((v.getD v3.toNat zInode_).1, ((v.getD v3.toNat zInode_).2).1, (((v.getD v3.toNat zInode_).2).2).1, r2, r3, (((((v.getD v3.toNat zInode_).2).2).2).2).2)]))).bind fun v5 => cond (decide (v5.length ≤ 2147483648)) (some (.inl (w64 (v3 + 1), (v5, out_.2)))) (none)) (none)) (some (.inr out_))
noncomputable def impl_cloneFs_l0 (v : List Inode_) (v2 : Int) (v4 : Fs_) : (Int × Fs_) → Option (Fs_) :=
  loopL fun s => impl_cloneFs_l0.B v v2 v4 s.1 s.2
noncomputable def impl_cloneFs (f : Fs_) : Option (Fs_) :=
  (impl_cloneData f.2.1).bind fun r => (impl_cloneFs_l0 f.1 (f.1.length : Int) ([], [], ()) (0, ([], r, ()))).bind fun o => some (o.1, o.2.1, o.2.2)
noncomputable def impl_cloneFs.G : Gam := mkG [(157, impl_cloneData.FS), (145, slices_Clone_int64.FS), (158, slices_Clone_Entry.FS)]
theorem impl_cloneFs.Gok : GOk Go.Proofs.Try.prog impl_cloneFs.G := GOk.cons (impl_cloneData.ok) (GOk.cons (slices_Clone_int64.ok) (GOk.cons (slices_Clone_Entry.ok) (GOk.nil)))
def impl_cloneFs.hn : Hint := ⟨[1], [], [], 0⟩
noncomputable def impl_cloneFs_l0.wit (v : List Inode_) (v2 : Int) (v4 : Fs_) (b : Fs_) : Ex × St := (.ex 0, ⟨[(2, .loc 2 []), (3, .loc 3 [])], [(2, some ⟨.mem, .cl .deep tFs_ v4⟩), (3, some ⟨.mem, .cl .deep tFs_ b⟩)]⟩)
theorem impl_cloneFs_l0.eq (v : List Inode_) (v2 : Int) (v4 : Fs_) (v3 : Int) (out_ : Fs_) : ev tb impl_cloneFs.hn 33 1 impl_cloneFs.G (mkL []) (codeAt (bodyOf Go.Proofs.Try.f126) [1, 1, 0, 1, 0, 0]) (.no) ⟨[(2, .loc 2 []), (3, .loc 3 []), (11, .cl .sh (.sl tInode_) v), (12, .cl .sh (.int .i64) v2), (13, .cl .sh (.int .i64) v3)], [(2, some ⟨.mem, .cl .deep tFs_ v4⟩), (3, some ⟨.mem, .cl .deep tFs_ out_⟩)]⟩ (kLp (([2, 3, 11, 12, 13], [2, 3])) [(0, ([2, 3], [2, 3]))] ([], [])) =
    (impl_cloneFs_l0.B v v2 v4 v3 out_).map (fun o => sel o (fun s => .inl ⟨[(2, .loc 2 []), (3, .loc 3 []), (11, .cl .sh (.sl tInode_) v), (12, .cl .sh (.int .i64) v2), (13, .cl .sh (.int .i64) s.1)], [(2, some ⟨.mem, .cl .deep tFs_ v4⟩), (3, some ⟨.mem, .cl .deep tFs_ s.2⟩)]⟩) (fun b => .inr (impl_cloneFs_l0.wit v v2 v4 b))) := by
  simp only [impl_cloneFs_l0.B, cond_map, bind_map, sel_map, Option.map_some, Option.map_none]
  kernel_rfl
def impl_cloneFs_l0.sp : SP := ⟨[(2, .loc 2 []), (3, .loc 3 []), (11, .cl .sh (.sl tInode_)), (12, .cl .sh (.int .i64)), (13, .cl .sh (.int .i64))], [(2, .mem, .cl .deep tFs_), (3, .mem, .cl .deep tFs_)]⟩
noncomputable def impl_cloneFs_l0.out (v : List Inode_) (v2 : Int) (v4 : Fs_) : FOut (Fs_) := fun b _ k => k (.ex 0) ⟨[(2, .loc 2 []), (3, .loc 3 [])], [(2, some ⟨.mem, .cl .deep tFs_ v4⟩), (3, some ⟨.mem, .cl .deep tFs_ b⟩)]⟩
theorem impl_cloneFs_l0.outEq (v : List Inode_) (v2 : Int) (v4 : Fs_) (o : Fs_) (R : Type) (k : Ex → St → Option R) : impl_cloneFs_l0.out v v2 v4 o R k = k (impl_cloneFs_l0.wit v v2 v4 o).1 (impl_cloneFs_l0.wit v v2 v4 o).2 := by
  rfl
noncomputable def impl_cloneFs_l0.F (x : impl_cloneFs_l0.sp.El) (R : Type) (k : Ex → St → Option R) : Option R := (impl_cloneFs_l0 x.1.2.2.1 x.1.2.2.2.1 x.2.1 (x.1.2.2.2.2.1, x.2.2.1)).bind fun t => impl_cloneFs_l0.out x.1.2.2.1 x.1.2.2.2.1 x.2.1 t R k
noncomputable def impl_cloneFs_l0.fr : St → ∀ R : Type, (Ex → St → Option R) → Option R := mkFrag impl_cloneFs_l0.sp impl_cloneFs_l0.F
theorem impl_cloneFs_l0.ok : CodeOk Go.Proofs.Try.prog 33 1 (.loop (codeAt (bodyOf Go.Proofs.Try.f126) [1, 1, 0, 1, 0, 0])) impl_cloneFs_l0.fr :=
  loop_sound (sp := impl_cloneFs_l0.sp) rfl (F := impl_cloneFs_l0.F) (ev_sound (hn := impl_cloneFs.hn) (G := impl_cloneFs.G) (L := mkL []) tbok impl_cloneFs.Gok hmix _ (.no) (hok_of (l := []) (by kernel_rfl) trivial)) 
    fun x => ⟨_, _, fun s => impl_cloneFs_l0.B x.1.2.2.1 x.1.2.2.2.1 x.2.1 s.1 s.2, fun s => ⟨[(2, .loc 2 []), (3, .loc 3 []), (11, .cl .sh (.sl tInode_) x.1.2.2.1), (12, .cl .sh (.int .i64) x.1.2.2.2.1), (13, .cl .sh (.int .i64) s.1)], [(2, some ⟨.mem, .cl .deep tFs_ x.2.1⟩), (3, some ⟨.mem, .cl .deep tFs_ s.2⟩)]⟩, impl_cloneFs_l0.wit x.1.2.2.1 x.1.2.2.2.1 x.2.1, (x.1.2.2.2.2.1, x.2.2.1), rfl, fun s => impl_cloneFs_l0.eq x.1.2.2.1 x.1.2.2.2.1 x.2.1 s.1 s.2, fun R k => congrArg (fun g => (impl_cloneFs_l0 x.1.2.2.1 x.1.2.2.2.1 x.2.1 (x.1.2.2.2.2.1, x.2.2.1)).bind g) (funext fun t => impl_cloneFs_l0.outEq x.1.2.2.1 x.1.2.2.2.1 x.2.1 t R k)⟩
noncomputable def impl_cloneFs.L : Lam := mkL [(0, impl_cloneFs_l0.fr)]
def impl_cloneFs.out (t : Fs_) : Out := ⟨[.cl .deep tFs_ t], []⟩
theorem impl_cloneFs.eq (f : Fs_) : ev tb impl_cloneFs.hn 33 1 impl_cloneFs.G impl_cloneFs.L (bodyOf Go.Proofs.Try.f126) (.two (.no) (.two (.no) (.two (.two (.no) (.one (.fr 0))) (.no)))) (initSt [.cl .sh tFs_ f]) (kfin tb impl_cloneFs.hn Go.Proofs.Try.f126 [.sh]) =
    (impl_cloneFs f).map impl_cloneFs.out := by
  simp only [impl_cloneFs, cond_map, bind_map, sel_map, Option.map_some, Option.map_none]
  kernel_rfl
def impl_cloneFs.pts : List PT := [.cl .sh tFs_]
noncomputable def impl_cloneFs.FS : FS := mkFS [.sh] impl_cloneFs.pts (fun x => impl_cloneFs x.1) impl_cloneFs.out
theorem impl_cloneFs.ok : FsOk Go.Proofs.Try.prog 126 impl_cloneFs.FS :=
  fs_ok (fn := Go.Proofs.Try.f126) tbok (by kernel_rfl) (body_some (by kernel_rfl)) (by kernel_rfl) (pts := impl_cloneFs.pts) (ev_sound (nt := 33) (np := 1) (hn := impl_cloneFs.hn) (G := impl_cloneFs.G) (L := impl_cloneFs.L) tbok impl_cloneFs.Gok hmix _ (.two (.no) (.two (.no) (.two (.two (.no) (.one (.fr 0))) (.no)))) (hok_of (l := [(0, .loop (codeAt (bodyOf Go.Proofs.Try.f126) [1, 1, 0, 1, 0, 0]))]) (by kernel_rfl) ⟨Lam.cons impl_cloneFs_l0.ok, trivial⟩)) rfl rfl
    fun x => impl_cloneFs.eq x.1
noncomputable def impl_NewWorld (seq : Int) : Option (WorldResult_) :=
  (impl_FormatDisk seq).bind fun r => cond (r.1 != 0) (some (r.1, (0, 0, 0, [], [], ([], [], ()), ()), (([], [], ()), ([], [], ()), ([], [], ()), ()), ())) (cond (decide ((0 : Int) ≤ (20 : Int)) && (decide ((20 : Int) ≤ (20 : Int)) && decide ((20 : Int) ≤ 2147483648))) ((impl_cloneFs ([(2, 0, 0, [], [], ())], List.replicate (20 : Int).toNat ([] : List Int), ())).bind fun r2 => (impl_cloneFs ([(2, 0, 0, [], [], ())], List.replicate (20 : Int).toNat ([] : List Int), ())).bind fun r3 => some (0, (0, 0, 0, [], [], ([], [], ()), ()), ((r.2.1.1, r.2.1.2.1, r.2.1.2.2), (r2.1, r2.2.1, r2.2.2), (r3.1, r3.2.1, r3.2.2), ()), ())) (none))
noncomputable def impl_NewWorld.G : Gam := mkG [(25, impl_FormatDisk.FS), (126, impl_cloneFs.FS)]
theorem impl_NewWorld.Gok : GOk Go.Proofs.Try.prog impl_NewWorld.G := GOk.cons (impl_FormatDisk.ok) (GOk.cons (impl_cloneFs.ok) (GOk.nil))
def impl_NewWorld.hn : Hint := ⟨[], [], [], 0⟩
noncomputable def impl_NewWorld.L : Lam := mkL []
def impl_NewWorld.out (t : WorldResult_) : Out := ⟨[.cl .deep tWorldResult_ t], []⟩
theorem impl_NewWorld.eq (seq : Int) : ev tb impl_NewWorld.hn 25 1 impl_NewWorld.G impl_NewWorld.L (bodyOf Go.Proofs.Try.f64) (.no) (initSt [.cl .sh (.int .i64) seq]) (kfin tb impl_NewWorld.hn Go.Proofs.Try.f64 [.sh]) =
    (impl_NewWorld seq).map impl_NewWorld.out := by
  simp only [impl_NewWorld, cond_map, bind_map, sel_map, Option.map_some, Option.map_none]
  kernel_rfl
def impl_NewWorld.pts : List PT := [.cl .sh (.int .i64)]
noncomputable def impl_NewWorld.FS : FS := mkFS [.sh] impl_NewWorld.pts (fun x => impl_NewWorld x.1) impl_NewWorld.out
theorem impl_NewWorld.ok : FsOk Go.Proofs.Try.prog 64 impl_NewWorld.FS :=
  fs_ok (fn := Go.Proofs.Try.f64) tbok (by kernel_rfl) (body_some (by kernel_rfl)) (by kernel_rfl) (pts := impl_NewWorld.pts) (ev_sound (nt := 25) (np := 1) (hn := impl_NewWorld.hn) (G := impl_NewWorld.G) (L := impl_NewWorld.L) tbok impl_NewWorld.Gok hmix _ (.no) (hok_of (l := []) (by kernel_rfl) trivial)) rfl rfl
    fun x => impl_NewWorld.eq x.1
noncomputable def laws_eqByteS_l0.B (a : List Int) (b : List Int) (i_ : Int) : Option ((Int) ⊕ (((Bool) ⊕ (Unit)))) :=
  cond (decide (i_ < (a.length : Int))) (cond (inB i_ a.length) (cond (inB i_ b.length) (cond ((a.getD i_.toNat 0) != (b.getD i_.toNat 0)) (some (.inr (.inl false))) (some (.inl (w64 (i_ + 1))))) (none)) (none)) (some (.inr (.inr ())))
noncomputable def laws_eqByteS_l0 (a : List Int) (b : List Int) : (Int) → Option (((Bool) ⊕ (Unit))) :=
  loopL fun s => laws_eqByteS_l0.B a b s
noncomputable def laws_eqByteS (a : List Int) (b : List Int) : Option (Bool) :=
  cond ((a.length : Int) != (b.length : Int)) (some false) ((laws_eqByteS_l0 a b 0).bind fun o => sel o (fun b2 => some b2) (fun c => some true))
noncomputable def laws_eqByteS.G : Gam := mkG []
theorem laws_eqByteS.Gok : GOk Go.Proofs.Try.prog laws_eqByteS.G := GOk.nil
def laws_eqByteS.hn : Hint := ⟨[], [], [], 0⟩
noncomputable def laws_eqByteS_l0.wit (a : List Int) (b : List Int) (o : ((Bool) ⊕ (Unit))) : Ex × St := sel o (fun b => (.rt, ⟨[(4, .cl .sh .bool b)], []⟩)) (fun c => (.ex 0, ⟨[], []⟩))
theorem laws_eqByteS_l0.eq (a : List Int) (b : List Int) (i_ : Int) : ev tb laws_eqByteS.hn 26 2 laws_eqByteS.G (mkL []) (codeAt (bodyOf Go.Proofs.Try.f78) [1, 1, 0, 1, 0, 0]) (.no) ⟨[(0, .cl .sh (.sl (.int .u8)) a), (1, .cl .sh (.sl (.int .u8)) b), (5, .cl .sh (.int .i64) i_)], []⟩ (kLp (([0, 1, 5], [])) [(0, ([], []))] ([4], [])) =
    (laws_eqByteS_l0.B a b i_).map (fun o => sel o (fun s => .inl ⟨[(0, .cl .sh (.sl (.int .u8)) a), (1, .cl .sh (.sl (.int .u8)) b), (5, .cl .sh (.int .i64) s)], []⟩) (fun o => .inr (laws_eqByteS_l0.wit a b o))) := by
  simp only [laws_eqByteS_l0.B, cond_map, bind_map, sel_map, Option.map_some, Option.map_none]
  kernel_rfl
def laws_eqByteS_l0.sp : SP := ⟨[(0, .cl .sh (.sl (.int .u8))), (1, .cl .sh (.sl (.int .u8))), (5, .cl .sh (.int .i64))], []⟩
noncomputable def laws_eqByteS_l0.out (a : List Int) (b : List Int) : FOut (((Bool) ⊕ (Unit))) := fun o _ k => sel o (fun b => k (.rt) ⟨[(4, .cl .sh .bool b)], []⟩) (fun c => k (.ex 0) ⟨[], []⟩)
theorem laws_eqByteS_l0.outEq (a : List Int) (b : List Int) (o : ((Bool) ⊕ (Unit))) (R : Type) (k : Ex → St → Option R) : laws_eqByteS_l0.out a b o R k = k (laws_eqByteS_l0.wit a b o).1 (laws_eqByteS_l0.wit a b o).2 := by
  rcases o with o | o <;> rfl
noncomputable def laws_eqByteS_l0.F (x : laws_eqByteS_l0.sp.El) (R : Type) (k : Ex → St → Option R) : Option R := (laws_eqByteS_l0 x.1.1 x.1.2.1 x.1.2.2.1).bind fun t => laws_eqByteS_l0.out x.1.1 x.1.2.1 t R k
noncomputable def laws_eqByteS_l0.fr : St → ∀ R : Type, (Ex → St → Option R) → Option R := mkFrag laws_eqByteS_l0.sp laws_eqByteS_l0.F
theorem laws_eqByteS_l0.ok : CodeOk Go.Proofs.Try.prog 26 2 (.loop (codeAt (bodyOf Go.Proofs.Try.f78) [1, 1, 0, 1, 0, 0])) laws_eqByteS_l0.fr :=
  loop_sound (sp := laws_eqByteS_l0.sp) rfl (F := laws_eqByteS_l0.F) (ev_sound (hn := laws_eqByteS.hn) (G := laws_eqByteS.G) (L := mkL []) tbok laws_eqByteS.Gok hmix _ (.no) (hok_of (l := []) (by kernel_rfl) trivial)) 
    fun x => ⟨_, _, fun s => laws_eqByteS_l0.B x.1.1 x.1.2.1 s, fun s => ⟨[(0, .cl .sh (.sl (.int .u8)) x.1.1), (1, .cl .sh (.sl (.int .u8)) x.1.2.1), (5, .cl .sh (.int .i64) s)], []⟩, laws_eqByteS_l0.wit x.1.1 x.1.2.1, x.1.2.2.1, rfl, fun s => laws_eqByteS_l0.eq x.1.1 x.1.2.1 s, fun R k => congrArg (fun g => (laws_eqByteS_l0 x.1.1 x.1.2.1 x.1.2.2.1).bind g) (funext fun t => laws_eqByteS_l0.outEq x.1.1 x.1.2.1 t R k)⟩
noncomputable def laws_eqByteS.L : Lam := mkL [(0, laws_eqByteS_l0.fr)]
def laws_eqByteS.out (t : Bool) : Out := ⟨[.cl .sh .bool t], []⟩
theorem laws_eqByteS.eq (a : List Int) (b : List Int) : ev tb laws_eqByteS.hn 26 2 laws_eqByteS.G laws_eqByteS.L (bodyOf Go.Proofs.Try.f78) (.two (.no) (.two (.no) (.two (.two (.no) (.one (.fr 0))) (.no)))) (initSt [.cl .sh (.sl (.int .u8)) a, .cl .sh (.sl (.int .u8)) b]) (kfin tb laws_eqByteS.hn Go.Proofs.Try.f78 [.sh, .sh]) =
    (laws_eqByteS a b).map laws_eqByteS.out := by
  simp only [laws_eqByteS, cond_map, bind_map, sel_map, Option.map_some, Option.map_none]
  kernel_rfl
def laws_eqByteS.pts : List PT := [.cl .sh (.sl (.int .u8)), .cl .sh (.sl (.int .u8))]
noncomputable def laws_eqByteS.FS : FS := mkFS [.sh, .sh] laws_eqByteS.pts (fun x => laws_eqByteS x.1 x.2.1) laws_eqByteS.out
theorem laws_eqByteS.ok : FsOk Go.Proofs.Try.prog 78 laws_eqByteS.FS :=
  fs_ok (fn := Go.Proofs.Try.f78) tbok (by kernel_rfl) (body_some (by kernel_rfl)) (by kernel_rfl) (pts := laws_eqByteS.pts) (ev_sound (nt := 26) (np := 2) (hn := laws_eqByteS.hn) (G := laws_eqByteS.G) (L := laws_eqByteS.L) tbok laws_eqByteS.Gok hmix _ (.two (.no) (.two (.no) (.two (.two (.no) (.one (.fr 0))) (.no)))) (hok_of (l := [(0, .loop (codeAt (bodyOf Go.Proofs.Try.f78) [1, 1, 0, 1, 0, 0]))]) (by kernel_rfl) ⟨Lam.cons laws_eqByteS_l0.ok, trivial⟩)) rfl rfl
    fun x => laws_eqByteS.eq x.1 x.2.1
noncomputable def laws_eqStringS_l0.B (a : List (List UInt8)) (b : List (List UInt8)) (i_ : Int) : Option ((Int) ⊕ (((Bool) ⊕ (Unit)))) :=
  cond (decide (i_ < (a.length : Int))) (cond (inB i_ a.length) (cond (inB i_ b.length) (cond (!((a.getD i_.toNat []) == (b.getD i_.toNat []))) (some (.inr (.inl false))) (some (.inl (w64 (i_ + 1))))) (none)) (none)) (some (.inr (.inr ())))
noncomputable def laws_eqStringS_l0 (a : List (List UInt8)) (b : List (List UInt8)) : (Int) → Option (((Bool) ⊕ (Unit))) :=
  loopL fun s => laws_eqStringS_l0.B a b s
noncomputable def laws_eqStringS (a : List (List UInt8)) (b : List (List UInt8)) : Option (Bool) :=
  cond ((a.length : Int) != (b.length : Int)) (some false) ((laws_eqStringS_l0 a b 0).bind fun o => sel o (fun b2 => some b2) (fun c => some true))
noncomputable def laws_eqStringS.G : Gam := mkG []
theorem laws_eqStringS.Gok : GOk Go.Proofs.Try.prog laws_eqStringS.G := GOk.nil
def laws_eqStringS.hn : Hint := ⟨[], [], [], 0⟩
noncomputable def laws_eqStringS_l0.wit (a : List (List UInt8)) (b : List (List UInt8)) (o : ((Bool) ⊕ (Unit))) : Ex × St := sel o (fun b => (.rt, ⟨[(4, .cl .sh .bool b)], []⟩)) (fun c => (.ex 0, ⟨[], []⟩))
theorem laws_eqStringS_l0.eq (a : List (List UInt8)) (b : List (List UInt8)) (i_ : Int) : ev tb laws_eqStringS.hn 26 2 laws_eqStringS.G (mkL []) (codeAt (bodyOf Go.Proofs.Try.f159) [1, 1, 0, 1, 0, 0]) (.no) ⟨[(0, .cl .sh (.sl .str) a), (1, .cl .sh (.sl .str) b), (5, .cl .sh (.int .i64) i_)], []⟩ (kLp (([0, 1, 5], [])) [(0, ([], []))] ([4], [])) =
    (laws_eqStringS_l0.B a b i_).map (fun o => sel o (fun s => .inl ⟨[(0, .cl .sh (.sl .str) a), (1, .cl .sh (.sl .str) b), (5, .cl .sh (.int .i64) s)], []⟩) (fun o => .inr (laws_eqStringS_l0.wit a b o))) := by
  simp only [laws_eqStringS_l0.B, cond_map, bind_map, sel_map, Option.map_some, Option.map_none]
  kernel_rfl
def laws_eqStringS_l0.sp : SP := ⟨[(0, .cl .sh (.sl .str)), (1, .cl .sh (.sl .str)), (5, .cl .sh (.int .i64))], []⟩
noncomputable def laws_eqStringS_l0.out (a : List (List UInt8)) (b : List (List UInt8)) : FOut (((Bool) ⊕ (Unit))) := fun o _ k => sel o (fun b => k (.rt) ⟨[(4, .cl .sh .bool b)], []⟩) (fun c => k (.ex 0) ⟨[], []⟩)
theorem laws_eqStringS_l0.outEq (a : List (List UInt8)) (b : List (List UInt8)) (o : ((Bool) ⊕ (Unit))) (R : Type) (k : Ex → St → Option R) : laws_eqStringS_l0.out a b o R k = k (laws_eqStringS_l0.wit a b o).1 (laws_eqStringS_l0.wit a b o).2 := by
  rcases o with o | o <;> rfl
noncomputable def laws_eqStringS_l0.F (x : laws_eqStringS_l0.sp.El) (R : Type) (k : Ex → St → Option R) : Option R := (laws_eqStringS_l0 x.1.1 x.1.2.1 x.1.2.2.1).bind fun t => laws_eqStringS_l0.out x.1.1 x.1.2.1 t R k
noncomputable def laws_eqStringS_l0.fr : St → ∀ R : Type, (Ex → St → Option R) → Option R := mkFrag laws_eqStringS_l0.sp laws_eqStringS_l0.F
theorem laws_eqStringS_l0.ok : CodeOk Go.Proofs.Try.prog 26 2 (.loop (codeAt (bodyOf Go.Proofs.Try.f159) [1, 1, 0, 1, 0, 0])) laws_eqStringS_l0.fr :=
  loop_sound (sp := laws_eqStringS_l0.sp) rfl (F := laws_eqStringS_l0.F) (ev_sound (hn := laws_eqStringS.hn) (G := laws_eqStringS.G) (L := mkL []) tbok laws_eqStringS.Gok hmix _ (.no) (hok_of (l := []) (by kernel_rfl) trivial)) 
    fun x => ⟨_, _, fun s => laws_eqStringS_l0.B x.1.1 x.1.2.1 s, fun s => ⟨[(0, .cl .sh (.sl .str) x.1.1), (1, .cl .sh (.sl .str) x.1.2.1), (5, .cl .sh (.int .i64) s)], []⟩, laws_eqStringS_l0.wit x.1.1 x.1.2.1, x.1.2.2.1, rfl, fun s => laws_eqStringS_l0.eq x.1.1 x.1.2.1 s, fun R k => congrArg (fun g => (laws_eqStringS_l0 x.1.1 x.1.2.1 x.1.2.2.1).bind g) (funext fun t => laws_eqStringS_l0.outEq x.1.1 x.1.2.1 t R k)⟩
noncomputable def laws_eqStringS.L : Lam := mkL [(0, laws_eqStringS_l0.fr)]
def laws_eqStringS.out (t : Bool) : Out := ⟨[.cl .sh .bool t], []⟩
theorem laws_eqStringS.eq (a : List (List UInt8)) (b : List (List UInt8)) : ev tb laws_eqStringS.hn 26 2 laws_eqStringS.G laws_eqStringS.L (bodyOf Go.Proofs.Try.f159) (.two (.no) (.two (.no) (.two (.two (.no) (.one (.fr 0))) (.no)))) (initSt [.cl .sh (.sl .str) a, .cl .sh (.sl .str) b]) (kfin tb laws_eqStringS.hn Go.Proofs.Try.f159 [.sh, .sh]) =
    (laws_eqStringS a b).map laws_eqStringS.out := by
  simp only [laws_eqStringS, cond_map, bind_map, sel_map, Option.map_some, Option.map_none]
  kernel_rfl
def laws_eqStringS.pts : List PT := [.cl .sh (.sl .str), .cl .sh (.sl .str)]
noncomputable def laws_eqStringS.FS : FS := mkFS [.sh, .sh] laws_eqStringS.pts (fun x => laws_eqStringS x.1 x.2.1) laws_eqStringS.out
theorem laws_eqStringS.ok : FsOk Go.Proofs.Try.prog 159 laws_eqStringS.FS :=
  fs_ok (fn := Go.Proofs.Try.f159) tbok (by kernel_rfl) (body_some (by kernel_rfl)) (by kernel_rfl) (pts := laws_eqStringS.pts) (ev_sound (nt := 26) (np := 2) (hn := laws_eqStringS.hn) (G := laws_eqStringS.G) (L := laws_eqStringS.L) tbok laws_eqStringS.Gok hmix _ (.two (.no) (.two (.no) (.two (.two (.no) (.one (.fr 0))) (.no)))) (hok_of (l := [(0, .loop (codeAt (bodyOf Go.Proofs.Try.f159) [1, 1, 0, 1, 0, 0]))]) (by kernel_rfl) ⟨Lam.cons laws_eqStringS_l0.ok, trivial⟩)) rfl rfl
    fun x => laws_eqStringS.eq x.1 x.2.1
noncomputable def laws_eqInt64S_l0.B (a : List Int) (b : List Int) (i_ : Int) : Option ((Int) ⊕ (((Bool) ⊕ (Unit)))) :=
  cond (decide (i_ < (a.length : Int))) (cond (inB i_ a.length) (cond (inB i_ b.length) (cond ((a.getD i_.toNat 0) != (b.getD i_.toNat 0)) (some (.inr (.inl false))) (some (.inl (w64 (i_ + 1))))) (none)) (none)) (some (.inr (.inr ())))
noncomputable def laws_eqInt64S_l0 (a : List Int) (b : List Int) : (Int) → Option (((Bool) ⊕ (Unit))) :=
  loopL fun s => laws_eqInt64S_l0.B a b s
noncomputable def laws_eqInt64S (a : List Int) (b : List Int) : Option (Bool) :=
  cond ((a.length : Int) != (b.length : Int)) (some false) ((laws_eqInt64S_l0 a b 0).bind fun o => sel o (fun b2 => some b2) (fun c => some true))
noncomputable def laws_eqInt64S.G : Gam := mkG []
theorem laws_eqInt64S.Gok : GOk Go.Proofs.Try.prog laws_eqInt64S.G := GOk.nil
def laws_eqInt64S.hn : Hint := ⟨[], [], [], 0⟩
noncomputable def laws_eqInt64S_l0.wit (a : List Int) (b : List Int) (o : ((Bool) ⊕ (Unit))) : Ex × St := sel o (fun b => (.rt, ⟨[(4, .cl .sh .bool b)], []⟩)) (fun c => (.ex 0, ⟨[], []⟩))
theorem laws_eqInt64S_l0.eq (a : List Int) (b : List Int) (i_ : Int) : ev tb laws_eqInt64S.hn 26 2 laws_eqInt64S.G (mkL []) (codeAt (bodyOf Go.Proofs.Try.f83) [1, 1, 0, 1, 0, 0]) (.no) ⟨[(0, .cl .sh (.sl (.int .i64)) a), (1, .cl .sh (.sl (.int .i64)) b), (5, .cl .sh (.int .i64) i_)], []⟩ (kLp (([0, 1, 5], [])) [(0, ([], []))] ([4], [])) =
    (laws_eqInt64S_l0.B a b i_).map (fun o => sel o (fun s => .inl ⟨[(0, .cl .sh (.sl (.int .i64)) a), (1, .cl .sh (.sl (.int .i64)) b), (5, .cl .sh (.int .i64) s)], []⟩) (fun o => .inr (laws_eqInt64S_l0.wit a b o))) := by
  simp only [laws_eqInt64S_l0.B, cond_map, bind_map, sel_map, Option.map_some, Option.map_none]
  kernel_rfl
def laws_eqInt64S_l0.sp : SP := ⟨[(0, .cl .sh (.sl (.int .i64))), (1, .cl .sh (.sl (.int .i64))), (5, .cl .sh (.int .i64))], []⟩
noncomputable def laws_eqInt64S_l0.out (a : List Int) (b : List Int) : FOut (((Bool) ⊕ (Unit))) := fun o _ k => sel o (fun b => k (.rt) ⟨[(4, .cl .sh .bool b)], []⟩) (fun c => k (.ex 0) ⟨[], []⟩)
theorem laws_eqInt64S_l0.outEq (a : List Int) (b : List Int) (o : ((Bool) ⊕ (Unit))) (R : Type) (k : Ex → St → Option R) : laws_eqInt64S_l0.out a b o R k = k (laws_eqInt64S_l0.wit a b o).1 (laws_eqInt64S_l0.wit a b o).2 := by
  rcases o with o | o <;> rfl
noncomputable def laws_eqInt64S_l0.F (x : laws_eqInt64S_l0.sp.El) (R : Type) (k : Ex → St → Option R) : Option R := (laws_eqInt64S_l0 x.1.1 x.1.2.1 x.1.2.2.1).bind fun t => laws_eqInt64S_l0.out x.1.1 x.1.2.1 t R k
noncomputable def laws_eqInt64S_l0.fr : St → ∀ R : Type, (Ex → St → Option R) → Option R := mkFrag laws_eqInt64S_l0.sp laws_eqInt64S_l0.F
theorem laws_eqInt64S_l0.ok : CodeOk Go.Proofs.Try.prog 26 2 (.loop (codeAt (bodyOf Go.Proofs.Try.f83) [1, 1, 0, 1, 0, 0])) laws_eqInt64S_l0.fr :=
  loop_sound (sp := laws_eqInt64S_l0.sp) rfl (F := laws_eqInt64S_l0.F) (ev_sound (hn := laws_eqInt64S.hn) (G := laws_eqInt64S.G) (L := mkL []) tbok laws_eqInt64S.Gok hmix _ (.no) (hok_of (l := []) (by kernel_rfl) trivial)) 
    fun x => ⟨_, _, fun s => laws_eqInt64S_l0.B x.1.1 x.1.2.1 s, fun s => ⟨[(0, .cl .sh (.sl (.int .i64)) x.1.1), (1, .cl .sh (.sl (.int .i64)) x.1.2.1), (5, .cl .sh (.int .i64) s)], []⟩, laws_eqInt64S_l0.wit x.1.1 x.1.2.1, x.1.2.2.1, rfl, fun s => laws_eqInt64S_l0.eq x.1.1 x.1.2.1 s, fun R k => congrArg (fun g => (laws_eqInt64S_l0 x.1.1 x.1.2.1 x.1.2.2.1).bind g) (funext fun t => laws_eqInt64S_l0.outEq x.1.1 x.1.2.1 t R k)⟩
noncomputable def laws_eqInt64S.L : Lam := mkL [(0, laws_eqInt64S_l0.fr)]
def laws_eqInt64S.out (t : Bool) : Out := ⟨[.cl .sh .bool t], []⟩
theorem laws_eqInt64S.eq (a : List Int) (b : List Int) : ev tb laws_eqInt64S.hn 26 2 laws_eqInt64S.G laws_eqInt64S.L (bodyOf Go.Proofs.Try.f83) (.two (.no) (.two (.no) (.two (.two (.no) (.one (.fr 0))) (.no)))) (initSt [.cl .sh (.sl (.int .i64)) a, .cl .sh (.sl (.int .i64)) b]) (kfin tb laws_eqInt64S.hn Go.Proofs.Try.f83 [.sh, .sh]) =
    (laws_eqInt64S a b).map laws_eqInt64S.out := by
  simp only [laws_eqInt64S, cond_map, bind_map, sel_map, Option.map_some, Option.map_none]
  kernel_rfl
def laws_eqInt64S.pts : List PT := [.cl .sh (.sl (.int .i64)), .cl .sh (.sl (.int .i64))]
noncomputable def laws_eqInt64S.FS : FS := mkFS [.sh, .sh] laws_eqInt64S.pts (fun x => laws_eqInt64S x.1 x.2.1) laws_eqInt64S.out
theorem laws_eqInt64S.ok : FsOk Go.Proofs.Try.prog 83 laws_eqInt64S.FS :=
  fs_ok (fn := Go.Proofs.Try.f83) tbok (by kernel_rfl) (body_some (by kernel_rfl)) (by kernel_rfl) (pts := laws_eqInt64S.pts) (ev_sound (nt := 26) (np := 2) (hn := laws_eqInt64S.hn) (G := laws_eqInt64S.G) (L := laws_eqInt64S.L) tbok laws_eqInt64S.Gok hmix _ (.two (.no) (.two (.no) (.two (.two (.no) (.one (.fr 0))) (.no)))) (hok_of (l := [(0, .loop (codeAt (bodyOf Go.Proofs.Try.f83) [1, 1, 0, 1, 0, 0]))]) (by kernel_rfl) ⟨Lam.cons laws_eqInt64S_l0.ok, trivial⟩)) rfl rfl
    fun x => laws_eqInt64S.eq x.1 x.2.1
noncomputable def laws_eqEntry (a : Entry_) (b : Entry_) : Option (Bool) :=
  cond (!(a.1 == b.1)) (some false) (cond (a.2.1 != b.2.1) (some false) (some true))
noncomputable def laws_eqEntry.G : Gam := mkG []
theorem laws_eqEntry.Gok : GOk Go.Proofs.Try.prog laws_eqEntry.G := GOk.nil
def laws_eqEntry.hn : Hint := ⟨[2, 3], [], [], 0⟩
noncomputable def laws_eqEntry.L : Lam := mkL []
def laws_eqEntry.out (t : Bool) : Out := ⟨[.cl .sh .bool t], []⟩
theorem laws_eqEntry.eq (a : Entry_) (b : Entry_) : ev tb laws_eqEntry.hn 15 2 laws_eqEntry.G laws_eqEntry.L (bodyOf Go.Proofs.Try.f186) (.no) (initSt [.cl .sh tEntry_ a, .cl .sh tEntry_ b]) (kfin tb laws_eqEntry.hn Go.Proofs.Try.f186 [.sh, .sh]) =
    (laws_eqEntry a b).map laws_eqEntry.out := by
  simp only [laws_eqEntry, cond_map, bind_map, sel_map, Option.map_some, Option.map_none]
  kernel_rfl
def laws_eqEntry.pts : List PT := [.cl .sh tEntry_, .cl .sh tEntry_]
noncomputable def laws_eqEntry.FS : FS := mkFS [.sh, .sh] laws_eqEntry.pts (fun x => laws_eqEntry x.1 x.2.1) laws_eqEntry.out
theorem laws_eqEntry.ok : FsOk Go.Proofs.Try.prog 186 laws_eqEntry.FS :=
  fs_ok (fn := Go.Proofs.Try.f186) tbok (by kernel_rfl) (body_some (by kernel_rfl)) (by kernel_rfl) (pts := laws_eqEntry.pts) (ev_sound (nt := 15) (np := 2) (hn := laws_eqEntry.hn) (G := laws_eqEntry.G) (L := laws_eqEntry.L) tbok laws_eqEntry.Gok hmix _ (.no) (hok_of (l := []) (by kernel_rfl) trivial)) rfl rfl
    fun x => laws_eqEntry.eq x.1 x.2.1
noncomputable def laws_eqEntryS_l0.B (a : List Entry_) (b : List Entry_) (i_ : Int) : Option ((Int) ⊕ (((Bool) ⊕ (Unit)))) :=
  cond (decide (i_ < (a.length : Int))) (cond (inB i_ a.length) (cond (inB i_ b.length) ((laws_eqEntry (a.getD i_.toNat zEntry_) (b.getD i_.toNat zEntry_)).bind fun r => cond (!r) (some (.inr (.inl false))) (some (.inl (w64 (i_ + 1))))) (none)) (none)) (some (.inr (.inr ())))
noncomputable def laws_eqEntryS_l0 (a : List Entry_) (b : List Entry_) : (Int) → Option (((Bool) ⊕ (Unit))) :=
  loopL fun s => laws_eqEntryS_l0.B a b s
noncomputable def laws_eqEntryS (a : List Entry_) (b : List Entry_) : Option (Bool) :=
  cond ((a.length : Int) != (b.length : Int)) (some false) ((laws_eqEntryS_l0 a b 0).bind fun o => sel o (fun b2 => some b2) (fun c => some true))
noncomputable def laws_eqEntryS.G : Gam := mkG [(186, laws_eqEntry.FS)]
theorem laws_eqEntryS.Gok : GOk Go.Proofs.Try.prog laws_eqEntryS.G := GOk.cons (laws_eqEntry.ok) (GOk.nil)
def laws_eqEntryS.hn : Hint := ⟨[], [], [], 0⟩
noncomputable def laws_eqEntryS_l0.wit (a : List Entry_) (b : List Entry_) (o : ((Bool) ⊕ (Unit))) : Ex × St := sel o (fun b => (.rt, ⟨[(4, .cl .sh .bool b)], []⟩)) (fun c => (.ex 0, ⟨[], []⟩))
theorem laws_eqEntryS_l0.eq (a : List Entry_) (b : List Entry_) (i_ : Int) : ev tb laws_eqEntryS.hn 27 2 laws_eqEntryS.G (mkL []) (codeAt (bodyOf Go.Proofs.Try.f185) [1, 1, 0, 1, 0, 0]) (.no) ⟨[(0, .cl .sh (.sl tEntry_) a), (1, .cl .sh (.sl tEntry_) b), (5, .cl .sh (.int .i64) i_)], []⟩ (kLp (([0, 1, 5], [])) [(0, ([], []))] ([4], [])) =
    (laws_eqEntryS_l0.B a b i_).map (fun o => sel o (fun s => .inl ⟨[(0, .cl .sh (.sl tEntry_) a), (1, .cl .sh (.sl tEntry_) b), (5, .cl .sh (.int .i64) s)], []⟩) (fun o => .inr (laws_eqEntryS_l0.wit a b o))) := by
  simp only [laws_eqEntryS_l0.B, cond_map, bind_map, sel_map, Option.map_some, Option.map_none]
  kernel_rfl
def laws_eqEntryS_l0.sp : SP := ⟨[(0, .cl .sh (.sl tEntry_)), (1, .cl .sh (.sl tEntry_)), (5, .cl .sh (.int .i64))], []⟩
noncomputable def laws_eqEntryS_l0.out (a : List Entry_) (b : List Entry_) : FOut (((Bool) ⊕ (Unit))) := fun o _ k => sel o (fun b => k (.rt) ⟨[(4, .cl .sh .bool b)], []⟩) (fun c => k (.ex 0) ⟨[], []⟩)
theorem laws_eqEntryS_l0.outEq (a : List Entry_) (b : List Entry_) (o : ((Bool) ⊕ (Unit))) (R : Type) (k : Ex → St → Option R) : laws_eqEntryS_l0.out a b o R k = k (laws_eqEntryS_l0.wit a b o).1 (laws_eqEntryS_l0.wit a b o).2 := by
  rcases o with o | o <;> rfl
noncomputable def laws_eqEntryS_l0.F (x : laws_eqEntryS_l0.sp.El) (R : Type) (k : Ex → St → Option R) : Option R := (laws_eqEntryS_l0 x.1.1 x.1.2.1 x.1.2.2.1).bind fun t => laws_eqEntryS_l0.out x.1.1 x.1.2.1 t R k
noncomputable def laws_eqEntryS_l0.fr : St → ∀ R : Type, (Ex → St → Option R) → Option R := mkFrag laws_eqEntryS_l0.sp laws_eqEntryS_l0.F
theorem laws_eqEntryS_l0.ok : CodeOk Go.Proofs.Try.prog 27 2 (.loop (codeAt (bodyOf Go.Proofs.Try.f185) [1, 1, 0, 1, 0, 0])) laws_eqEntryS_l0.fr :=
  loop_sound (sp := laws_eqEntryS_l0.sp) rfl (F := laws_eqEntryS_l0.F) (ev_sound (hn := laws_eqEntryS.hn) (G := laws_eqEntryS.G) (L := mkL []) tbok laws_eqEntryS.Gok hmix _ (.no) (hok_of (l := []) (by kernel_rfl) trivial)) 
    fun x => ⟨_, _, fun s => laws_eqEntryS_l0.B x.1.1 x.1.2.1 s, fun s => ⟨[(0, .cl .sh (.sl tEntry_) x.1.1), (1, .cl .sh (.sl tEntry_) x.1.2.1), (5, .cl .sh (.int .i64) s)], []⟩, laws_eqEntryS_l0.wit x.1.1 x.1.2.1, x.1.2.2.1, rfl, fun s => laws_eqEntryS_l0.eq x.1.1 x.1.2.1 s, fun R k => congrArg (fun g => (laws_eqEntryS_l0 x.1.1 x.1.2.1 x.1.2.2.1).bind g) (funext fun t => laws_eqEntryS_l0.outEq x.1.1 x.1.2.1 t R k)⟩
noncomputable def laws_eqEntryS.L : Lam := mkL [(0, laws_eqEntryS_l0.fr)]
def laws_eqEntryS.out (t : Bool) : Out := ⟨[.cl .sh .bool t], []⟩
theorem laws_eqEntryS.eq (a : List Entry_) (b : List Entry_) : ev tb laws_eqEntryS.hn 27 2 laws_eqEntryS.G laws_eqEntryS.L (bodyOf Go.Proofs.Try.f185) (.two (.no) (.two (.no) (.two (.two (.no) (.one (.fr 0))) (.no)))) (initSt [.cl .sh (.sl tEntry_) a, .cl .sh (.sl tEntry_) b]) (kfin tb laws_eqEntryS.hn Go.Proofs.Try.f185 [.sh, .sh]) =
    (laws_eqEntryS a b).map laws_eqEntryS.out := by
  simp only [laws_eqEntryS, cond_map, bind_map, sel_map, Option.map_some, Option.map_none]
  kernel_rfl
def laws_eqEntryS.pts : List PT := [.cl .sh (.sl tEntry_), .cl .sh (.sl tEntry_)]
noncomputable def laws_eqEntryS.FS : FS := mkFS [.sh, .sh] laws_eqEntryS.pts (fun x => laws_eqEntryS x.1 x.2.1) laws_eqEntryS.out
theorem laws_eqEntryS.ok : FsOk Go.Proofs.Try.prog 185 laws_eqEntryS.FS :=
  fs_ok (fn := Go.Proofs.Try.f185) tbok (by kernel_rfl) (body_some (by kernel_rfl)) (by kernel_rfl) (pts := laws_eqEntryS.pts) (ev_sound (nt := 27) (np := 2) (hn := laws_eqEntryS.hn) (G := laws_eqEntryS.G) (L := laws_eqEntryS.L) tbok laws_eqEntryS.Gok hmix _ (.two (.no) (.two (.no) (.two (.two (.no) (.one (.fr 0))) (.no)))) (hok_of (l := [(0, .loop (codeAt (bodyOf Go.Proofs.Try.f185) [1, 1, 0, 1, 0, 0]))]) (by kernel_rfl) ⟨Lam.cons laws_eqEntryS_l0.ok, trivial⟩)) rfl rfl
    fun x => laws_eqEntryS.eq x.1 x.2.1
noncomputable def laws_eqInode (a : Inode_) (b : Inode_) : Option (Bool) :=
  cond (a.1 != b.1) (some false) (cond (a.2.1 != b.2.1) (some false) (cond (a.2.2.1 != b.2.2.1) (some false) ((laws_eqInt64S a.2.2.2.1 b.2.2.2.1).bind fun r => cond (!r) (some false) ((laws_eqEntryS a.2.2.2.2.1 b.2.2.2.2.1).bind fun r2 => cond (!r2) (some false) (some true)))))
noncomputable def laws_eqInode.G : Gam := mkG [(83, laws_eqInt64S.FS), (185, laws_eqEntryS.FS)]
theorem laws_eqInode.Gok : GOk Go.Proofs.Try.prog laws_eqInode.G := GOk.cons (laws_eqInt64S.ok) (GOk.cons (laws_eqEntryS.ok) (GOk.nil))
def laws_eqInode.hn : Hint := ⟨[2, 3], [], [], 0⟩
noncomputable def laws_eqInode.L : Lam := mkL []
def laws_eqInode.out (t : Bool) : Out := ⟨[.cl .sh .bool t], []⟩
theorem laws_eqInode.eq (a : Inode_) (b : Inode_) : ev tb laws_eqInode.hn 32 2 laws_eqInode.G laws_eqInode.L (bodyOf Go.Proofs.Try.f182) (.no) (initSt [.cl .sh tInode_ a, .cl .sh tInode_ b]) (kfin tb laws_eqInode.hn Go.Proofs.Try.f182 [.sh, .sh]) =
    (laws_eqInode a b).map laws_eqInode.out := by
  simp only [laws_eqInode, cond_map, bind_map, sel_map, Option.map_some, Option.map_none]
  kernel_rfl
def laws_eqInode.pts : List PT := [.cl .sh tInode_, .cl .sh tInode_]
noncomputable def laws_eqInode.FS : FS := mkFS [.sh, .sh] laws_eqInode.pts (fun x => laws_eqInode x.1 x.2.1) laws_eqInode.out
theorem laws_eqInode.ok : FsOk Go.Proofs.Try.prog 182 laws_eqInode.FS :=
  fs_ok (fn := Go.Proofs.Try.f182) tbok (by kernel_rfl) (body_some (by kernel_rfl)) (by kernel_rfl) (pts := laws_eqInode.pts) (ev_sound (nt := 32) (np := 2) (hn := laws_eqInode.hn) (G := laws_eqInode.G) (L := laws_eqInode.L) tbok laws_eqInode.Gok hmix _ (.no) (hok_of (l := []) (by kernel_rfl) trivial)) rfl rfl
    fun x => laws_eqInode.eq x.1 x.2.1
noncomputable def laws_eqInodeS_l0.B (a : List Inode_) (b : List Inode_) (i_ : Int) : Option ((Int) ⊕ (((Bool) ⊕ (Unit)))) :=
  cond (decide (i_ < (a.length : Int))) (cond (inB i_ a.length) (cond (inB i_ b.length) ((laws_eqInode (a.getD i_.toNat zInode_) (b.getD i_.toNat zInode_)).bind fun r => cond (!r) (some (.inr (.inl false))) (some (.inl (w64 (i_ + 1))))) (none)) (none)) (some (.inr (.inr ())))
noncomputable def laws_eqInodeS_l0 (a : List Inode_) (b : List Inode_) : (Int) → Option (((Bool) ⊕ (Unit))) :=
  loopL fun s => laws_eqInodeS_l0.B a b s
noncomputable def laws_eqInodeS (a : List Inode_) (b : List Inode_) : Option (Bool) :=
  cond ((a.length : Int) != (b.length : Int)) (some false) ((laws_eqInodeS_l0 a b 0).bind fun o => sel o (fun b2 => some b2) (fun c => some true))
noncomputable def laws_eqInodeS.G : Gam := mkG [(182, laws_eqInode.FS)]
theorem laws_eqInodeS.Gok : GOk Go.Proofs.Try.prog laws_eqInodeS.G := GOk.cons (laws_eqInode.ok) (GOk.nil)
def laws_eqInodeS.hn : Hint := ⟨[], [], [], 0⟩
noncomputable def laws_eqInodeS_l0.wit (a : List Inode_) (b : List Inode_) (o : ((Bool) ⊕ (Unit))) : Ex × St := sel o (fun b => (.rt, ⟨[(4, .cl .sh .bool b)], []⟩)) (fun c => (.ex 0, ⟨[], []⟩))
theorem laws_eqInodeS_l0.eq (a : List Inode_) (b : List Inode_) (i_ : Int) : ev tb laws_eqInodeS.hn 27 2 laws_eqInodeS.G (mkL []) (codeAt (bodyOf Go.Proofs.Try.f174) [1, 1, 0, 1, 0, 0]) (.no) ⟨[(0, .cl .sh (.sl tInode_) a), (1, .cl .sh (.sl tInode_) b), (5, .cl .sh (.int .i64) i_)], []⟩ (kLp (([0, 1, 5], [])) [(0, ([], []))] ([4], [])) =
    (laws_eqInodeS_l0.B a b i_).map (fun o => sel o (fun s => .inl ⟨[(0, .cl .sh (.sl tInode_) a), (1, .cl .sh (.sl tInode_) b), (5, .cl .sh (.int .i64) s)], []⟩) (fun o => .inr (laws_eqInodeS_l0.wit a b o))) := by
  simp only [laws_eqInodeS_l0.B, cond_map, bind_map, sel_map, Option.map_some, Option.map_none]
  kernel_rfl
def laws_eqInodeS_l0.sp : SP := ⟨[(0, .cl .sh (.sl tInode_)), (1, .cl .sh (.sl tInode_)), (5, .cl .sh (.int .i64))], []⟩
noncomputable def laws_eqInodeS_l0.out (a : List Inode_) (b : List Inode_) : FOut (((Bool) ⊕ (Unit))) := fun o _ k => sel o (fun b => k (.rt) ⟨[(4, .cl .sh .bool b)], []⟩) (fun c => k (.ex 0) ⟨[], []⟩)
theorem laws_eqInodeS_l0.outEq (a : List Inode_) (b : List Inode_) (o : ((Bool) ⊕ (Unit))) (R : Type) (k : Ex → St → Option R) : laws_eqInodeS_l0.out a b o R k = k (laws_eqInodeS_l0.wit a b o).1 (laws_eqInodeS_l0.wit a b o).2 := by
  rcases o with o | o <;> rfl
noncomputable def laws_eqInodeS_l0.F (x : laws_eqInodeS_l0.sp.El) (R : Type) (k : Ex → St → Option R) : Option R := (laws_eqInodeS_l0 x.1.1 x.1.2.1 x.1.2.2.1).bind fun t => laws_eqInodeS_l0.out x.1.1 x.1.2.1 t R k
noncomputable def laws_eqInodeS_l0.fr : St → ∀ R : Type, (Ex → St → Option R) → Option R := mkFrag laws_eqInodeS_l0.sp laws_eqInodeS_l0.F
theorem laws_eqInodeS_l0.ok : CodeOk Go.Proofs.Try.prog 27 2 (.loop (codeAt (bodyOf Go.Proofs.Try.f174) [1, 1, 0, 1, 0, 0])) laws_eqInodeS_l0.fr :=
  loop_sound (sp := laws_eqInodeS_l0.sp) rfl (F := laws_eqInodeS_l0.F) (ev_sound (hn := laws_eqInodeS.hn) (G := laws_eqInodeS.G) (L := mkL []) tbok laws_eqInodeS.Gok hmix _ (.no) (hok_of (l := []) (by kernel_rfl) trivial)) 
    fun x => ⟨_, _, fun s => laws_eqInodeS_l0.B x.1.1 x.1.2.1 s, fun s => ⟨[(0, .cl .sh (.sl tInode_) x.1.1), (1, .cl .sh (.sl tInode_) x.1.2.1), (5, .cl .sh (.int .i64) s)], []⟩, laws_eqInodeS_l0.wit x.1.1 x.1.2.1, x.1.2.2.1, rfl, fun s => laws_eqInodeS_l0.eq x.1.1 x.1.2.1 s, fun R k => congrArg (fun g => (laws_eqInodeS_l0 x.1.1 x.1.2.1 x.1.2.2.1).bind g) (funext fun t => laws_eqInodeS_l0.outEq x.1.1 x.1.2.1 t R k)⟩
noncomputable def laws_eqInodeS.L : Lam := mkL [(0, laws_eqInodeS_l0.fr)]
def laws_eqInodeS.out (t : Bool) : Out := ⟨[.cl .sh .bool t], []⟩
theorem laws_eqInodeS.eq (a : List Inode_) (b : List Inode_) : ev tb laws_eqInodeS.hn 27 2 laws_eqInodeS.G laws_eqInodeS.L (bodyOf Go.Proofs.Try.f174) (.two (.no) (.two (.no) (.two (.two (.no) (.one (.fr 0))) (.no)))) (initSt [.cl .sh (.sl tInode_) a, .cl .sh (.sl tInode_) b]) (kfin tb laws_eqInodeS.hn Go.Proofs.Try.f174 [.sh, .sh]) =
    (laws_eqInodeS a b).map laws_eqInodeS.out := by
  simp only [laws_eqInodeS, cond_map, bind_map, sel_map, Option.map_some, Option.map_none]
  kernel_rfl
def laws_eqInodeS.pts : List PT := [.cl .sh (.sl tInode_), .cl .sh (.sl tInode_)]
noncomputable def laws_eqInodeS.FS : FS := mkFS [.sh, .sh] laws_eqInodeS.pts (fun x => laws_eqInodeS x.1 x.2.1) laws_eqInodeS.out
theorem laws_eqInodeS.ok : FsOk Go.Proofs.Try.prog 174 laws_eqInodeS.FS :=
  fs_ok (fn := Go.Proofs.Try.f174) tbok (by kernel_rfl) (body_some (by kernel_rfl)) (by kernel_rfl) (pts := laws_eqInodeS.pts) (ev_sound (nt := 27) (np := 2) (hn := laws_eqInodeS.hn) (G := laws_eqInodeS.G) (L := laws_eqInodeS.L) tbok laws_eqInodeS.Gok hmix _ (.two (.no) (.two (.no) (.two (.two (.no) (.one (.fr 0))) (.no)))) (hok_of (l := [(0, .loop (codeAt (bodyOf Go.Proofs.Try.f174) [1, 1, 0, 1, 0, 0]))]) (by kernel_rfl) ⟨Lam.cons laws_eqInodeS_l0.ok, trivial⟩)) rfl rfl
    fun x => laws_eqInodeS.eq x.1 x.2.1
noncomputable def laws_eqByteSS_l0.B (a : List (List Int)) (b : List (List Int)) (i_ : Int) : Option ((Int) ⊕ (((Bool) ⊕ (Unit)))) :=
  cond (decide (i_ < (a.length : Int))) (cond (inB i_ a.length) (cond (inB i_ b.length) ((laws_eqByteS (a.getD i_.toNat []) (b.getD i_.toNat [])).bind fun r => cond (!r) (some (.inr (.inl false))) (some (.inl (w64 (i_ + 1))))) (none)) (none)) (some (.inr (.inr ())))
noncomputable def laws_eqByteSS_l0 (a : List (List Int)) (b : List (List Int)) : (Int) → Option (((Bool) ⊕ (Unit))) :=
  loopL fun s => laws_eqByteSS_l0.B a b s
noncomputable def laws_eqByteSS (a : List (List Int)) (b : List (List Int)) : Option (Bool) :=
  cond ((a.length : Int) != (b.length : Int)) (some false) ((laws_eqByteSS_l0 a b 0).bind fun o => sel o (fun b2 => some b2) (fun c => some true))
noncomputable def laws_eqByteSS.G : Gam := mkG [(78, laws_eqByteS.FS)]
theorem laws_eqByteSS.Gok : GOk Go.Proofs.Try.prog laws_eqByteSS.G := GOk.cons (laws_eqByteS.ok) (GOk.nil)
def laws_eqByteSS.hn : Hint := ⟨[], [], [], 0⟩
noncomputable def laws_eqByteSS_l0.wit (a : List (List Int)) (b : List (List Int)) (o : ((Bool) ⊕ (Unit))) : Ex × St := sel o (fun b => (.rt, ⟨[(4, .cl .sh .bool b)], []⟩)) (fun c => (.ex 0, ⟨[], []⟩))
theorem laws_eqByteSS_l0.eq (a : List (List Int)) (b : List (List Int)) (i_ : Int) : ev tb laws_eqByteSS.hn 27 2 laws_eqByteSS.G (mkL []) (codeAt (bodyOf Go.Proofs.Try.f175) [1, 1, 0, 1, 0, 0]) (.no) ⟨[(0, .cl .sh (.sl (.sl (.int .u8))) a), (1, .cl .sh (.sl (.sl (.int .u8))) b), (5, .cl .sh (.int .i64) i_)], []⟩ (kLp (([0, 1, 5], [])) [(0, ([], []))] ([4], [])) =
    (laws_eqByteSS_l0.B a b i_).map (fun o => sel o (fun s => .inl ⟨[(0, .cl .sh (.sl (.sl (.int .u8))) a), (1, .cl .sh (.sl (.sl (.int .u8))) b), (5, .cl .sh (.int .i64) s)], []⟩) (fun o => .inr (laws_eqByteSS_l0.wit a b o))) := by
  simp only [laws_eqByteSS_l0.B, cond_map, bind_map, sel_map, Option.map_some, Option.map_none]
  kernel_rfl
def laws_eqByteSS_l0.sp : SP := ⟨[(0, .cl .sh (.sl (.sl (.int .u8)))), (1, .cl .sh (.sl (.sl (.int .u8)))), (5, .cl .sh (.int .i64))], []⟩
noncomputable def laws_eqByteSS_l0.out (a : List (List Int)) (b : List (List Int)) : FOut (((Bool) ⊕ (Unit))) := fun o _ k => sel o (fun b => k (.rt) ⟨[(4, .cl .sh .bool b)], []⟩) (fun c => k (.ex 0) ⟨[], []⟩)
theorem laws_eqByteSS_l0.outEq (a : List (List Int)) (b : List (List Int)) (o : ((Bool) ⊕ (Unit))) (R : Type) (k : Ex → St → Option R) : laws_eqByteSS_l0.out a b o R k = k (laws_eqByteSS_l0.wit a b o).1 (laws_eqByteSS_l0.wit a b o).2 := by
  rcases o with o | o <;> rfl
noncomputable def laws_eqByteSS_l0.F (x : laws_eqByteSS_l0.sp.El) (R : Type) (k : Ex → St → Option R) : Option R := (laws_eqByteSS_l0 x.1.1 x.1.2.1 x.1.2.2.1).bind fun t => laws_eqByteSS_l0.out x.1.1 x.1.2.1 t R k
noncomputable def laws_eqByteSS_l0.fr : St → ∀ R : Type, (Ex → St → Option R) → Option R := mkFrag laws_eqByteSS_l0.sp laws_eqByteSS_l0.F
theorem laws_eqByteSS_l0.ok : CodeOk Go.Proofs.Try.prog 27 2 (.loop (codeAt (bodyOf Go.Proofs.Try.f175) [1, 1, 0, 1, 0, 0])) laws_eqByteSS_l0.fr :=
  loop_sound (sp := laws_eqByteSS_l0.sp) rfl (F := laws_eqByteSS_l0.F) (ev_sound (hn := laws_eqByteSS.hn) (G := laws_eqByteSS.G) (L := mkL []) tbok laws_eqByteSS.Gok hmix _ (.no) (hok_of (l := []) (by kernel_rfl) trivial)) 
    fun x => ⟨_, _, fun s => laws_eqByteSS_l0.B x.1.1 x.1.2.1 s, fun s => ⟨[(0, .cl .sh (.sl (.sl (.int .u8))) x.1.1), (1, .cl .sh (.sl (.sl (.int .u8))) x.1.2.1), (5, .cl .sh (.int .i64) s)], []⟩, laws_eqByteSS_l0.wit x.1.1 x.1.2.1, x.1.2.2.1, rfl, fun s => laws_eqByteSS_l0.eq x.1.1 x.1.2.1 s, fun R k => congrArg (fun g => (laws_eqByteSS_l0 x.1.1 x.1.2.1 x.1.2.2.1).bind g) (funext fun t => laws_eqByteSS_l0.outEq x.1.1 x.1.2.1 t R k)⟩
noncomputable def laws_eqByteSS.L : Lam := mkL [(0, laws_eqByteSS_l0.fr)]
def laws_eqByteSS.out (t : Bool) : Out := ⟨[.cl .sh .bool t], []⟩
theorem laws_eqByteSS.eq (a : List (List Int)) (b : List (List Int)) : ev tb laws_eqByteSS.hn 27 2 laws_eqByteSS.G laws_eqByteSS.L (bodyOf Go.Proofs.Try.f175) (.two (.no) (.two (.no) (.two (.two (.no) (.one (.fr 0))) (.no)))) (initSt [.cl .sh (.sl (.sl (.int .u8))) a, .cl .sh (.sl (.sl (.int .u8))) b]) (kfin tb laws_eqByteSS.hn Go.Proofs.Try.f175 [.sh, .sh]) =
    (laws_eqByteSS a b).map laws_eqByteSS.out := by
  simp only [laws_eqByteSS, cond_map, bind_map, sel_map, Option.map_some, Option.map_none]
  kernel_rfl
def laws_eqByteSS.pts : List PT := [.cl .sh (.sl (.sl (.int .u8))), .cl .sh (.sl (.sl (.int .u8)))]
noncomputable def laws_eqByteSS.FS : FS := mkFS [.sh, .sh] laws_eqByteSS.pts (fun x => laws_eqByteSS x.1 x.2.1) laws_eqByteSS.out
theorem laws_eqByteSS.ok : FsOk Go.Proofs.Try.prog 175 laws_eqByteSS.FS :=
  fs_ok (fn := Go.Proofs.Try.f175) tbok (by kernel_rfl) (body_some (by kernel_rfl)) (by kernel_rfl) (pts := laws_eqByteSS.pts) (ev_sound (nt := 27) (np := 2) (hn := laws_eqByteSS.hn) (G := laws_eqByteSS.G) (L := laws_eqByteSS.L) tbok laws_eqByteSS.Gok hmix _ (.two (.no) (.two (.no) (.two (.two (.no) (.one (.fr 0))) (.no)))) (hok_of (l := [(0, .loop (codeAt (bodyOf Go.Proofs.Try.f175) [1, 1, 0, 1, 0, 0]))]) (by kernel_rfl) ⟨Lam.cons laws_eqByteSS_l0.ok, trivial⟩)) rfl rfl
    fun x => laws_eqByteSS.eq x.1 x.2.1
noncomputable def laws_eqFs (a : Fs_) (b : Fs_) : Option (Bool) :=
  (laws_eqInodeS a.1 b.1).bind fun r => cond (!r) (some false) ((laws_eqByteSS a.2.1 b.2.1).bind fun r2 => cond (!r2) (some false) (some true))
noncomputable def laws_eqFs.G : Gam := mkG [(174, laws_eqInodeS.FS), (175, laws_eqByteSS.FS)]
theorem laws_eqFs.Gok : GOk Go.Proofs.Try.prog laws_eqFs.G := GOk.cons (laws_eqInodeS.ok) (GOk.cons (laws_eqByteSS.ok) (GOk.nil))
def laws_eqFs.hn : Hint := ⟨[2, 3], [], [], 0⟩
noncomputable def laws_eqFs.L : Lam := mkL []
def laws_eqFs.out (t : Bool) : Out := ⟨[.cl .sh .bool t], []⟩
theorem laws_eqFs.eq (a : Fs_) (b : Fs_) : ev tb laws_eqFs.hn 17 2 laws_eqFs.G laws_eqFs.L (bodyOf Go.Proofs.Try.f160) (.no) (initSt [.cl .sh tFs_ a, .cl .sh tFs_ b]) (kfin tb laws_eqFs.hn Go.Proofs.Try.f160 [.sh, .sh]) =
    (laws_eqFs a b).map laws_eqFs.out := by
  simp only [laws_eqFs, cond_map, bind_map, sel_map, Option.map_some, Option.map_none]
  kernel_rfl
def laws_eqFs.pts : List PT := [.cl .sh tFs_, .cl .sh tFs_]
noncomputable def laws_eqFs.FS : FS := mkFS [.sh, .sh] laws_eqFs.pts (fun x => laws_eqFs x.1 x.2.1) laws_eqFs.out
theorem laws_eqFs.ok : FsOk Go.Proofs.Try.prog 160 laws_eqFs.FS :=
  fs_ok (fn := Go.Proofs.Try.f160) tbok (by kernel_rfl) (body_some (by kernel_rfl)) (by kernel_rfl) (pts := laws_eqFs.pts) (ev_sound (nt := 17) (np := 2) (hn := laws_eqFs.hn) (G := laws_eqFs.G) (L := laws_eqFs.L) tbok laws_eqFs.Gok hmix _ (.no) (hok_of (l := []) (by kernel_rfl) trivial)) rfl rfl
    fun x => laws_eqFs.eq x.1 x.2.1
noncomputable def laws_eqCallResult (a : CallResult_) (b : CallResult_) : Option (Bool) :=
  cond (a.1 != b.1) (some false) (cond (a.2.1 != b.2.1) (some false) (cond (a.2.2.1 != b.2.2.1) (some false) ((laws_eqByteS a.2.2.2.1 b.2.2.2.1).bind fun r => cond (!r) (some false) ((laws_eqStringS a.2.2.2.2.1 b.2.2.2.2.1).bind fun r2 => cond (!r2) (some false) ((laws_eqFs a.2.2.2.2.2.1 b.2.2.2.2.2.1).bind fun r3 => cond (!r3) (some false) (some true))))))
noncomputable def laws_eqCallResult.G : Gam := mkG [(78, laws_eqByteS.FS), (159, laws_eqStringS.FS), (160, laws_eqFs.FS)]
theorem laws_eqCallResult.Gok : GOk Go.Proofs.Try.prog laws_eqCallResult.G := GOk.cons (laws_eqByteS.ok) (GOk.cons (laws_eqStringS.ok) (GOk.cons (laws_eqFs.ok) (GOk.nil)))
def laws_eqCallResult.hn : Hint := ⟨[2, 3], [], [], 0⟩
noncomputable def laws_eqCallResult.L : Lam := mkL []
def laws_eqCallResult.out (t : Bool) : Out := ⟨[.cl .sh .bool t], []⟩
theorem laws_eqCallResult.eq (a : CallResult_) (b : CallResult_) : ev tb laws_eqCallResult.hn 38 2 laws_eqCallResult.G laws_eqCallResult.L (bodyOf Go.Proofs.Try.f127) (.no) (initSt [.cl .sh tCallResult_ a, .cl .sh tCallResult_ b]) (kfin tb laws_eqCallResult.hn Go.Proofs.Try.f127 [.sh, .sh]) =
    (laws_eqCallResult a b).map laws_eqCallResult.out := by
  simp only [laws_eqCallResult, cond_map, bind_map, sel_map, Option.map_some, Option.map_none]
  kernel_rfl
def laws_eqCallResult.pts : List PT := [.cl .sh tCallResult_, .cl .sh tCallResult_]
noncomputable def laws_eqCallResult.FS : FS := mkFS [.sh, .sh] laws_eqCallResult.pts (fun x => laws_eqCallResult x.1 x.2.1) laws_eqCallResult.out
theorem laws_eqCallResult.ok : FsOk Go.Proofs.Try.prog 127 laws_eqCallResult.FS :=
  fs_ok (fn := Go.Proofs.Try.f127) tbok (by kernel_rfl) (body_some (by kernel_rfl)) (by kernel_rfl) (pts := laws_eqCallResult.pts) (ev_sound (nt := 38) (np := 2) (hn := laws_eqCallResult.hn) (G := laws_eqCallResult.G) (L := laws_eqCallResult.L) tbok laws_eqCallResult.Gok hmix _ (.no) (hok_of (l := []) (by kernel_rfl) trivial)) rfl rfl
    fun x => laws_eqCallResult.eq x.1 x.2.1
noncomputable def laws_eqInt64SS_l0.B (a : List (List Int)) (b : List (List Int)) (i_ : Int) : Option ((Int) ⊕ (((Bool) ⊕ (Unit)))) :=
  cond (decide (i_ < (a.length : Int))) (cond (inB i_ a.length) (cond (inB i_ b.length) ((laws_eqInt64S (a.getD i_.toNat []) (b.getD i_.toNat [])).bind fun r => cond (!r) (some (.inr (.inl false))) (some (.inl (w64 (i_ + 1))))) (none)) (none)) (some (.inr (.inr ())))
noncomputable def laws_eqInt64SS_l0 (a : List (List Int)) (b : List (List Int)) : (Int) → Option (((Bool) ⊕ (Unit))) :=
  loopL fun s => laws_eqInt64SS_l0.B a b s
noncomputable def laws_eqInt64SS (a : List (List Int)) (b : List (List Int)) : Option (Bool) :=
  cond ((a.length : Int) != (b.length : Int)) (some false) ((laws_eqInt64SS_l0 a b 0).bind fun o => sel o (fun b2 => some b2) (fun c => some true))
noncomputable def laws_eqInt64SS.G : Gam := mkG [(83, laws_eqInt64S.FS)]
theorem laws_eqInt64SS.Gok : GOk Go.Proofs.Try.prog laws_eqInt64SS.G := GOk.cons (laws_eqInt64S.ok) (GOk.nil)
def laws_eqInt64SS.hn : Hint := ⟨[], [], [], 0⟩
noncomputable def laws_eqInt64SS_l0.wit (a : List (List Int)) (b : List (List Int)) (o : ((Bool) ⊕ (Unit))) : Ex × St := sel o (fun b => (.rt, ⟨[(4, .cl .sh .bool b)], []⟩)) (fun c => (.ex 0, ⟨[], []⟩))
theorem laws_eqInt64SS_l0.eq (a : List (List Int)) (b : List (List Int)) (i_ : Int) : ev tb laws_eqInt64SS.hn 27 2 laws_eqInt64SS.G (mkL []) (codeAt (bodyOf Go.Proofs.Try.f101) [1, 1, 0, 1, 0, 0]) (.no) ⟨[(0, .cl .sh (.sl (.sl (.int .i64))) a), (1, .cl .sh (.sl (.sl (.int .i64))) b), (5, .cl .sh (.int .i64) i_)], []⟩ (kLp (([0, 1, 5], [])) [(0, ([], []))] ([4], [])) =
    (laws_eqInt64SS_l0.B a b i_).map (fun o => sel o (fun s => .inl ⟨[(0, .cl .sh (.sl (.sl (.int .i64))) a), (1, .cl .sh (.sl (.sl (.int .i64))) b), (5, .cl .sh (.int .i64) s)], []⟩) (fun o => .inr (laws_eqInt64SS_l0.wit a b o))) := by
  simp only [laws_eqInt64SS_l0.B, cond_map, bind_map, sel_map, Option.map_some, Option.map_none]
  kernel_rfl
def laws_eqInt64SS_l0.sp : SP := ⟨[(0, .cl .sh (.sl (.sl (.int .i64)))), (1, .cl .sh (.sl (.sl (.int .i64)))), (5, .cl .sh (.int .i64))], []⟩
noncomputable def laws_eqInt64SS_l0.out (a : List (List Int)) (b : List (List Int)) : FOut (((Bool) ⊕ (Unit))) := fun o _ k => sel o (fun b => k (.rt) ⟨[(4, .cl .sh .bool b)], []⟩) (fun c => k (.ex 0) ⟨[], []⟩)
theorem laws_eqInt64SS_l0.outEq (a : List (List Int)) (b : List (List Int)) (o : ((Bool) ⊕ (Unit))) (R : Type) (k : Ex → St → Option R) : laws_eqInt64SS_l0.out a b o R k = k (laws_eqInt64SS_l0.wit a b o).1 (laws_eqInt64SS_l0.wit a b o).2 := by
  rcases o with o | o <;> rfl
noncomputable def laws_eqInt64SS_l0.F (x : laws_eqInt64SS_l0.sp.El) (R : Type) (k : Ex → St → Option R) : Option R := (laws_eqInt64SS_l0 x.1.1 x.1.2.1 x.1.2.2.1).bind fun t => laws_eqInt64SS_l0.out x.1.1 x.1.2.1 t R k
noncomputable def laws_eqInt64SS_l0.fr : St → ∀ R : Type, (Ex → St → Option R) → Option R := mkFrag laws_eqInt64SS_l0.sp laws_eqInt64SS_l0.F
theorem laws_eqInt64SS_l0.ok : CodeOk Go.Proofs.Try.prog 27 2 (.loop (codeAt (bodyOf Go.Proofs.Try.f101) [1, 1, 0, 1, 0, 0])) laws_eqInt64SS_l0.fr :=
  loop_sound (sp := laws_eqInt64SS_l0.sp) rfl (F := laws_eqInt64SS_l0.F) (ev_sound (hn := laws_eqInt64SS.hn) (G := laws_eqInt64SS.G) (L := mkL []) tbok laws_eqInt64SS.Gok hmix _ (.no) (hok_of (l := []) (by kernel_rfl) trivial)) 
    fun x => ⟨_, _, fun s => laws_eqInt64SS_l0.B x.1.1 x.1.2.1 s, fun s => ⟨[(0, .cl .sh (.sl (.sl (.int .i64))) x.1.1), (1, .cl .sh (.sl (.sl (.int .i64))) x.1.2.1), (5, .cl .sh (.int .i64) s)], []⟩, laws_eqInt64SS_l0.wit x.1.1 x.1.2.1, x.1.2.2.1, rfl, fun s => laws_eqInt64SS_l0.eq x.1.1 x.1.2.1 s, fun R k => congrArg (fun g => (laws_eqInt64SS_l0 x.1.1 x.1.2.1 x.1.2.2.1).bind g) (funext fun t => laws_eqInt64SS_l0.outEq x.1.1 x.1.2.1 t R k)⟩
noncomputable def laws_eqInt64SS.L : Lam := mkL [(0, laws_eqInt64SS_l0.fr)]
def laws_eqInt64SS.out (t : Bool) : Out := ⟨[.cl .sh .bool t], []⟩
theorem laws_eqInt64SS.eq (a : List (List Int)) (b : List (List Int)) : ev tb laws_eqInt64SS.hn 27 2 laws_eqInt64SS.G laws_eqInt64SS.L (bodyOf Go.Proofs.Try.f101) (.two (.no) (.two (.no) (.two (.two (.no) (.one (.fr 0))) (.no)))) (initSt [.cl .sh (.sl (.sl (.int .i64))) a, .cl .sh (.sl (.sl (.int .i64))) b]) (kfin tb laws_eqInt64SS.hn Go.Proofs.Try.f101 [.sh, .sh]) =
    (laws_eqInt64SS a b).map laws_eqInt64SS.out := by
  simp only [laws_eqInt64SS, cond_map, bind_map, sel_map, Option.map_some, Option.map_none]
  kernel_rfl
def laws_eqInt64SS.pts : List PT := [.cl .sh (.sl (.sl (.int .i64))), .cl .sh (.sl (.sl (.int .i64)))]
noncomputable def laws_eqInt64SS.FS : FS := mkFS [.sh, .sh] laws_eqInt64SS.pts (fun x => laws_eqInt64SS x.1 x.2.1) laws_eqInt64SS.out
theorem laws_eqInt64SS.ok : FsOk Go.Proofs.Try.prog 101 laws_eqInt64SS.FS :=
  fs_ok (fn := Go.Proofs.Try.f101) tbok (by kernel_rfl) (body_some (by kernel_rfl)) (by kernel_rfl) (pts := laws_eqInt64SS.pts) (ev_sound (nt := 27) (np := 2) (hn := laws_eqInt64SS.hn) (G := laws_eqInt64SS.G) (L := laws_eqInt64SS.L) tbok laws_eqInt64SS.Gok hmix _ (.two (.no) (.two (.no) (.two (.two (.no) (.one (.fr 0))) (.no)))) (hok_of (l := [(0, .loop (codeAt (bodyOf Go.Proofs.Try.f101) [1, 1, 0, 1, 0, 0]))]) (by kernel_rfl) ⟨Lam.cons laws_eqInt64SS_l0.ok, trivial⟩)) rfl rfl
    fun x => laws_eqInt64SS.eq x.1 x.2.1
noncomputable def laws_eqPut (a : Put_) (b : Put_) : Option (Bool) :=
  cond (a.1 != b.1) (some false) ((laws_eqInt64S a.2.1 b.2.1).bind fun r => cond (!r) (some false) (some true))
noncomputable def laws_eqPut.G : Gam := mkG [(83, laws_eqInt64S.FS)]
theorem laws_eqPut.Gok : GOk Go.Proofs.Try.prog laws_eqPut.G := GOk.cons (laws_eqInt64S.ok) (GOk.nil)
def laws_eqPut.hn : Hint := ⟨[2, 3], [], [], 0⟩
noncomputable def laws_eqPut.L : Lam := mkL []
def laws_eqPut.out (t : Bool) : Out := ⟨[.cl .sh .bool t], []⟩
theorem laws_eqPut.eq (a : Put_) (b : Put_) : ev tb laws_eqPut.hn 16 2 laws_eqPut.G laws_eqPut.L (bodyOf Go.Proofs.Try.f112) (.no) (initSt [.cl .sh tPut_ a, .cl .sh tPut_ b]) (kfin tb laws_eqPut.hn Go.Proofs.Try.f112 [.sh, .sh]) =
    (laws_eqPut a b).map laws_eqPut.out := by
  simp only [laws_eqPut, cond_map, bind_map, sel_map, Option.map_some, Option.map_none]
  kernel_rfl
def laws_eqPut.pts : List PT := [.cl .sh tPut_, .cl .sh tPut_]
noncomputable def laws_eqPut.FS : FS := mkFS [.sh, .sh] laws_eqPut.pts (fun x => laws_eqPut x.1 x.2.1) laws_eqPut.out
theorem laws_eqPut.ok : FsOk Go.Proofs.Try.prog 112 laws_eqPut.FS :=
  fs_ok (fn := Go.Proofs.Try.f112) tbok (by kernel_rfl) (body_some (by kernel_rfl)) (by kernel_rfl) (pts := laws_eqPut.pts) (ev_sound (nt := 16) (np := 2) (hn := laws_eqPut.hn) (G := laws_eqPut.G) (L := laws_eqPut.L) tbok laws_eqPut.Gok hmix _ (.no) (hok_of (l := []) (by kernel_rfl) trivial)) rfl rfl
    fun x => laws_eqPut.eq x.1 x.2.1
noncomputable def laws_eqPutS_l0.B (a : List Put_) (b : List Put_) (i_ : Int) : Option ((Int) ⊕ (((Bool) ⊕ (Unit)))) :=
  cond (decide (i_ < (a.length : Int))) (cond (inB i_ a.length) (cond (inB i_ b.length) ((laws_eqPut (a.getD i_.toNat zPut_) (b.getD i_.toNat zPut_)).bind fun r => cond (!r) (some (.inr (.inl false))) (some (.inl (w64 (i_ + 1))))) (none)) (none)) (some (.inr (.inr ())))
noncomputable def laws_eqPutS_l0 (a : List Put_) (b : List Put_) : (Int) → Option (((Bool) ⊕ (Unit))) :=
  loopL fun s => laws_eqPutS_l0.B a b s
noncomputable def laws_eqPutS (a : List Put_) (b : List Put_) : Option (Bool) :=
  cond ((a.length : Int) != (b.length : Int)) (some false) ((laws_eqPutS_l0 a b 0).bind fun o => sel o (fun b2 => some b2) (fun c => some true))
noncomputable def laws_eqPutS.G : Gam := mkG [(112, laws_eqPut.FS)]
theorem laws_eqPutS.Gok : GOk Go.Proofs.Try.prog laws_eqPutS.G := GOk.cons (laws_eqPut.ok) (GOk.nil)
def laws_eqPutS.hn : Hint := ⟨[], [], [], 0⟩
noncomputable def laws_eqPutS_l0.wit (a : List Put_) (b : List Put_) (o : ((Bool) ⊕ (Unit))) : Ex × St := sel o (fun b => (.rt, ⟨[(4, .cl .sh .bool b)], []⟩)) (fun c => (.ex 0, ⟨[], []⟩))
theorem laws_eqPutS_l0.eq (a : List Put_) (b : List Put_) (i_ : Int) : ev tb laws_eqPutS.hn 27 2 laws_eqPutS.G (mkL []) (codeAt (bodyOf Go.Proofs.Try.f45) [1, 1, 0, 1, 0, 0]) (.no) ⟨[(0, .cl .sh (.sl tPut_) a), (1, .cl .sh (.sl tPut_) b), (5, .cl .sh (.int .i64) i_)], []⟩ (kLp (([0, 1, 5], [])) [(0, ([], []))] ([4], [])) =
    (laws_eqPutS_l0.B a b i_).map (fun o => sel o (fun s => .inl ⟨[(0, .cl .sh (.sl tPut_) a), (1, .cl .sh (.sl tPut_) b), (5, .cl .sh (.int .i64) s)], []⟩) (fun o => .inr (laws_eqPutS_l0.wit a b o))) := by
  simp only [laws_eqPutS_l0.B, cond_map, bind_map, sel_map, Option.map_some, Option.map_none]
  kernel_rfl
def laws_eqPutS_l0.sp : SP := ⟨[(0, .cl .sh (.sl tPut_)), (1, .cl .sh (.sl tPut_)), (5, .cl .sh (.int .i64))], []⟩
noncomputable def laws_eqPutS_l0.out (a : List Put_) (b : List Put_) : FOut (((Bool) ⊕ (Unit))) := fun o _ k => sel o (fun b => k (.rt) ⟨[(4, .cl .sh .bool b)], []⟩) (fun c => k (.ex 0) ⟨[], []⟩)
theorem laws_eqPutS_l0.outEq (a : List Put_) (b : List Put_) (o : ((Bool) ⊕ (Unit))) (R : Type) (k : Ex → St → Option R) : laws_eqPutS_l0.out a b o R k = k (laws_eqPutS_l0.wit a b o).1 (laws_eqPutS_l0.wit a b o).2 := by
  rcases o with o | o <;> rfl
noncomputable def laws_eqPutS_l0.F (x : laws_eqPutS_l0.sp.El) (R : Type) (k : Ex → St → Option R) : Option R := (laws_eqPutS_l0 x.1.1 x.1.2.1 x.1.2.2.1).bind fun t => laws_eqPutS_l0.out x.1.1 x.1.2.1 t R k
noncomputable def laws_eqPutS_l0.fr : St → ∀ R : Type, (Ex → St → Option R) → Option R := mkFrag laws_eqPutS_l0.sp laws_eqPutS_l0.F
theorem laws_eqPutS_l0.ok : CodeOk Go.Proofs.Try.prog 27 2 (.loop (codeAt (bodyOf Go.Proofs.Try.f45) [1, 1, 0, 1, 0, 0])) laws_eqPutS_l0.fr :=
  loop_sound (sp := laws_eqPutS_l0.sp) rfl (F := laws_eqPutS_l0.F) (ev_sound (hn := laws_eqPutS.hn) (G := laws_eqPutS.G) (L := mkL []) tbok laws_eqPutS.Gok hmix _ (.no) (hok_of (l := []) (by kernel_rfl) trivial)) 
    fun x => ⟨_, _, fun s => laws_eqPutS_l0.B x.1.1 x.1.2.1 s, fun s => ⟨[(0, .cl .sh (.sl tPut_) x.1.1), (1, .cl .sh (.sl tPut_) x.1.2.1), (5, .cl .sh (.int .i64) s)], []⟩, laws_eqPutS_l0.wit x.1.1 x.1.2.1, x.1.2.2.1, rfl, fun s => laws_eqPutS_l0.eq x.1.1 x.1.2.1 s, fun R k => congrArg (fun g => (laws_eqPutS_l0 x.1.1 x.1.2.1 x.1.2.2.1).bind g) (funext fun t => laws_eqPutS_l0.outEq x.1.1 x.1.2.1 t R k)⟩
noncomputable def laws_eqPutS.L : Lam := mkL [(0, laws_eqPutS_l0.fr)]
def laws_eqPutS.out (t : Bool) : Out := ⟨[.cl .sh .bool t], []⟩
theorem laws_eqPutS.eq (a : List Put_) (b : List Put_) : ev tb laws_eqPutS.hn 27 2 laws_eqPutS.G laws_eqPutS.L (bodyOf Go.Proofs.Try.f45) (.two (.no) (.two (.no) (.two (.two (.no) (.one (.fr 0))) (.no)))) (initSt [.cl .sh (.sl tPut_) a, .cl .sh (.sl tPut_) b]) (kfin tb laws_eqPutS.hn Go.Proofs.Try.f45 [.sh, .sh]) =
    (laws_eqPutS a b).map laws_eqPutS.out := by
  simp only [laws_eqPutS, cond_map, bind_map, sel_map, Option.map_some, Option.map_none]
  kernel_rfl
def laws_eqPutS.pts : List PT := [.cl .sh (.sl tPut_), .cl .sh (.sl tPut_)]
noncomputable def laws_eqPutS.FS : FS := mkFS [.sh, .sh] laws_eqPutS.pts (fun x => laws_eqPutS x.1 x.2.1) laws_eqPutS.out
theorem laws_eqPutS.ok : FsOk Go.Proofs.Try.prog 45 laws_eqPutS.FS :=
  fs_ok (fn := Go.Proofs.Try.f45) tbok (by kernel_rfl) (body_some (by kernel_rfl)) (by kernel_rfl) (pts := laws_eqPutS.pts) (ev_sound (nt := 27) (np := 2) (hn := laws_eqPutS.hn) (G := laws_eqPutS.G) (L := laws_eqPutS.L) tbok laws_eqPutS.Gok hmix _ (.two (.no) (.two (.no) (.two (.two (.no) (.one (.fr 0))) (.no)))) (hok_of (l := [(0, .loop (codeAt (bodyOf Go.Proofs.Try.f45) [1, 1, 0, 1, 0, 0]))]) (by kernel_rfl) ⟨Lam.cons laws_eqPutS_l0.ok, trivial⟩)) rfl rfl
    fun x => laws_eqPutS.eq x.1 x.2.1
noncomputable def laws_eqDisk (a : Disk_) (b : Disk_) : Option (Bool) :=
  (laws_eqInt64SS a.1 b.1).bind fun r => cond (!r) (some false) ((laws_eqPutS a.2.1 b.2.1).bind fun r2 => cond (!r2) (some false) (some true))
noncomputable def laws_eqDisk.G : Gam := mkG [(101, laws_eqInt64SS.FS), (45, laws_eqPutS.FS)]
theorem laws_eqDisk.Gok : GOk Go.Proofs.Try.prog laws_eqDisk.G := GOk.cons (laws_eqInt64SS.ok) (GOk.cons (laws_eqPutS.ok) (GOk.nil))
def laws_eqDisk.hn : Hint := ⟨[2, 3], [], [], 0⟩
noncomputable def laws_eqDisk.L : Lam := mkL []
def laws_eqDisk.out (t : Bool) : Out := ⟨[.cl .sh .bool t], []⟩
theorem laws_eqDisk.eq (a : Disk_) (b : Disk_) : ev tb laws_eqDisk.hn 17 2 laws_eqDisk.G laws_eqDisk.L (bodyOf Go.Proofs.Try.f39) (.no) (initSt [.cl .sh tDisk_ a, .cl .sh tDisk_ b]) (kfin tb laws_eqDisk.hn Go.Proofs.Try.f39 [.sh, .sh]) =
    (laws_eqDisk a b).map laws_eqDisk.out := by
  simp only [laws_eqDisk, cond_map, bind_map, sel_map, Option.map_some, Option.map_none]
  kernel_rfl
def laws_eqDisk.pts : List PT := [.cl .sh tDisk_, .cl .sh tDisk_]
noncomputable def laws_eqDisk.FS : FS := mkFS [.sh, .sh] laws_eqDisk.pts (fun x => laws_eqDisk x.1 x.2.1) laws_eqDisk.out
theorem laws_eqDisk.ok : FsOk Go.Proofs.Try.prog 39 laws_eqDisk.FS :=
  fs_ok (fn := Go.Proofs.Try.f39) tbok (by kernel_rfl) (body_some (by kernel_rfl)) (by kernel_rfl) (pts := laws_eqDisk.pts) (ev_sound (nt := 17) (np := 2) (hn := laws_eqDisk.hn) (G := laws_eqDisk.G) (L := laws_eqDisk.L) tbok laws_eqDisk.Gok hmix _ (.no) (hok_of (l := []) (by kernel_rfl) trivial)) rfl rfl
    fun x => laws_eqDisk.eq x.1 x.2.1
noncomputable def laws_eqWorld (a : World_) (b : World_) : Option (Bool) :=
  (laws_eqDisk a.1 b.1).bind fun r => cond (!r) (some false) ((laws_eqFs a.2.1 b.2.1).bind fun r2 => cond (!r2) (some false) ((laws_eqFs a.2.2.1 b.2.2.1).bind fun r3 => cond (!r3) (some false) (some true)))
noncomputable def laws_eqWorld.G : Gam := mkG [(39, laws_eqDisk.FS), (160, laws_eqFs.FS)]
theorem laws_eqWorld.Gok : GOk Go.Proofs.Try.prog laws_eqWorld.G := GOk.cons (laws_eqDisk.ok) (GOk.cons (laws_eqFs.ok) (GOk.nil))
def laws_eqWorld.hn : Hint := ⟨[2, 3], [], [], 0⟩
noncomputable def laws_eqWorld.L : Lam := mkL []
def laws_eqWorld.out (t : Bool) : Out := ⟨[.cl .sh .bool t], []⟩
theorem laws_eqWorld.eq (a : World_) (b : World_) : ev tb laws_eqWorld.hn 23 2 laws_eqWorld.G laws_eqWorld.L (bodyOf Go.Proofs.Try.f128) (.no) (initSt [.cl .sh tWorld_ a, .cl .sh tWorld_ b]) (kfin tb laws_eqWorld.hn Go.Proofs.Try.f128 [.sh, .sh]) =
    (laws_eqWorld a b).map laws_eqWorld.out := by
  simp only [laws_eqWorld, cond_map, bind_map, sel_map, Option.map_some, Option.map_none]
  kernel_rfl
def laws_eqWorld.pts : List PT := [.cl .sh tWorld_, .cl .sh tWorld_]
noncomputable def laws_eqWorld.FS : FS := mkFS [.sh, .sh] laws_eqWorld.pts (fun x => laws_eqWorld x.1 x.2.1) laws_eqWorld.out
theorem laws_eqWorld.ok : FsOk Go.Proofs.Try.prog 128 laws_eqWorld.FS :=
  fs_ok (fn := Go.Proofs.Try.f128) tbok (by kernel_rfl) (body_some (by kernel_rfl)) (by kernel_rfl) (pts := laws_eqWorld.pts) (ev_sound (nt := 23) (np := 2) (hn := laws_eqWorld.hn) (G := laws_eqWorld.G) (L := laws_eqWorld.L) tbok laws_eqWorld.Gok hmix _ (.no) (hok_of (l := []) (by kernel_rfl) trivial)) rfl rfl
    fun x => laws_eqWorld.eq x.1 x.2.1
noncomputable def laws_eqWorldResult (a : WorldResult_) (b : WorldResult_) : Option (Bool) :=
  cond (a.1 != b.1) (some false) ((laws_eqCallResult a.2.1 b.2.1).bind fun r => cond (!r) (some false) ((laws_eqWorld a.2.2.1 b.2.2.1).bind fun r2 => cond (!r2) (some false) (some true)))
noncomputable def laws_eqWorldResult.G : Gam := mkG [(127, laws_eqCallResult.FS), (128, laws_eqWorld.FS)]
theorem laws_eqWorldResult.Gok : GOk Go.Proofs.Try.prog laws_eqWorldResult.G := GOk.cons (laws_eqCallResult.ok) (GOk.cons (laws_eqWorld.ok) (GOk.nil))
def laws_eqWorldResult.hn : Hint := ⟨[2, 3], [], [], 0⟩
noncomputable def laws_eqWorldResult.L : Lam := mkL []
def laws_eqWorldResult.out (t : Bool) : Out := ⟨[.cl .sh .bool t], []⟩
theorem laws_eqWorldResult.eq (a : WorldResult_) (b : WorldResult_) : ev tb laws_eqWorldResult.hn 22 2 laws_eqWorldResult.G laws_eqWorldResult.L (bodyOf Go.Proofs.Try.f65) (.no) (initSt [.cl .sh tWorldResult_ a, .cl .sh tWorldResult_ b]) (kfin tb laws_eqWorldResult.hn Go.Proofs.Try.f65 [.sh, .sh]) =
    (laws_eqWorldResult a b).map laws_eqWorldResult.out := by
  simp only [laws_eqWorldResult, cond_map, bind_map, sel_map, Option.map_some, Option.map_none]
  kernel_rfl
def laws_eqWorldResult.pts : List PT := [.cl .sh tWorldResult_, .cl .sh tWorldResult_]
noncomputable def laws_eqWorldResult.FS : FS := mkFS [.sh, .sh] laws_eqWorldResult.pts (fun x => laws_eqWorldResult x.1 x.2.1) laws_eqWorldResult.out
theorem laws_eqWorldResult.ok : FsOk Go.Proofs.Try.prog 65 laws_eqWorldResult.FS :=
  fs_ok (fn := Go.Proofs.Try.f65) tbok (by kernel_rfl) (body_some (by kernel_rfl)) (by kernel_rfl) (pts := laws_eqWorldResult.pts) (ev_sound (nt := 22) (np := 2) (hn := laws_eqWorldResult.hn) (G := laws_eqWorldResult.G) (L := laws_eqWorldResult.L) tbok laws_eqWorldResult.Gok hmix _ (.no) (hok_of (l := []) (by kernel_rfl) trivial)) rfl rfl
    fun x => laws_eqWorldResult.eq x.1 x.2.1
noncomputable def laws_markByteS_l0.B (k_ : Int) (i_ : Int) (a_ : List Int) : Option ((Int × Int × List Int) ⊕ (Int × List Int)) :=
  cond (decide (i_ < (a_.length : Int))) (cond (inB i_ a_.length) (some (.inl (w64 (k_ + 1), w64 (i_ + 1), a_.set i_.toNat (IntKind.u8.wrap (k_))))) (none)) (some (.inr (k_, a_)))
noncomputable def laws_markByteS_l0  : (Int × Int × List Int) → Option (Int × List Int) :=
  loopL fun s => laws_markByteS_l0.B s.1 s.2.1 s.2.2
noncomputable def laws_markByteS (a : List Int) (k : Int) : Option (Int × List Int) :=
  (laws_markByteS_l0 (k, 0, a)).bind fun o => some (o.1, o.2)
noncomputable def laws_markByteS.G : Gam := mkG []
theorem laws_markByteS.Gok : GOk Go.Proofs.Try.prog laws_markByteS.G := GOk.nil
def laws_markByteS.hn : Hint := ⟨[], [], [], 0⟩
noncomputable def laws_markByteS_l0.wit  (b : Int × List Int) : Ex × St := (.ex 0, ⟨[(1, .cl .sh (.int .i64) b.1)], [(0, some ⟨.reg, .cl .deep (.sl (.int .u8)) b.2⟩)]⟩)
theorem laws_markByteS_l0.eq  (k_ : Int) (i_ : Int) (a_ : List Int) : ev tb laws_markByteS.hn 20 2 laws_markByteS.G (mkL []) (codeAt (bodyOf Go.Proofs.Try.f161) [1, 0, 1, 0, 0]) (.no) ⟨[(0, .seg 0 []), (1, .cl .sh (.int .i64) k_), (5, .cl .sh (.int .i64) i_)], [(0, some ⟨.reg, .cl .deep (.sl (.int .u8)) a_⟩)]⟩ (kLp (([0, 1, 5], [0])) [(0, ([1], [0]))] ([], [])) =
    (laws_markByteS_l0.B  k_ i_ a_).map (fun o => sel o (fun s => .inl ⟨[(0, .seg 0 []), (1, .cl .sh (.int .i64) s.1), (5, .cl .sh (.int .i64) s.2.1)], [(0, some ⟨.reg, .cl .deep (.sl (.int .u8)) s.2.2⟩)]⟩) (fun b => .inr (laws_markByteS_l0.wit  b))) := by
  simp only [laws_markByteS_l0.B, cond_map, bind_map, sel_map, Option.map_some, Option.map_none]
  kernel_rfl
def laws_markByteS_l0.sp : SP := ⟨[(0, .seg 0 []), (1, .cl .sh (.int .i64)), (5, .cl .sh (.int .i64))], [(0, .reg, .cl .deep (.sl (.int .u8)))]⟩
noncomputable def laws_markByteS_l0.out  : FOut (Int × List Int) := fun b _ k => k (.ex 0) ⟨[(1, .cl .sh (.int .i64) b.1)], [(0, some ⟨.reg, .cl .deep (.sl (.int .u8)) b.2⟩)]⟩
theorem laws_markByteS_l0.outEq  (o : Int × List Int) (R : Type) (k : Ex → St → Option R) : laws_markByteS_l0.out  o R k = k (laws_markByteS_l0.wit  o).1 (laws_markByteS_l0.wit  o).2 := by
  rfl
noncomputable def laws_markByteS_l0.F (x : laws_markByteS_l0.sp.El) (R : Type) (k : Ex → St → Option R) : Option R := (laws_markByteS_l0  (x.1.2.1, x.1.2.2.1, x.2.1)).bind fun t => laws_markByteS_l0.out  t R k
noncomputable def laws_markByteS_l0.fr : St → ∀ R : Type, (Ex → St → Option R) → Option R := mkFrag laws_markByteS_l0.sp laws_markByteS_l0.F
theorem laws_markByteS_l0.ok : CodeOk Go.Proofs.Try.prog 20 2 (.loop (codeAt (bodyOf Go.Proofs.Try.f161) [1, 0, 1, 0, 0])) laws_markByteS_l0.fr :=
  loop_sound (sp := laws_markByteS_l0.sp) rfl (F := laws_markByteS_l0.F) (ev_sound (hn := laws_markByteS.hn) (G := laws_markByteS.G) (L := mkL []) tbok laws_markByteS.Gok hmix _ (.no) (hok_of (l := []) (by kernel_rfl) trivial)) 
    fun x => ⟨_, _, fun s => laws_markByteS_l0.B  s.1 s.2.1 s.2.2, fun s => ⟨[(0, .seg 0 []), (1, .cl .sh (.int .i64) s.1), (5, .cl .sh (.int .i64) s.2.1)], [(0, some ⟨.reg, .cl .deep (.sl (.int .u8)) s.2.2⟩)]⟩, laws_markByteS_l0.wit , (x.1.2.1, x.1.2.2.1, x.2.1), rfl, fun s => laws_markByteS_l0.eq  s.1 s.2.1 s.2.2, fun R k => congrArg (fun g => (laws_markByteS_l0  (x.1.2.1, x.1.2.2.1, x.2.1)).bind g) (funext fun t => laws_markByteS_l0.outEq  t R k)⟩
noncomputable def laws_markByteS.L : Lam := mkL [(0, laws_markByteS_l0.fr)]
def laws_markByteS.out (t : Int × List Int) : Out := ⟨[.cl .sh (.int .i64) t.1], [.cl .deep (.sl (.int .u8)) t.2]⟩
theorem laws_markByteS.eq (a : List Int) (k : Int) : ev tb laws_markByteS.hn 20 2 laws_markByteS.G laws_markByteS.L (bodyOf Go.Proofs.Try.f161) (.two (.no) (.two (.two (.no) (.one (.fr 0))) (.no))) (initSt [.cl .deep (.sl (.int .u8)) a, .cl .sh (.int .i64) k]) (kfin tb laws_markByteS.hn Go.Proofs.Try.f161 [.mu, .sh]) =
    (laws_markByteS a k).map laws_markByteS.out := by
  simp only [laws_markByteS, cond_map, bind_map, sel_map, Option.map_some, Option.map_none]
  kernel_rfl
def laws_markByteS.pts : List PT := [.cl .deep (.sl (.int .u8)), .cl .sh (.int .i64)]
noncomputable def laws_markByteS.FS : FS := mkFS [.mu, .sh] laws_markByteS.pts (fun x => laws_markByteS x.1 x.2.1) laws_markByteS.out
theorem laws_markByteS.ok : FsOk Go.Proofs.Try.prog 161 laws_markByteS.FS :=
  fs_ok (fn := Go.Proofs.Try.f161) tbok (by kernel_rfl) (body_some (by kernel_rfl)) (by kernel_rfl) (pts := laws_markByteS.pts) (ev_sound (nt := 20) (np := 2) (hn := laws_markByteS.hn) (G := laws_markByteS.G) (L := laws_markByteS.L) tbok laws_markByteS.Gok hmix _ (.two (.no) (.two (.two (.no) (.one (.fr 0))) (.no))) (hok_of (l := [(0, .loop (codeAt (bodyOf Go.Proofs.Try.f161) [1, 0, 1, 0, 0]))]) (by kernel_rfl) ⟨Lam.cons laws_markByteS_l0.ok, trivial⟩)) rfl rfl
    fun x => laws_markByteS.eq x.1 x.2.1
noncomputable def laws_markText_l0.B (k_ : Int) (out_ : List UInt8) : Option ((Int × List UInt8) ⊕ (List UInt8)) :=
  cond (decide (k_ > 0)) (cond (!((10 : Int) == 0)) ((some (IntKind.u8.wrap (w64 ((48 : Int) + (k_.tmod 10))))).bind fun v => cond (decide ((([v]).map fun n => UInt8.ofNat n.toNat).length + out_.length ≤ 2147483648)) (cond (!((10 : Int) == 0)) (some (.inl (w64 (k_.tdiv 10), (([v]).map fun n => UInt8.ofNat n.toNat) ++ out_))) (none)) (none)) (none)) (some (.inr out_))
noncomputable def laws_markText_l0  : (Int × List UInt8) → Option (List UInt8) :=
  loopL fun s => laws_markText_l0.B s.1 s.2
noncomputable def laws_markText (k : Int) : Option (List UInt8) :=
  cond (decide (k ≤ 0)) (some ([109, 48] : List UInt8)) ((laws_markText_l0 (k, ([] : List UInt8))).bind fun o => cond (decide (([109] : List UInt8).length + o.length ≤ 2147483648)) (some (([109] : List UInt8) ++ o)) (none))
noncomputable def laws_markText.G : Gam := mkG []
theorem laws_markText.Gok : GOk Go.Proofs.Try.prog laws_markText.G := GOk.nil
def laws_markText.hn : Hint := ⟨[], [], [], 0⟩
noncomputable def laws_markText_l0.wit  (b : List UInt8) : Ex × St := (.ex 0, ⟨[(3, .cl .sh .str b)], []⟩)
theorem laws_markText_l0.eq  (k_ : Int) (out_ : List UInt8) : ev tb laws_markText.hn 20 1 laws_markText.G (mkL []) (codeAt (bodyOf Go.Proofs.Try.f176) [1, 1, 1, 0, 0, 0]) (.no) ⟨[(0, .cl .sh (.int .i64) k_), (3, .cl .sh .str out_)], []⟩ (kLp (([0, 3], [])) [(0, ([3], []))] ([], [])) =
    (laws_markText_l0.B  k_ out_).map (fun o => sel o (fun s => .inl ⟨[(0, .cl .sh (.int .i64) s.1), (3, .cl .sh .str s.2)], []⟩) (fun b => .inr (laws_markText_l0.wit  b))) := by
  simp only [laws_markText_l0.B, cond_map, bind_map, sel_map, Option.map_some, Option.map_none]
  kernel_rfl
def laws_markText_l0.sp : SP := ⟨[(0, .cl .sh (.int .i64)), (3, .cl .sh .str)], []⟩
noncomputable def laws_markText_l0.out  : FOut (List UInt8) := fun b _ k => k (.ex 0) ⟨[(3, .cl .sh .str b)], []⟩
theorem laws_markText_l0.outEq  (o : List UInt8) (R : Type) (k : Ex → St → Option R) : laws_markText_l0.out  o R k = k (laws_markText_l0.wit  o).1 (laws_markText_l0.wit  o).2 := by
  rfl
noncomputable def laws_markText_l0.F (x : laws_markText_l0.sp.El) (R : Type) (k : Ex → St → Option R) : Option R := (laws_markText_l0  (x.1.1, x.1.2.1)).bind fun t => laws_markText_l0.out  t R k
noncomputable def laws_markText_l0.fr : St → ∀ R : Type, (Ex → St → Option R) → Option R := mkFrag laws_markText_l0.sp laws_markText_l0.F
theorem laws_markText_l0.ok : CodeOk Go.Proofs.Try.prog 20 1 (.loop (codeAt (bodyOf Go.Proofs.Try.f176) [1, 1, 1, 0, 0, 0])) laws_markText_l0.fr :=
  loop_sound (sp := laws_markText_l0.sp) rfl (F := laws_markText_l0.F) (ev_sound (hn := laws_markText.hn) (G := laws_markText.G) (L := mkL []) tbok laws_markText.Gok hmix _ (.no) (hok_of (l := []) (by kernel_rfl) trivial)) 
    fun x => ⟨_, _, fun s => laws_markText_l0.B  s.1 s.2, fun s => ⟨[(0, .cl .sh (.int .i64) s.1), (3, .cl .sh .str s.2)], []⟩, laws_markText_l0.wit , (x.1.1, x.1.2.1), rfl, fun s => laws_markText_l0.eq  s.1 s.2, fun R k => congrArg (fun g => (laws_markText_l0  (x.1.1, x.1.2.1)).bind g) (funext fun t => laws_markText_l0.outEq  t R k)⟩
noncomputable def laws_markText.L : Lam := mkL [(0, laws_markText_l0.fr)]
def laws_markText.out (t : List UInt8) : Out := ⟨[.cl .sh .str t], []⟩
theorem laws_markText.eq (k : Int) : ev tb laws_markText.hn 20 1 laws_markText.G laws_markText.L (bodyOf Go.Proofs.Try.f176) (.two (.no) (.two (.no) (.two (.no) (.two (.one (.fr 0)) (.no))))) (initSt [.cl .sh (.int .i64) k]) (kfin tb laws_markText.hn Go.Proofs.Try.f176 [.sh]) =
    (laws_markText k).map laws_markText.out := by
  simp only [laws_markText, cond_map, bind_map, sel_map, Option.map_some, Option.map_none]
  kernel_rfl
def laws_markText.pts : List PT := [.cl .sh (.int .i64)]
noncomputable def laws_markText.FS : FS := mkFS [.sh] laws_markText.pts (fun x => laws_markText x.1) laws_markText.out
theorem laws_markText.ok : FsOk Go.Proofs.Try.prog 176 laws_markText.FS :=
  fs_ok (fn := Go.Proofs.Try.f176) tbok (by kernel_rfl) (body_some (by kernel_rfl)) (by kernel_rfl) (pts := laws_markText.pts) (ev_sound (nt := 20) (np := 1) (hn := laws_markText.hn) (G := laws_markText.G) (L := laws_markText.L) tbok laws_markText.Gok hmix _ (.two (.no) (.two (.no) (.two (.no) (.two (.one (.fr 0)) (.no))))) (hok_of (l := [(0, .loop (codeAt (bodyOf Go.Proofs.Try.f176) [1, 1, 1, 0, 0, 0]))]) (by kernel_rfl) ⟨Lam.cons laws_markText_l0.ok, trivial⟩)) rfl rfl
    fun x => laws_markText.eq x.1
noncomputable def laws_markStringS_l0.B (k_ : Int) (i_ : Int) (a_ : List (List UInt8)) : Option ((Int × Int × List (List UInt8)) ⊕ (Int × List (List UInt8))) :=
  cond (decide (i_ < (a_.length : Int))) ((laws_markText k_).bind fun r => cond (inB i_ a_.length) (some (.inl (w64 (k_ + 1), w64 (i_ + 1), a_.set i_.toNat r))) (none)) (some (.inr (k_, a_)))
noncomputable def laws_markStringS_l0  : (Int × Int × List (List UInt8)) → Option (Int × List (List UInt8)) :=
  loopL fun s => laws_markStringS_l0.B s.1 s.2.1 s.2.2
noncomputable def laws_markStringS (a : List (List UInt8)) (k : Int) : Option (Int × List (List UInt8)) :=
  (laws_markStringS_l0 (k, 0, a)).bind fun o => some (o.1, o.2)
noncomputable def laws_markStringS.G : Gam := mkG [(176, laws_markText.FS)]
theorem laws_markStringS.Gok : GOk Go.Proofs.Try.prog laws_markStringS.G := GOk.cons (laws_markText.ok) (GOk.nil)
def laws_markStringS.hn : Hint := ⟨[], [], [], 0⟩
noncomputable def laws_markStringS_l0.wit  (b : Int × List (List UInt8)) : Ex × St := (.ex 0, ⟨[(1, .cl .sh (.int .i64) b.1)], [(0, some ⟨.reg, .cl .deep (.sl .str) b.2⟩)]⟩)
theorem laws_markStringS_l0.eq  (k_ : Int) (i_ : Int) (a_ : List (List UInt8)) : ev tb laws_markStringS.hn 20 2 laws_markStringS.G (mkL []) (codeAt (bodyOf Go.Proofs.Try.f162) [1, 0, 1, 0, 0]) (.no) ⟨[(0, .seg 0 []), (1, .cl .sh (.int .i64) k_), (5, .cl .sh (.int .i64) i_)], [(0, some ⟨.reg, .cl .deep (.sl .str) a_⟩)]⟩ (kLp (([0, 1, 5], [0])) [(0, ([1], [0]))] ([], [])) =
    (laws_markStringS_l0.B  k_ i_ a_).map (fun o => sel o (fun s => .inl ⟨[(0, .seg 0 []), (1, .cl .sh (.int .i64) s.1), (5, .cl .sh (.int .i64) s.2.1)], [(0, some ⟨.reg, .cl .deep (.sl .str) s.2.2⟩)]⟩) (fun b => .inr (laws_markStringS_l0.wit  b))) := by
  simp only [laws_markStringS_l0.B, cond_map, bind_map, sel_map, Option.map_some, Option.map_none]
  kernel_rfl
def laws_markStringS_l0.sp : SP := ⟨[(0, .seg 0 []), (1, .cl .sh (.int .i64)), (5, .cl .sh (.int .i64))], [(0, .reg, .cl .deep (.sl .str))]⟩
noncomputable def laws_markStringS_l0.out  : FOut (Int × List (List UInt8)) := fun b _ k => k (.ex 0) ⟨[(1, .cl .sh (.int .i64) b.1)], [(0, some ⟨.reg, .cl .deep (.sl .str) b.2⟩)]⟩
theorem laws_markStringS_l0.outEq  (o : Int × List (List UInt8)) (R : Type) (k : Ex → St → Option R) : laws_markStringS_l0.out  o R k = k (laws_markStringS_l0.wit  o).1 (laws_markStringS_l0.wit  o).2 := by
  rfl
noncomputable def laws_markStringS_l0.F (x : laws_markStringS_l0.sp.El) (R : Type) (k : Ex → St → Option R) : Option R := (laws_markStringS_l0  (x.1.2.1, x.1.2.2.1, x.2.1)).bind fun t => laws_markStringS_l0.out  t R k
noncomputable def laws_markStringS_l0.fr : St → ∀ R : Type, (Ex → St → Option R) → Option R := mkFrag laws_markStringS_l0.sp laws_markStringS_l0.F
theorem laws_markStringS_l0.ok : CodeOk Go.Proofs.Try.prog 20 2 (.loop (codeAt (bodyOf Go.Proofs.Try.f162) [1, 0, 1, 0, 0])) laws_markStringS_l0.fr :=
  loop_sound (sp := laws_markStringS_l0.sp) rfl (F := laws_markStringS_l0.F) (ev_sound (hn := laws_markStringS.hn) (G := laws_markStringS.G) (L := mkL []) tbok laws_markStringS.Gok hmix _ (.no) (hok_of (l := []) (by kernel_rfl) trivial)) 
    fun x => ⟨_, _, fun s => laws_markStringS_l0.B  s.1 s.2.1 s.2.2, fun s => ⟨[(0, .seg 0 []), (1, .cl .sh (.int .i64) s.1), (5, .cl .sh (.int .i64) s.2.1)], [(0, some ⟨.reg, .cl .deep (.sl .str) s.2.2⟩)]⟩, laws_markStringS_l0.wit , (x.1.2.1, x.1.2.2.1, x.2.1), rfl, fun s => laws_markStringS_l0.eq  s.1 s.2.1 s.2.2, fun R k => congrArg (fun g => (laws_markStringS_l0  (x.1.2.1, x.1.2.2.1, x.2.1)).bind g) (funext fun t => laws_markStringS_l0.outEq  t R k)⟩
noncomputable def laws_markStringS.L : Lam := mkL [(0, laws_markStringS_l0.fr)]
def laws_markStringS.out (t : Int × List (List UInt8)) : Out := ⟨[.cl .sh (.int .i64) t.1], [.cl .deep (.sl .str) t.2]⟩
theorem laws_markStringS.eq (a : List (List UInt8)) (k : Int) : ev tb laws_markStringS.hn 20 2 laws_markStringS.G laws_markStringS.L (bodyOf Go.Proofs.Try.f162) (.two (.no) (.two (.two (.no) (.one (.fr 0))) (.no))) (initSt [.cl .deep (.sl .str) a, .cl .sh (.int .i64) k]) (kfin tb laws_markStringS.hn Go.Proofs.Try.f162 [.mu, .sh]) =
    (laws_markStringS a k).map laws_markStringS.out := by
  simp only [laws_markStringS, cond_map, bind_map, sel_map, Option.map_some, Option.map_none]
  kernel_rfl
def laws_markStringS.pts : List PT := [.cl .deep (.sl .str), .cl .sh (.int .i64)]
noncomputable def laws_markStringS.FS : FS := mkFS [.mu, .sh] laws_markStringS.pts (fun x => laws_markStringS x.1 x.2.1) laws_markStringS.out
theorem laws_markStringS.ok : FsOk Go.Proofs.Try.prog 162 laws_markStringS.FS :=
  fs_ok (fn := Go.Proofs.Try.f162) tbok (by kernel_rfl) (body_some (by kernel_rfl)) (by kernel_rfl) (pts := laws_markStringS.pts) (ev_sound (nt := 20) (np := 2) (hn := laws_markStringS.hn) (G := laws_markStringS.G) (L := laws_markStringS.L) tbok laws_markStringS.Gok hmix _ (.two (.no) (.two (.two (.no) (.one (.fr 0))) (.no))) (hok_of (l := [(0, .loop (codeAt (bodyOf Go.Proofs.Try.f162) [1, 0, 1, 0, 0]))]) (by kernel_rfl) ⟨Lam.cons laws_markStringS_l0.ok, trivial⟩)) rfl rfl
    fun x => laws_markStringS.eq x.1 x.2.1
noncomputable def laws_markInt64S_l0.B (k_ : Int) (i_ : Int) (a_ : List Int) : Option ((Int × Int × List Int) ⊕ (Int × List Int)) :=
  cond (decide (i_ < (a_.length : Int))) (cond (inB i_ a_.length) (some (.inl (w64 (k_ + 1), w64 (i_ + 1), a_.set i_.toNat k_))) (none)) (some (.inr (k_, a_)))
noncomputable def laws_markInt64S_l0  : (Int × Int × List Int) → Option (Int × List Int) :=
  loopL fun s => laws_markInt64S_l0.B s.1 s.2.1 s.2.2
noncomputable def laws_markInt64S (a : List Int) (k : Int) : Option (Int × List Int) :=
  (laws_markInt64S_l0 (k, 0, a)).bind fun o => some (o.1, o.2)
noncomputable def laws_markInt64S.G : Gam := mkG []
theorem laws_markInt64S.Gok : GOk Go.Proofs.Try.prog laws_markInt64S.G := GOk.nil
def laws_markInt64S.hn : Hint := ⟨[], [], [], 0⟩
noncomputable def laws_markInt64S_l0.wit  (b : Int × List Int) : Ex × St := (.ex 0, ⟨[(1, .cl .sh (.int .i64) b.1)], [(0, some ⟨.reg, .cl .deep (.sl (.int .i64)) b.2⟩)]⟩)
theorem laws_markInt64S_l0.eq  (k_ : Int) (i_ : Int) (a_ : List Int) : ev tb laws_markInt64S.hn 19 2 laws_markInt64S.G (mkL []) (codeAt (bodyOf Go.Proofs.Try.f114) [1, 0, 1, 0, 0]) (.no) ⟨[(0, .seg 0 []), (1, .cl .sh (.int .i64) k_), (5, .cl .sh (.int .i64) i_)], [(0, some ⟨.reg, .cl .deep (.sl (.int .i64)) a_⟩)]⟩ (kLp (([0, 1, 5], [0])) [(0, ([1], [0]))] ([], [])) =
    (laws_markInt64S_l0.B  k_ i_ a_).map (fun o => sel o (fun s => .inl ⟨[(0, .seg 0 []), (1, .cl .sh (.int .i64) s.1), (5, .cl .sh (.int .i64) s.2.1)], [(0, some ⟨.reg, .cl .deep (.sl (.int .i64)) s.2.2⟩)]⟩) (fun b => .inr (laws_markInt64S_l0.wit  b))) := by
  simp only [laws_markInt64S_l0.B, cond_map, bind_map, sel_map, Option.map_some, Option.map_none]
  kernel_rfl
def laws_markInt64S_l0.sp : SP := ⟨[(0, .seg 0 []), (1, .cl .sh (.int .i64)), (5, .cl .sh (.int .i64))], [(0, .reg, .cl .deep (.sl (.int .i64)))]⟩
noncomputable def laws_markInt64S_l0.out  : FOut (Int × List Int) := fun b _ k => k (.ex 0) ⟨[(1, .cl .sh (.int .i64) b.1)], [(0, some ⟨.reg, .cl .deep (.sl (.int .i64)) b.2⟩)]⟩
theorem laws_markInt64S_l0.outEq  (o : Int × List Int) (R : Type) (k : Ex → St → Option R) : laws_markInt64S_l0.out  o R k = k (laws_markInt64S_l0.wit  o).1 (laws_markInt64S_l0.wit  o).2 := by
  rfl
noncomputable def laws_markInt64S_l0.F (x : laws_markInt64S_l0.sp.El) (R : Type) (k : Ex → St → Option R) : Option R := (laws_markInt64S_l0  (x.1.2.1, x.1.2.2.1, x.2.1)).bind fun t => laws_markInt64S_l0.out  t R k
noncomputable def laws_markInt64S_l0.fr : St → ∀ R : Type, (Ex → St → Option R) → Option R := mkFrag laws_markInt64S_l0.sp laws_markInt64S_l0.F
theorem laws_markInt64S_l0.ok : CodeOk Go.Proofs.Try.prog 19 2 (.loop (codeAt (bodyOf Go.Proofs.Try.f114) [1, 0, 1, 0, 0])) laws_markInt64S_l0.fr :=
  loop_sound (sp := laws_markInt64S_l0.sp) rfl (F := laws_markInt64S_l0.F) (ev_sound (hn := laws_markInt64S.hn) (G := laws_markInt64S.G) (L := mkL []) tbok laws_markInt64S.Gok hmix _ (.no) (hok_of (l := []) (by kernel_rfl) trivial)) 
    fun x => ⟨_, _, fun s => laws_markInt64S_l0.B  s.1 s.2.1 s.2.2, fun s => ⟨[(0, .seg 0 []), (1, .cl .sh (.int .i64) s.1), (5, .cl .sh (.int .i64) s.2.1)], [(0, some ⟨.reg, .cl .deep (.sl (.int .i64)) s.2.2⟩)]⟩, laws_markInt64S_l0.wit , (x.1.2.1, x.1.2.2.1, x.2.1), rfl, fun s => laws_markInt64S_l0.eq  s.1 s.2.1 s.2.2, fun R k => congrArg (fun g => (laws_markInt64S_l0  (x.1.2.1, x.1.2.2.1, x.2.1)).bind g) (funext fun t => laws_markInt64S_l0.outEq  t R k)⟩
noncomputable def laws_markInt64S.L : Lam := mkL [(0, laws_markInt64S_l0.fr)]
def laws_markInt64S.out (t : Int × List Int) : Out := ⟨[.cl .sh (.int .i64) t.1], [.cl .deep (.sl (.int .i64)) t.2]⟩
theorem laws_markInt64S.eq (a : List Int) (k : Int) : ev tb laws_markInt64S.hn 19 2 laws_markInt64S.G laws_markInt64S.L (bodyOf Go.Proofs.Try.f114) (.two (.no) (.two (.two (.no) (.one (.fr 0))) (.no))) (initSt [.cl .deep (.sl (.int .i64)) a, .cl .sh (.int .i64) k]) (kfin tb laws_markInt64S.hn Go.Proofs.Try.f114 [.mu, .sh]) =
    (laws_markInt64S a k).map laws_markInt64S.out := by
  simp only [laws_markInt64S, cond_map, bind_map, sel_map, Option.map_some, Option.map_none]
  kernel_rfl
def laws_markInt64S.pts : List PT := [.cl .deep (.sl (.int .i64)), .cl .sh (.int .i64)]
noncomputable def laws_markInt64S.FS : FS := mkFS [.mu, .sh] laws_markInt64S.pts (fun x => laws_markInt64S x.1 x.2.1) laws_markInt64S.out
theorem laws_markInt64S.ok : FsOk Go.Proofs.Try.prog 114 laws_markInt64S.FS :=
  fs_ok (fn := Go.Proofs.Try.f114) tbok (by kernel_rfl) (body_some (by kernel_rfl)) (by kernel_rfl) (pts := laws_markInt64S.pts) (ev_sound (nt := 19) (np := 2) (hn := laws_markInt64S.hn) (G := laws_markInt64S.G) (L := laws_markInt64S.L) tbok laws_markInt64S.Gok hmix _ (.two (.no) (.two (.two (.no) (.one (.fr 0))) (.no))) (hok_of (l := [(0, .loop (codeAt (bodyOf Go.Proofs.Try.f114) [1, 0, 1, 0, 0]))]) (by kernel_rfl) ⟨Lam.cons laws_markInt64S_l0.ok, trivial⟩)) rfl rfl
    fun x => laws_markInt64S.eq x.1 x.2.1
noncomputable def laws_markEntryS_l0.B (k_ : Int) (i_ : Int) (a_ : List Entry_) : Option ((Int × Int × List Entry_) ⊕ (Int × List Entry_)) :=
  cond (decide (i_ < (a_.length : Int))) ((laws_markText k_).bind fun r => cond (inB i_ a_.length) ((some (a_.set i_.toNat (r, (a_.getD i_.toNat zEntry_).2))).bind fun a_2 => cond (inB i_ a_2.length) ((some (a_2.set i_.toNat ((a_2.getD i_.toNat zEntry_).1, w64 (k_ + 1), ((a_2.getD i_.toNat zEntry_).2).2))).bind fun a_3 => some (.inl (w64 ((w64 (k_ + 1)) + 1), w64 (i_ + 1), a_3))) (none)) (none)) (some (.inr (k_, a_)))
noncomputable def laws_markEntryS_l0  : (Int × Int × List Entry_) → Option (Int × List Entry_) :=
  loopL fun s => laws_markEntryS_l0.B s.1 s.2.1 s.2.2
noncomputable def laws_markEntryS (a : List Entry_) (k : Int) : Option (Int × List Entry_) :=
  (laws_markEntryS_l0 (k, 0, a)).bind fun o => some (o.1, o.2)
noncomputable def laws_markEntryS.G : Gam := mkG [(176, laws_markText.FS)]
theorem laws_markEntryS.Gok : GOk Go.Proofs.Try.prog laws_markEntryS.G := GOk.cons (laws_markText.ok) (GOk.nil)
def laws_markEntryS.hn : Hint := ⟨[], [], [], 0⟩
noncomputable def laws_markEntryS_l0.wit  (b : Int × List Entry_) : Ex × St := (.ex 0, ⟨[(1, .cl .sh (.int .i64) b.1)], [(0, some ⟨.reg, .cl .deep (.sl tEntry_) b.2⟩)]⟩)
theorem laws_markEntryS_l0.eq  (k_ : Int) (i_ : Int) (a_ : List Entry_) : ev tb laws_markEntryS.hn 28 2 laws_markEntryS.G (mkL []) (codeAt (bodyOf Go.Proofs.Try.f183) [1, 0, 1, 0, 0]) (.no) ⟨[(0, .seg 0 []), (1, .cl .sh (.int .i64) k_), (5, .cl .sh (.int .i64) i_)], [(0, some ⟨.reg, .cl .deep (.sl tEntry_) a_⟩)]⟩ (kLp (([0, 1, 5], [0])) [(0, ([1], [0]))] ([], [])) =
    (laws_markEntryS_l0.B  k_ i_ a_).map (fun o => sel o (fun s => .inl ⟨[(0, .seg 0 []), (1, .cl .sh (.int .i64) s.1), (5, .cl .sh (.int .i64) s.2.1)], [(0, some ⟨.reg, .cl .deep (.sl tEntry_) s.2.2⟩)]⟩) (fun b => .inr (laws_markEntryS_l0.wit  b))) := by
  simp only [laws_markEntryS_l0.B, cond_map, bind_map, sel_map, Option.map_some, Option.map_none]
  kernel_rfl
def laws_markEntryS_l0.sp : SP := ⟨[(0, .seg 0 []), (1, .cl .sh (.int .i64)), (5, .cl .sh (.int .i64))], [(0, .reg, .cl .deep (.sl tEntry_))]⟩
noncomputable def laws_markEntryS_l0.out  : FOut (Int × List Entry_) := fun b _ k => k (.ex 0) ⟨[(1, .cl .sh (.int .i64) b.1)], [(0, some ⟨.reg, .cl .deep (.sl tEntry_) b.2⟩)]⟩
theorem laws_markEntryS_l0.outEq  (o : Int × List Entry_) (R : Type) (k : Ex → St → Option R) : laws_markEntryS_l0.out  o R k = k (laws_markEntryS_l0.wit  o).1 (laws_markEntryS_l0.wit  o).2 := by
  rfl
noncomputable def laws_markEntryS_l0.F (x : laws_markEntryS_l0.sp.El) (R : Type) (k : Ex → St → Option R) : Option R := (laws_markEntryS_l0  (x.1.2.1, x.1.2.2.1, x.2.1)).bind fun t => laws_markEntryS_l0.out  t R k
noncomputable def laws_markEntryS_l0.fr : St → ∀ R : Type, (Ex → St → Option R) → Option R := mkFrag laws_markEntryS_l0.sp laws_markEntryS_l0.F
theorem laws_markEntryS_l0.ok : CodeOk Go.Proofs.Try.prog 28 2 (.loop (codeAt (bodyOf Go.Proofs.Try.f183) [1, 0, 1, 0, 0])) laws_markEntryS_l0.fr :=
  loop_sound (sp := laws_markEntryS_l0.sp) rfl (F := laws_markEntryS_l0.F) (ev_sound (hn := laws_markEntryS.hn) (G := laws_markEntryS.G) (L := mkL []) tbok laws_markEntryS.Gok hmix _ (.no) (hok_of (l := []) (by kernel_rfl) trivial)) 
    fun x => ⟨_, _, fun s => laws_markEntryS_l0.B  s.1 s.2.1 s.2.2, fun s => ⟨[(0, .seg 0 []), (1, .cl .sh (.int .i64) s.1), (5, .cl .sh (.int .i64) s.2.1)], [(0, some ⟨.reg, .cl .deep (.sl tEntry_) s.2.2⟩)]⟩, laws_markEntryS_l0.wit , (x.1.2.1, x.1.2.2.1, x.2.1), rfl, fun s => laws_markEntryS_l0.eq  s.1 s.2.1 s.2.2, fun R k => congrArg (fun g => (laws_markEntryS_l0  (x.1.2.1, x.1.2.2.1, x.2.1)).bind g) (funext fun t => laws_markEntryS_l0.outEq  t R k)⟩
noncomputable def laws_markEntryS.L : Lam := mkL [(0, laws_markEntryS_l0.fr)]
def laws_markEntryS.out (t : Int × List Entry_) : Out := ⟨[.cl .sh (.int .i64) t.1], [.cl .deep (.sl tEntry_) t.2]⟩
theorem laws_markEntryS.eq (a : List Entry_) (k : Int) : ev tb laws_markEntryS.hn 28 2 laws_markEntryS.G laws_markEntryS.L (bodyOf Go.Proofs.Try.f183) (.two (.no) (.two (.two (.no) (.one (.fr 0))) (.no))) (initSt [.cl .deep (.sl tEntry_) a, .cl .sh (.int .i64) k]) (kfin tb laws_markEntryS.hn Go.Proofs.Try.f183 [.mu, .sh]) =
    (laws_markEntryS a k).map laws_markEntryS.out := by
  simp only [laws_markEntryS, cond_map, bind_map, sel_map, Option.map_some, Option.map_none]
  kernel_rfl
def laws_markEntryS.pts : List PT := [.cl .deep (.sl tEntry_), .cl .sh (.int .i64)]
noncomputable def laws_markEntryS.FS : FS := mkFS [.mu, .sh] laws_markEntryS.pts (fun x => laws_markEntryS x.1 x.2.1) laws_markEntryS.out
theorem laws_markEntryS.ok : FsOk Go.Proofs.Try.prog 183 laws_markEntryS.FS :=
  fs_ok (fn := Go.Proofs.Try.f183) tbok (by kernel_rfl) (body_some (by kernel_rfl)) (by kernel_rfl) (pts := laws_markEntryS.pts) (ev_sound (nt := 28) (np := 2) (hn := laws_markEntryS.hn) (G := laws_markEntryS.G) (L := laws_markEntryS.L) tbok laws_markEntryS.Gok hmix _ (.two (.no) (.two (.two (.no) (.one (.fr 0))) (.no))) (hok_of (l := [(0, .loop (codeAt (bodyOf Go.Proofs.Try.f183) [1, 0, 1, 0, 0]))]) (by kernel_rfl) ⟨Lam.cons laws_markEntryS_l0.ok, trivial⟩)) rfl rfl
    fun x => laws_markEntryS.eq x.1 x.2.1
noncomputable def laws_markInodeS_l0.B (k_ : Int) (i_ : Int) (a_ : List Inode_) : Option ((Int × Int × List Inode_) ⊕ (Int × List Inode_)) :=
  cond (decide (i_ < (a_.length : Int))) (cond (inB i_ a_.length) ((some (a_.set i_.toNat (k_, (a_.getD i_.toNat zInode_).2))).bind fun a_2 => cond (inB i_ a_2.length) ((some (a_2.set i_.toNat ((a_2.getD i_.toNat zInode_).1, w64 (k_ + 1), ((a_2.getD i_.toNat zInode_).2).2))).bind fun a_3 => cond (inB i_ a_3.length) ((some (a_3.set i_.toNat ((a_3.getD i_.toNat zInode_).1, ((a_3.getD i_.toNat zInode_).2).1, w64 ((w64 (k_ + 1)) + 1), (((a_3.getD i_.toNat zInode_).2).2).2))).bind fun a_4 => cond (inB i_ a_4.length) ((laws_markInt64S (((((a_4.getD i_.toNat zInode_).2).2).2).1) (w64 ((w64 ((w64 (k_ + 1)) + 1)) + 1))).bind fun r => cond (inB i_ ((a_4.set i_.toNat ((a_4.getD i_.toNat zInode_).1, ((a_4.getD i_.toNat zInode_).2).1, (((a_4.getD i_.toNat zInode_).2).2).1, r.2, ((((a_4.getD i_.toNat zInode_).2).2).2).2)).length)) ((laws_markEntryS (((((((a_4.set i_.toNat ((a_4.getD i_.toNat zInode_).1, ((a_4.getD i_.toNat zInode_).2).1, (((a_4.getD i_.toNat zInode_).2).2).1, r.2, ((((a_4.getD i_.toNat zInode_).2).2).2).2)).getD i_.toNat zInode_).2).2).2).2).1) r.1).bind fun r2 => some (.inl (r2.1, w64 (i_ + 1), (a_4.set i_.toNat ((a_4.getD i_.toNat zInode_).1, ((a_4.getD i_.toNat zInode_).2).1, (((a_4.getD i_.toNat zInode_).2).2).1, r.2, ((((a_4.getD i_.toNat zInode_).2).2).2).2)).set i_.toNat (((a_4.set i_.toNat ((a_4.getD i_.toNat zInode_).1, ((a_4.getD i_.toNat zInode_).2).1, (((a_4.getD i_.toNat zInode_).2).2).1, r.2, ((((a_4.getD i_.toNat zInode_).2).2).2).2)).getD i_.toNat zInode_).1, (((a_4.set i_.toNat ((a_4.getD i_.toNat zInode_).1, ((a_4.getD i_.toNat zInode_).2).1, (((a_4.getD i_.toNat zInode_).2).2).1, r.2, ((((a_4.getD i_.toNat zInode_).2).2).2).2)).getD i_.toNat zInode_).2).1, ((((a_4.set i_.toNat ((a_4.getD i_.toNat zInode_).1, ((a_4.getD i_.toNat zInode_).2).1, (((a_4.getD i_.toNat zInode_).2).2).1, r.2, ((((a_4.getD i_.toNat zInode_).2).2).2).2)).getD i_.toNat zInode_).2).2).1, (((((a_4.set i_.toNat ((a_4.getD i_.toNat zInode_).1, ((a_4.getD i_.toNat zInode_).2).1, (((a_4.getD i_.toNat zInode_).2).2).1, r.2, ((((a_4.getD i_.toNat zInode_).2).2).2).2)).getD i_.toNat zInode_).2).2).2).1, r2.2, ((((((a_4.set i_.toNat ((a_4.getD i_.toNat zInode_).1, ((a_4.getD i_.toNat zInode_).2).1, (((a_4.getD i_.toNat zInode_).2).2).1, r.2, ((((a_4.getD i_.toNat zInode_).2).2).2).2)).getD i_.toNat zInode_).2).2).2).2).2)))) (none)) (none)) (none)) (none)) (none)) (some (.inr (k_, a_)))
noncomputable def laws_markInodeS_l0  : (Int × Int × List Inode_) → Option (Int × List Inode_) :=
  loopL fun s => laws_markInodeS_l0.B s.1 s.2.1 s.2.2
noncomputable def laws_markInodeS (a : List Inode_) (k : Int) : Option (Int × List Inode_) :=
  (laws_markInodeS_l0 (k, 0, a)).bind fun o => some (o.1, o.2)
noncomputable def laws_markInodeS.G : Gam := mkG [(114, laws_markInt64S.FS), (183, laws_markEntryS.FS)]
theorem laws_markInodeS.Gok : GOk Go.Proofs.Try.prog laws_markInodeS.G := GOk.cons (laws_markInt64S.ok) (GOk.cons (laws_markEntryS.ok) (GOk.nil))
def laws_markInodeS.hn : Hint := ⟨[], [], [], 0⟩
noncomputable def laws_markInodeS_l0.wit  (b : Int × List Inode_) : Ex × St := (.ex 0, ⟨[(1, .cl .sh (.int .i64) b.1)], [(0, some ⟨.reg, .cl .deep (.sl tInode_) b.2⟩)]⟩)
theorem laws_markInodeS_l0.eq  (k_ : Int) (i_ : Int) (a_ : List Inode_) : ev tb laws_markInodeS.hn 48 2 laws_markInodeS.G (mkL []) (codeAt (bodyOf Go.Proofs.Try.f177) [1, 0, 1, 0, 0]) (.no) ⟨[(0, .seg 0 []), (1, .cl .sh (.int .i64) k_), (5, .cl .sh (.int .i64) i_)], [(0, some ⟨.reg, .cl .deep (.sl tInode_) a_⟩)]⟩ (kLp (([0, 1, 5], [0])) [(0, ([1], [0]))] ([], [])) =
    (laws_markInodeS_l0.B  k_ i_ a_).map (fun o => sel o (fun s => .inl ⟨[(0, .seg 0 []), (1, .cl .sh (.int .i64) s.1), (5, .cl .sh (.int .i64) s.2.1)], [(0, some ⟨.reg, .cl .deep (.sl tInode_) s.2.2⟩)]⟩) (fun b => .inr (laws_markInodeS_l0.wit  b))) := by
  simp only [laws_markInodeS_l0.B, cond_map, bind_map, sel_map, Option.map_some, Option.map_none]
  kernel_rfl
def laws_markInodeS_l0.sp : SP := ⟨[(0, .seg 0 []), (1, .cl .sh (.int .i64)), (5, .cl .sh (.int .i64))], [(0, .reg, .cl .deep (.sl tInode_))]⟩
noncomputable def laws_markInodeS_l0.out  : FOut (Int × List Inode_) := fun b _ k => k (.ex 0) ⟨[(1, .cl .sh (.int .i64) b.1)], [(0, some ⟨.reg, .cl .deep (.sl tInode_) b.2⟩)]⟩
theorem laws_markInodeS_l0.outEq  (o : Int × List Inode_) (R : Type) (k : Ex → St → Option R) : laws_markInodeS_l0.out  o R k = k (laws_markInodeS_l0.wit  o).1 (laws_markInodeS_l0.wit  o).2 := by
  rfl
noncomputable def laws_markInodeS_l0.F (x : laws_markInodeS_l0.sp.El) (R : Type) (k : Ex → St → Option R) : Option R := (laws_markInodeS_l0  (x.1.2.1, x.1.2.2.1, x.2.1)).bind fun t => laws_markInodeS_l0.out  t R k
noncomputable def laws_markInodeS_l0.fr : St → ∀ R : Type, (Ex → St → Option R) → Option R := mkFrag laws_markInodeS_l0.sp laws_markInodeS_l0.F
theorem laws_markInodeS_l0.ok : CodeOk Go.Proofs.Try.prog 48 2 (.loop (codeAt (bodyOf Go.Proofs.Try.f177) [1, 0, 1, 0, 0])) laws_markInodeS_l0.fr :=
  loop_sound (sp := laws_markInodeS_l0.sp) rfl (F := laws_markInodeS_l0.F) (ev_sound (hn := laws_markInodeS.hn) (G := laws_markInodeS.G) (L := mkL []) tbok laws_markInodeS.Gok hmix _ (.no) (hok_of (l := []) (by kernel_rfl) trivial)) 
    fun x => ⟨_, _, fun s => laws_markInodeS_l0.B  s.1 s.2.1 s.2.2, fun s => ⟨[(0, .seg 0 []), (1, .cl .sh (.int .i64) s.1), (5, .cl .sh (.int .i64) s.2.1)], [(0, some ⟨.reg, .cl .deep (.sl tInode_) s.2.2⟩)]⟩, laws_markInodeS_l0.wit , (x.1.2.1, x.1.2.2.1, x.2.1), rfl, fun s => laws_markInodeS_l0.eq  s.1 s.2.1 s.2.2, fun R k => congrArg (fun g => (laws_markInodeS_l0  (x.1.2.1, x.1.2.2.1, x.2.1)).bind g) (funext fun t => laws_markInodeS_l0.outEq  t R k)⟩
noncomputable def laws_markInodeS.L : Lam := mkL [(0, laws_markInodeS_l0.fr)]
def laws_markInodeS.out (t : Int × List Inode_) : Out := ⟨[.cl .sh (.int .i64) t.1], [.cl .deep (.sl tInode_) t.2]⟩
theorem laws_markInodeS.eq (a : List Inode_) (k : Int) : ev tb laws_markInodeS.hn 48 2 laws_markInodeS.G laws_markInodeS.L (bodyOf Go.Proofs.Try.f177) (.two (.no) (.two (.two (.no) (.one (.fr 0))) (.no))) (initSt [.cl .deep (.sl tInode_) a, .cl .sh (.int .i64) k]) (kfin tb laws_markInodeS.hn Go.Proofs.Try.f177 [.mu, .sh]) =
    (laws_markInodeS a k).map laws_markInodeS.out := by
  simp only [laws_markInodeS, cond_map, bind_map, sel_map, Option.map_some, Option.map_none]
  kernel_rfl
def laws_markInodeS.pts : List PT := [.cl .deep (.sl tInode_), .cl .sh (.int .i64)]
noncomputable def laws_markInodeS.FS : FS := mkFS [.mu, .sh] laws_markInodeS.pts (fun x => laws_markInodeS x.1 x.2.1) laws_markInodeS.out
theorem laws_markInodeS.ok : FsOk Go.Proofs.Try.prog 177 laws_markInodeS.FS :=
  fs_ok (fn := Go.Proofs.Try.f177) tbok (by kernel_rfl) (body_some (by kernel_rfl)) (by kernel_rfl) (pts := laws_markInodeS.pts) (ev_sound (nt := 48) (np := 2) (hn := laws_markInodeS.hn) (G := laws_markInodeS.G) (L := laws_markInodeS.L) tbok laws_markInodeS.Gok hmix _ (.two (.no) (.two (.two (.no) (.one (.fr 0))) (.no))) (hok_of (l := [(0, .loop (codeAt (bodyOf Go.Proofs.Try.f177) [1, 0, 1, 0, 0]))]) (by kernel_rfl) ⟨Lam.cons laws_markInodeS_l0.ok, trivial⟩)) rfl rfl
    fun x => laws_markInodeS.eq x.1 x.2.1
noncomputable def laws_markByteSS_l0.B (k_ : Int) (i_ : Int) (a_ : List (List Int)) : Option ((Int × Int × List (List Int)) ⊕ (Int × List (List Int))) :=
  cond (decide (i_ < (a_.length : Int))) (cond (inB i_ a_.length) ((laws_markByteS (a_.getD i_.toNat []) k_).bind fun r => some (.inl (r.1, w64 (i_ + 1), a_.set i_.toNat r.2))) (none)) (some (.inr (k_, a_)))
noncomputable def laws_markByteSS_l0  : (Int × Int × List (List Int)) → Option (Int × List (List Int)) :=
  loopL fun s => laws_markByteSS_l0.B s.1 s.2.1 s.2.2
noncomputable def laws_markByteSS (a : List (List Int)) (k : Int) : Option (Int × List (List Int)) :=
  (laws_markByteSS_l0 (k, 0, a)).bind fun o => some (o.1, o.2)
noncomputable def laws_markByteSS.G : Gam := mkG [(161, laws_markByteS.FS)]
theorem laws_markByteSS.Gok : GOk Go.Proofs.Try.prog laws_markByteSS.G := GOk.cons (laws_markByteS.ok) (GOk.nil)
def laws_markByteSS.hn : Hint := ⟨[], [], [], 0⟩
noncomputable def laws_markByteSS_l0.wit  (b : Int × List (List Int)) : Ex × St := (.ex 0, ⟨[(1, .cl .sh (.int .i64) b.1)], [(0, some ⟨.reg, .cl .deep (.sl (.sl (.int .u8))) b.2⟩)]⟩)
theorem laws_markByteSS_l0.eq  (k_ : Int) (i_ : Int) (a_ : List (List Int)) : ev tb laws_markByteSS.hn 19 2 laws_markByteSS.G (mkL []) (codeAt (bodyOf Go.Proofs.Try.f178) [1, 0, 1, 0, 0]) (.no) ⟨[(0, .seg 0 []), (1, .cl .sh (.int .i64) k_), (5, .cl .sh (.int .i64) i_)], [(0, some ⟨.reg, .cl .deep (.sl (.sl (.int .u8))) a_⟩)]⟩ (kLp (([0, 1, 5], [0])) [(0, ([1], [0]))] ([], [])) =
    (laws_markByteSS_l0.B  k_ i_ a_).map (fun o => sel o (fun s => .inl ⟨[(0, .seg 0 []), (1, .cl .sh (.int .i64) s.1), (5, .cl .sh (.int .i64) s.2.1)], [(0, some ⟨.reg, .cl .deep (.sl (.sl (.int .u8))) s.2.2⟩)]⟩) (fun b => .inr (laws_markByteSS_l0.wit  b))) := by
  simp only [laws_markByteSS_l0.B, cond_map, bind_map, sel_map, Option.map_some, Option.map_none]
  kernel_rfl
def laws_markByteSS_l0.sp : SP := ⟨[(0, .seg 0 []), (1, .cl .sh (.int .i64)), (5, .cl .sh (.int .i64))], [(0, .reg, .cl .deep (.sl (.sl (.int .u8))))]⟩
noncomputable def laws_markByteSS_l0.out  : FOut (Int × List (List Int)) := fun b _ k => k (.ex 0) ⟨[(1, .cl .sh (.int .i64) b.1)], [(0, some ⟨.reg, .cl .deep (.sl (.sl (.int .u8))) b.2⟩)]⟩
theorem laws_markByteSS_l0.outEq  (o : Int × List (List Int)) (R : Type) (k : Ex → St → Option R) : laws_markByteSS_l0.out  o R k = k (laws_markByteSS_l0.wit  o).1 (laws_markByteSS_l0.wit  o).2 := by
  rfl
noncomputable def laws_markByteSS_l0.F (x : laws_markByteSS_l0.sp.El) (R : Type) (k : Ex → St → Option R) : Option R := (laws_markByteSS_l0  (x.1.2.1, x.1.2.2.1, x.2.1)).bind fun t => laws_markByteSS_l0.out  t R k
noncomputable def laws_markByteSS_l0.fr : St → ∀ R : Type, (Ex → St → Option R) → Option R := mkFrag laws_markByteSS_l0.sp laws_markByteSS_l0.F
theorem laws_markByteSS_l0.ok : CodeOk Go.Proofs.Try.prog 19 2 (.loop (codeAt (bodyOf Go.Proofs.Try.f178) [1, 0, 1, 0, 0])) laws_markByteSS_l0.fr :=
  loop_sound (sp := laws_markByteSS_l0.sp) rfl (F := laws_markByteSS_l0.F) (ev_sound (hn := laws_markByteSS.hn) (G := laws_markByteSS.G) (L := mkL []) tbok laws_markByteSS.Gok hmix _ (.no) (hok_of (l := []) (by kernel_rfl) trivial)) 
    fun x => ⟨_, _, fun s => laws_markByteSS_l0.B  s.1 s.2.1 s.2.2, fun s => ⟨[(0, .seg 0 []), (1, .cl .sh (.int .i64) s.1), (5, .cl .sh (.int .i64) s.2.1)], [(0, some ⟨.reg, .cl .deep (.sl (.sl (.int .u8))) s.2.2⟩)]⟩, laws_markByteSS_l0.wit , (x.1.2.1, x.1.2.2.1, x.2.1), rfl, fun s => laws_markByteSS_l0.eq  s.1 s.2.1 s.2.2, fun R k => congrArg (fun g => (laws_markByteSS_l0  (x.1.2.1, x.1.2.2.1, x.2.1)).bind g) (funext fun t => laws_markByteSS_l0.outEq  t R k)⟩
noncomputable def laws_markByteSS.L : Lam := mkL [(0, laws_markByteSS_l0.fr)]
def laws_markByteSS.out (t : Int × List (List Int)) : Out := ⟨[.cl .sh (.int .i64) t.1], [.cl .deep (.sl (.sl (.int .u8))) t.2]⟩
theorem laws_markByteSS.eq (a : List (List Int)) (k : Int) : ev tb laws_markByteSS.hn 19 2 laws_markByteSS.G laws_markByteSS.L (bodyOf Go.Proofs.Try.f178) (.two (.no) (.two (.two (.no) (.one (.fr 0))) (.no))) (initSt [.cl .deep (.sl (.sl (.int .u8))) a, .cl .sh (.int .i64) k]) (kfin tb laws_markByteSS.hn Go.Proofs.Try.f178 [.mu, .sh]) =
    (laws_markByteSS a k).map laws_markByteSS.out := by
  simp only [laws_markByteSS, cond_map, bind_map, sel_map, Option.map_some, Option.map_none]
  kernel_rfl
def laws_markByteSS.pts : List PT := [.cl .deep (.sl (.sl (.int .u8))), .cl .sh (.int .i64)]
noncomputable def laws_markByteSS.FS : FS := mkFS [.mu, .sh] laws_markByteSS.pts (fun x => laws_markByteSS x.1 x.2.1) laws_markByteSS.out
theorem laws_markByteSS.ok : FsOk Go.Proofs.Try.prog 178 laws_markByteSS.FS :=
  fs_ok (fn := Go.Proofs.Try.f178) tbok (by kernel_rfl) (body_some (by kernel_rfl)) (by kernel_rfl) (pts := laws_markByteSS.pts) (ev_sound (nt := 19) (np := 2) (hn := laws_markByteSS.hn) (G := laws_markByteSS.G) (L := laws_markByteSS.L) tbok laws_markByteSS.Gok hmix _ (.two (.no) (.two (.two (.no) (.one (.fr 0))) (.no))) (hok_of (l := [(0, .loop (codeAt (bodyOf Go.Proofs.Try.f178) [1, 0, 1, 0, 0]))]) (by kernel_rfl) ⟨Lam.cons laws_markByteSS_l0.ok, trivial⟩)) rfl rfl
    fun x => laws_markByteSS.eq x.1 x.2.1
noncomputable def laws_markFs (a : Fs_) (k : Int) : Option (Int × Fs_) :=
  (laws_markInodeS a.1 k).bind fun r => (laws_markByteSS a.2.1 r.1).bind fun r2 => some (r2.1, (r.2, r2.2, a.2.2))
noncomputable def laws_markFs.G : Gam := mkG [(177, laws_markInodeS.FS), (178, laws_markByteSS.FS)]
theorem laws_markFs.Gok : GOk Go.Proofs.Try.prog laws_markFs.G := GOk.cons (laws_markInodeS.ok) (GOk.cons (laws_markByteSS.ok) (GOk.nil))
def laws_markFs.hn : Hint := ⟨[2], [], [], 0⟩
noncomputable def laws_markFs.L : Lam := mkL []
def laws_markFs.out (t : Int × Fs_) : Out := ⟨[.cl .sh (.int .i64) t.1], [.cl .deep tFs_ t.2]⟩
theorem laws_markFs.eq (a : Fs_) (k : Int) : ev tb laws_markFs.hn 14 2 laws_markFs.G laws_markFs.L (bodyOf Go.Proofs.Try.f163) (.no) (initSt [.cl .deep tFs_ a, .cl .sh (.int .i64) k]) (kfin tb laws_markFs.hn Go.Proofs.Try.f163 [.mu, .sh]) =
    (laws_markFs a k).map laws_markFs.out := by
  simp only [laws_markFs, cond_map, bind_map, sel_map, Option.map_some, Option.map_none]
  kernel_rfl
def laws_markFs.pts : List PT := [.cl .deep tFs_, .cl .sh (.int .i64)]
noncomputable def laws_markFs.FS : FS := mkFS [.mu, .sh] laws_markFs.pts (fun x => laws_markFs x.1 x.2.1) laws_markFs.out
theorem laws_markFs.ok : FsOk Go.Proofs.Try.prog 163 laws_markFs.FS :=
  fs_ok (fn := Go.Proofs.Try.f163) tbok (by kernel_rfl) (body_some (by kernel_rfl)) (by kernel_rfl) (pts := laws_markFs.pts) (ev_sound (nt := 14) (np := 2) (hn := laws_markFs.hn) (G := laws_markFs.G) (L := laws_markFs.L) tbok laws_markFs.Gok hmix _ (.no) (hok_of (l := []) (by kernel_rfl) trivial)) rfl rfl
    fun x => laws_markFs.eq x.1 x.2.1
noncomputable def laws_markCallResult (a : CallResult_) (k : Int) : Option (Int × CallResult_) :=
  (laws_markByteS a.2.2.2.1 k).bind fun r => (laws_markStringS a.2.2.2.2.1 r.1).bind fun r2 => (laws_markFs (a.2.2.2.2.2.1.1, a.2.2.2.2.2.1.2.1, a.2.2.2.2.2.1.2.2) r2.1).bind fun r3 => some (r3.1, (a.1, a.2.1, a.2.2.1, r.2, r2.2, (r3.2.1, r3.2.2.1, a.2.2.2.2.2.1.2.2), a.2.2.2.2.2.2))
noncomputable def laws_markCallResult.G : Gam := mkG [(161, laws_markByteS.FS), (162, laws_markStringS.FS), (163, laws_markFs.FS)]
theorem laws_markCallResult.Gok : GOk Go.Proofs.Try.prog laws_markCallResult.G := GOk.cons (laws_markByteS.ok) (GOk.cons (laws_markStringS.ok) (GOk.cons (laws_markFs.ok) (GOk.nil)))
def laws_markCallResult.hn : Hint := ⟨[2], [], [], 0⟩
noncomputable def laws_markCallResult.L : Lam := mkL []
def laws_markCallResult.out (t : Int × CallResult_) : Out := ⟨[.cl .sh (.int .i64) t.1], [.cl .deep tCallResult_ t.2]⟩
theorem laws_markCallResult.eq (a : CallResult_) (k : Int) : ev tb laws_markCallResult.hn 18 2 laws_markCallResult.G laws_markCallResult.L (bodyOf Go.Proofs.Try.f129) (.no) (initSt [.cl .deep tCallResult_ a, .cl .sh (.int .i64) k]) (kfin tb laws_markCallResult.hn Go.Proofs.Try.f129 [.mu, .sh]) =
    (laws_markCallResult a k).map laws_markCallResult.out := by
  simp only [laws_markCallResult, cond_map, bind_map, sel_map, Option.map_some, Option.map_none]
  kernel_rfl
def laws_markCallResult.pts : List PT := [.cl .deep tCallResult_, .cl .sh (.int .i64)]
noncomputable def laws_markCallResult.FS : FS := mkFS [.mu, .sh] laws_markCallResult.pts (fun x => laws_markCallResult x.1 x.2.1) laws_markCallResult.out
theorem laws_markCallResult.ok : FsOk Go.Proofs.Try.prog 129 laws_markCallResult.FS :=
  fs_ok (fn := Go.Proofs.Try.f129) tbok (by kernel_rfl) (body_some (by kernel_rfl)) (by kernel_rfl) (pts := laws_markCallResult.pts) (ev_sound (nt := 18) (np := 2) (hn := laws_markCallResult.hn) (G := laws_markCallResult.G) (L := laws_markCallResult.L) tbok laws_markCallResult.Gok hmix _ (.no) (hok_of (l := []) (by kernel_rfl) trivial)) rfl rfl
    fun x => laws_markCallResult.eq x.1 x.2.1
noncomputable def laws_markInt64SS_l0.B (k_ : Int) (i_ : Int) (a_ : List (List Int)) : Option ((Int × Int × List (List Int)) ⊕ (Int × List (List Int))) :=
  cond (decide (i_ < (a_.length : Int))) (cond (inB i_ a_.length) ((laws_markInt64S (a_.getD i_.toNat []) k_).bind fun r => some (.inl (r.1, w64 (i_ + 1), a_.set i_.toNat r.2))) (none)) (some (.inr (k_, a_)))
noncomputable def laws_markInt64SS_l0  : (Int × Int × List (List Int)) → Option (Int × List (List Int)) :=
  loopL fun s => laws_markInt64SS_l0.B s.1 s.2.1 s.2.2
noncomputable def laws_markInt64SS (a : List (List Int)) (k : Int) : Option (Int × List (List Int)) :=
  (laws_markInt64SS_l0 (k, 0, a)).bind fun o => some (o.1, o.2)
noncomputable def laws_markInt64SS.G : Gam := mkG [(114, laws_markInt64S.FS)]
theorem laws_markInt64SS.Gok : GOk Go.Proofs.Try.prog laws_markInt64SS.G := GOk.cons (laws_markInt64S.ok) (GOk.nil)
def laws_markInt64SS.hn : Hint := ⟨[], [], [], 0⟩
noncomputable def laws_markInt64SS_l0.wit  (b : Int × List (List Int)) : Ex × St := (.ex 0, ⟨[(1, .cl .sh (.int .i64) b.1)], [(0, some ⟨.reg, .cl .deep (.sl (.sl (.int .i64))) b.2⟩)]⟩)
theorem laws_markInt64SS_l0.eq  (k_ : Int) (i_ : Int) (a_ : List (List Int)) : ev tb laws_markInt64SS.hn 19 2 laws_markInt64SS.G (mkL []) (codeAt (bodyOf Go.Proofs.Try.f113) [1, 0, 1, 0, 0]) (.no) ⟨[(0, .seg 0 []), (1, .cl .sh (.int .i64) k_), (5, .cl .sh (.int .i64) i_)], [(0, some ⟨.reg, .cl .deep (.sl (.sl (.int .i64))) a_⟩)]⟩ (kLp (([0, 1, 5], [0])) [(0, ([1], [0]))] ([], [])) =
    (laws_markInt64SS_l0.B  k_ i_ a_).map (fun o => sel o (fun s => .inl ⟨[(0, .seg 0 []), (1, .cl .sh (.int .i64) s.1), (5, .cl .sh (.int .i64) s.2.1)], [(0, some ⟨.reg, .cl .deep (.sl (.sl (.int .i64))) s.2.2⟩)]⟩) (fun b => .inr (laws_markInt64SS_l0.wit  b))) := by
  simp only [laws_markInt64SS_l0.B, cond_map, bind_map, sel_map, Option.map_some, Option.map_none]
  kernel_rfl
def laws_markInt64SS_l0.sp : SP := ⟨[(0, .seg 0 []), (1, .cl .sh (.int .i64)), (5, .cl .sh (.int .i64))], [(0, .reg, .cl .deep (.sl (.sl (.int .i64))))]⟩
noncomputable def laws_markInt64SS_l0.out  : FOut (Int × List (List Int)) := fun b _ k => k (.ex 0) ⟨[(1, .cl .sh (.int .i64) b.1)], [(0, some ⟨.reg, .cl .deep (.sl (.sl (.int .i64))) b.2⟩)]⟩
theorem laws_markInt64SS_l0.outEq  (o : Int × List (List Int)) (R : Type) (k : Ex → St → Option R) : laws_markInt64SS_l0.out  o R k = k (laws_markInt64SS_l0.wit  o).1 (laws_markInt64SS_l0.wit  o).2 := by
  rfl
noncomputable def laws_markInt64SS_l0.F (x : laws_markInt64SS_l0.sp.El) (R : Type) (k : Ex → St → Option R) : Option R := (laws_markInt64SS_l0  (x.1.2.1, x.1.2.2.1, x.2.1)).bind fun t => laws_markInt64SS_l0.out  t R k
noncomputable def laws_markInt64SS_l0.fr : St → ∀ R : Type, (Ex → St → Option R) → Option R := mkFrag laws_markInt64SS_l0.sp laws_markInt64SS_l0.F
theorem laws_markInt64SS_l0.ok : CodeOk Go.Proofs.Try.prog 19 2 (.loop (codeAt (bodyOf Go.Proofs.Try.f113) [1, 0, 1, 0, 0])) laws_markInt64SS_l0.fr :=
  loop_sound (sp := laws_markInt64SS_l0.sp) rfl (F := laws_markInt64SS_l0.F) (ev_sound (hn := laws_markInt64SS.hn) (G := laws_markInt64SS.G) (L := mkL []) tbok laws_markInt64SS.Gok hmix _ (.no) (hok_of (l := []) (by kernel_rfl) trivial)) 
    fun x => ⟨_, _, fun s => laws_markInt64SS_l0.B  s.1 s.2.1 s.2.2, fun s => ⟨[(0, .seg 0 []), (1, .cl .sh (.int .i64) s.1), (5, .cl .sh (.int .i64) s.2.1)], [(0, some ⟨.reg, .cl .deep (.sl (.sl (.int .i64))) s.2.2⟩)]⟩, laws_markInt64SS_l0.wit , (x.1.2.1, x.1.2.2.1, x.2.1), rfl, fun s => laws_markInt64SS_l0.eq  s.1 s.2.1 s.2.2, fun R k => congrArg (fun g => (laws_markInt64SS_l0  (x.1.2.1, x.1.2.2.1, x.2.1)).bind g) (funext fun t => laws_markInt64SS_l0.outEq  t R k)⟩
noncomputable def laws_markInt64SS.L : Lam := mkL [(0, laws_markInt64SS_l0.fr)]
def laws_markInt64SS.out (t : Int × List (List Int)) : Out := ⟨[.cl .sh (.int .i64) t.1], [.cl .deep (.sl (.sl (.int .i64))) t.2]⟩
theorem laws_markInt64SS.eq (a : List (List Int)) (k : Int) : ev tb laws_markInt64SS.hn 19 2 laws_markInt64SS.G laws_markInt64SS.L (bodyOf Go.Proofs.Try.f113) (.two (.no) (.two (.two (.no) (.one (.fr 0))) (.no))) (initSt [.cl .deep (.sl (.sl (.int .i64))) a, .cl .sh (.int .i64) k]) (kfin tb laws_markInt64SS.hn Go.Proofs.Try.f113 [.mu, .sh]) =
    (laws_markInt64SS a k).map laws_markInt64SS.out := by
  simp only [laws_markInt64SS, cond_map, bind_map, sel_map, Option.map_some, Option.map_none]
  kernel_rfl
def laws_markInt64SS.pts : List PT := [.cl .deep (.sl (.sl (.int .i64))), .cl .sh (.int .i64)]
noncomputable def laws_markInt64SS.FS : FS := mkFS [.mu, .sh] laws_markInt64SS.pts (fun x => laws_markInt64SS x.1 x.2.1) laws_markInt64SS.out
theorem laws_markInt64SS.ok : FsOk Go.Proofs.Try.prog 113 laws_markInt64SS.FS :=
  fs_ok (fn := Go.Proofs.Try.f113) tbok (by kernel_rfl) (body_some (by kernel_rfl)) (by kernel_rfl) (pts := laws_markInt64SS.pts) (ev_sound (nt := 19) (np := 2) (hn := laws_markInt64SS.hn) (G := laws_markInt64SS.G) (L := laws_markInt64SS.L) tbok laws_markInt64SS.Gok hmix _ (.two (.no) (.two (.two (.no) (.one (.fr 0))) (.no))) (hok_of (l := [(0, .loop (codeAt (bodyOf Go.Proofs.Try.f113) [1, 0, 1, 0, 0]))]) (by kernel_rfl) ⟨Lam.cons laws_markInt64SS_l0.ok, trivial⟩)) rfl rfl
    fun x => laws_markInt64SS.eq x.1 x.2.1
noncomputable def laws_markPutS_l0.B (k_ : Int) (i_ : Int) (a_ : List Put_) : Option ((Int × Int × List Put_) ⊕ (Int × List Put_)) :=
  cond (decide (i_ < (a_.length : Int))) (cond (inB i_ a_.length) (cond (inB i_ ((a_.set i_.toNat (k_, (a_.getD i_.toNat zPut_).2)).length)) ((laws_markInt64S ((((a_.set i_.toNat (k_, (a_.getD i_.toNat zPut_).2)).getD i_.toNat zPut_).2).1) (w64 (k_ + 1))).bind fun r => some (.inl (r.1, w64 (i_ + 1), (a_.set i_.toNat (k_, (a_.getD i_.toNat zPut_).2)).set i_.toNat (((a_.set i_.toNat (k_, (a_.getD i_.toNat zPut_).2)).getD i_.toNat zPut_).1, r.2, (((a_.set i_.toNat (k_, (a_.getD i_.toNat zPut_).2)).getD i_.toNat zPut_).2).2)))) (none)) (none)) (some (.inr (k_, a_)))
noncomputable def laws_markPutS_l0  : (Int × Int × List Put_) → Option (Int × List Put_) :=
  loopL fun s => laws_markPutS_l0.B s.1 s.2.1 s.2.2
noncomputable def laws_markPutS (a : List Put_) (k : Int) : Option (Int × List Put_) :=
  (laws_markPutS_l0 (k, 0, a)).bind fun o => some (o.1, o.2)
noncomputable def laws_markPutS.G : Gam := mkG [(114, laws_markInt64S.FS)]
theorem laws_markPutS.Gok : GOk Go.Proofs.Try.prog laws_markPutS.G := GOk.cons (laws_markInt64S.ok) (GOk.nil)
def laws_markPutS.hn : Hint := ⟨[], [], [], 0⟩
noncomputable def laws_markPutS_l0.wit  (b : Int × List Put_) : Ex × St := (.ex 0, ⟨[(1, .cl .sh (.int .i64) b.1)], [(0, some ⟨.reg, .cl .deep (.sl tPut_) b.2⟩)]⟩)
theorem laws_markPutS_l0.eq  (k_ : Int) (i_ : Int) (a_ : List Put_) : ev tb laws_markPutS.hn 27 2 laws_markPutS.G (mkL []) (codeAt (bodyOf Go.Proofs.Try.f47) [1, 0, 1, 0, 0]) (.no) ⟨[(0, .seg 0 []), (1, .cl .sh (.int .i64) k_), (5, .cl .sh (.int .i64) i_)], [(0, some ⟨.reg, .cl .deep (.sl tPut_) a_⟩)]⟩ (kLp (([0, 1, 5], [0])) [(0, ([1], [0]))] ([], [])) =
    (laws_markPutS_l0.B  k_ i_ a_).map (fun o => sel o (fun s => .inl ⟨[(0, .seg 0 []), (1, .cl .sh (.int .i64) s.1), (5, .cl .sh (.int .i64) s.2.1)], [(0, some ⟨.reg, .cl .deep (.sl tPut_) s.2.2⟩)]⟩) (fun b => .inr (laws_markPutS_l0.wit  b))) := by
  simp only [laws_markPutS_l0.B, cond_map, bind_map, sel_map, Option.map_some, Option.map_none]
  kernel_rfl
def laws_markPutS_l0.sp : SP := ⟨[(0, .seg 0 []), (1, .cl .sh (.int .i64)), (5, .cl .sh (.int .i64))], [(0, .reg, .cl .deep (.sl tPut_))]⟩
noncomputable def laws_markPutS_l0.out  : FOut (Int × List Put_) := fun b _ k => k (.ex 0) ⟨[(1, .cl .sh (.int .i64) b.1)], [(0, some ⟨.reg, .cl .deep (.sl tPut_) b.2⟩)]⟩
theorem laws_markPutS_l0.outEq  (o : Int × List Put_) (R : Type) (k : Ex → St → Option R) : laws_markPutS_l0.out  o R k = k (laws_markPutS_l0.wit  o).1 (laws_markPutS_l0.wit  o).2 := by
  rfl
noncomputable def laws_markPutS_l0.F (x : laws_markPutS_l0.sp.El) (R : Type) (k : Ex → St → Option R) : Option R := (laws_markPutS_l0  (x.1.2.1, x.1.2.2.1, x.2.1)).bind fun t => laws_markPutS_l0.out  t R k
noncomputable def laws_markPutS_l0.fr : St → ∀ R : Type, (Ex → St → Option R) → Option R := mkFrag laws_markPutS_l0.sp laws_markPutS_l0.F
theorem laws_markPutS_l0.ok : CodeOk Go.Proofs.Try.prog 27 2 (.loop (codeAt (bodyOf Go.Proofs.Try.f47) [1, 0, 1, 0, 0])) laws_markPutS_l0.fr :=
  loop_sound (sp := laws_markPutS_l0.sp) rfl (F := laws_markPutS_l0.F) (ev_sound (hn := laws_markPutS.hn) (G := laws_markPutS.G) (L := mkL []) tbok laws_markPutS.Gok hmix _ (.no) (hok_of (l := []) (by kernel_rfl) trivial)) 
    fun x => ⟨_, _, fun s => laws_markPutS_l0.B  s.1 s.2.1 s.2.2, fun s => ⟨[(0, .seg 0 []), (1, .cl .sh (.int .i64) s.1), (5, .cl .sh (.int .i64) s.2.1)], [(0, some ⟨.reg, .cl .deep (.sl tPut_) s.2.2⟩)]⟩, laws_markPutS_l0.wit , (x.1.2.1, x.1.2.2.1, x.2.1), rfl, fun s => laws_markPutS_l0.eq  s.1 s.2.1 s.2.2, fun R k => congrArg (fun g => (laws_markPutS_l0  (x.1.2.1, x.1.2.2.1, x.2.1)).bind g) (funext fun t => laws_markPutS_l0.outEq  t R k)⟩
noncomputable def laws_markPutS.L : Lam := mkL [(0, laws_markPutS_l0.fr)]
def laws_markPutS.out (t : Int × List Put_) : Out := ⟨[.cl .sh (.int .i64) t.1], [.cl .deep (.sl tPut_) t.2]⟩
theorem laws_markPutS.eq (a : List Put_) (k : Int) : ev tb laws_markPutS.hn 27 2 laws_markPutS.G laws_markPutS.L (bodyOf Go.Proofs.Try.f47) (.two (.no) (.two (.two (.no) (.one (.fr 0))) (.no))) (initSt [.cl .deep (.sl tPut_) a, .cl .sh (.int .i64) k]) (kfin tb laws_markPutS.hn Go.Proofs.Try.f47 [.mu, .sh]) =
    (laws_markPutS a k).map laws_markPutS.out := by
  simp only [laws_markPutS, cond_map, bind_map, sel_map, Option.map_some, Option.map_none]
  kernel_rfl
def laws_markPutS.pts : List PT := [.cl .deep (.sl tPut_), .cl .sh (.int .i64)]
noncomputable def laws_markPutS.FS : FS := mkFS [.mu, .sh] laws_markPutS.pts (fun x => laws_markPutS x.1 x.2.1) laws_markPutS.out
theorem laws_markPutS.ok : FsOk Go.Proofs.Try.prog 47 laws_markPutS.FS :=
  fs_ok (fn := Go.Proofs.Try.f47) tbok (by kernel_rfl) (body_some (by kernel_rfl)) (by kernel_rfl) (pts := laws_markPutS.pts) (ev_sound (nt := 27) (np := 2) (hn := laws_markPutS.hn) (G := laws_markPutS.G) (L := laws_markPutS.L) tbok laws_markPutS.Gok hmix _ (.two (.no) (.two (.two (.no) (.one (.fr 0))) (.no))) (hok_of (l := [(0, .loop (codeAt (bodyOf Go.Proofs.Try.f47) [1, 0, 1, 0, 0]))]) (by kernel_rfl) ⟨Lam.cons laws_markPutS_l0.ok, trivial⟩)) rfl rfl
    fun x => laws_markPutS.eq x.1 x.2.1
noncomputable def laws_markDisk (a : Disk_) (k : Int) : Option (Int × Disk_) :=
  (laws_markInt64SS a.1 k).bind fun r => (laws_markPutS a.2.1 r.1).bind fun r2 => some (r2.1, (r.2, r2.2, a.2.2))
noncomputable def laws_markDisk.G : Gam := mkG [(113, laws_markInt64SS.FS), (47, laws_markPutS.FS)]
theorem laws_markDisk.Gok : GOk Go.Proofs.Try.prog laws_markDisk.G := GOk.cons (laws_markInt64SS.ok) (GOk.cons (laws_markPutS.ok) (GOk.nil))
def laws_markDisk.hn : Hint := ⟨[2], [], [], 0⟩
noncomputable def laws_markDisk.L : Lam := mkL []
def laws_markDisk.out (t : Int × Disk_) : Out := ⟨[.cl .sh (.int .i64) t.1], [.cl .deep tDisk_ t.2]⟩
theorem laws_markDisk.eq (a : Disk_) (k : Int) : ev tb laws_markDisk.hn 14 2 laws_markDisk.G laws_markDisk.L (bodyOf Go.Proofs.Try.f46) (.no) (initSt [.cl .deep tDisk_ a, .cl .sh (.int .i64) k]) (kfin tb laws_markDisk.hn Go.Proofs.Try.f46 [.mu, .sh]) =
    (laws_markDisk a k).map laws_markDisk.out := by
  simp only [laws_markDisk, cond_map, bind_map, sel_map, Option.map_some, Option.map_none]
  kernel_rfl
def laws_markDisk.pts : List PT := [.cl .deep tDisk_, .cl .sh (.int .i64)]
noncomputable def laws_markDisk.FS : FS := mkFS [.mu, .sh] laws_markDisk.pts (fun x => laws_markDisk x.1 x.2.1) laws_markDisk.out
theorem laws_markDisk.ok : FsOk Go.Proofs.Try.prog 46 laws_markDisk.FS :=
  fs_ok (fn := Go.Proofs.Try.f46) tbok (by kernel_rfl) (body_some (by kernel_rfl)) (by kernel_rfl) (pts := laws_markDisk.pts) (ev_sound (nt := 14) (np := 2) (hn := laws_markDisk.hn) (G := laws_markDisk.G) (L := laws_markDisk.L) tbok laws_markDisk.Gok hmix _ (.no) (hok_of (l := []) (by kernel_rfl) trivial)) rfl rfl
    fun x => laws_markDisk.eq x.1 x.2.1
noncomputable def laws_markWorld (a : World_) (k : Int) : Option (Int × World_) :=
  (laws_markDisk (a.1.1, a.1.2.1, a.1.2.2) k).bind fun r => (laws_markFs (a.2.1.1, a.2.1.2.1, a.2.1.2.2) r.1).bind fun r2 => (laws_markFs (a.2.2.1.1, a.2.2.1.2.1, a.2.2.1.2.2) r2.1).bind fun r3 => some (r3.1, ((r.2.1, r.2.2.1, a.1.2.2), (r2.2.1, r2.2.2.1, a.2.1.2.2), (r3.2.1, r3.2.2.1, a.2.2.1.2.2), a.2.2.2))
noncomputable def laws_markWorld.G : Gam := mkG [(46, laws_markDisk.FS), (163, laws_markFs.FS)]
theorem laws_markWorld.Gok : GOk Go.Proofs.Try.prog laws_markWorld.G := GOk.cons (laws_markDisk.ok) (GOk.cons (laws_markFs.ok) (GOk.nil))
def laws_markWorld.hn : Hint := ⟨[2], [], [], 0⟩
noncomputable def laws_markWorld.L : Lam := mkL []
def laws_markWorld.out (t : Int × World_) : Out := ⟨[.cl .sh (.int .i64) t.1], [.cl .deep tWorld_ t.2]⟩
theorem laws_markWorld.eq (a : World_) (k : Int) : ev tb laws_markWorld.hn 18 2 laws_markWorld.G laws_markWorld.L (bodyOf Go.Proofs.Try.f130) (.no) (initSt [.cl .deep tWorld_ a, .cl .sh (.int .i64) k]) (kfin tb laws_markWorld.hn Go.Proofs.Try.f130 [.mu, .sh]) =
    (laws_markWorld a k).map laws_markWorld.out := by
  simp only [laws_markWorld, cond_map, bind_map, sel_map, Option.map_some, Option.map_none]
  kernel_rfl
def laws_markWorld.pts : List PT := [.cl .deep tWorld_, .cl .sh (.int .i64)]
noncomputable def laws_markWorld.FS : FS := mkFS [.mu, .sh] laws_markWorld.pts (fun x => laws_markWorld x.1 x.2.1) laws_markWorld.out
theorem laws_markWorld.ok : FsOk Go.Proofs.Try.prog 130 laws_markWorld.FS :=
  fs_ok (fn := Go.Proofs.Try.f130) tbok (by kernel_rfl) (body_some (by kernel_rfl)) (by kernel_rfl) (pts := laws_markWorld.pts) (ev_sound (nt := 18) (np := 2) (hn := laws_markWorld.hn) (G := laws_markWorld.G) (L := laws_markWorld.L) tbok laws_markWorld.Gok hmix _ (.no) (hok_of (l := []) (by kernel_rfl) trivial)) rfl rfl
    fun x => laws_markWorld.eq x.1 x.2.1
noncomputable def laws_markWorldResult (a : WorldResult_) (k : Int) : Option (Int × WorldResult_) :=
  (laws_markCallResult (a.2.1.1, a.2.1.2.1, a.2.1.2.2.1, a.2.1.2.2.2.1, a.2.1.2.2.2.2.1, (a.2.1.2.2.2.2.2.1.1, a.2.1.2.2.2.2.2.1.2.1, a.2.1.2.2.2.2.2.1.2.2), a.2.1.2.2.2.2.2.2) k).bind fun r => (laws_markWorld ((a.2.2.1.1.1, a.2.2.1.1.2.1, a.2.2.1.1.2.2), (a.2.2.1.2.1.1, a.2.2.1.2.1.2.1, a.2.2.1.2.1.2.2), (a.2.2.1.2.2.1.1, a.2.2.1.2.2.1.2.1, a.2.2.1.2.2.1.2.2), a.2.2.1.2.2.2) r.1).bind fun r2 => some (r2.1, (a.1, (a.2.1.1, a.2.1.2.1, a.2.1.2.2.1, r.2.2.2.2.1, r.2.2.2.2.2.1, (r.2.2.2.2.2.2.1.1, r.2.2.2.2.2.2.1.2.1, a.2.1.2.2.2.2.2.1.2.2), a.2.1.2.2.2.2.2.2), ((r2.2.1.1, r2.2.1.2.1, a.2.2.1.1.2.2), (r2.2.2.1.1, r2.2.2.1.2.1, a.2.2.1.2.1.2.2), (r2.2.2.2.1.1, r2.2.2.2.1.2.1, a.2.2.1.2.2.1.2.2), a.2.2.1.2.2.2), a.2.2.2))
noncomputable def laws_markWorldResult.G : Gam := mkG [(129, laws_markCallResult.FS), (130, laws_markWorld.FS)]
theorem laws_markWorldResult.Gok : GOk Go.Proofs.Try.prog laws_markWorldResult.G := GOk.cons (laws_markCallResult.ok) (GOk.cons (laws_markWorld.ok) (GOk.nil))
def laws_markWorldResult.hn : Hint := ⟨[2], [], [], 0⟩
noncomputable def laws_markWorldResult.L : Lam := mkL []
def laws_markWorldResult.out (t : Int × WorldResult_) : Out := ⟨[.cl .sh (.int .i64) t.1], [.cl .deep tWorldResult_ t.2]⟩
theorem laws_markWorldResult.eq (a : WorldResult_) (k : Int) : ev tb laws_markWorldResult.hn 14 2 laws_markWorldResult.G laws_markWorldResult.L (bodyOf Go.Proofs.Try.f66) (.no) (initSt [.cl .deep tWorldResult_ a, .cl .sh (.int .i64) k]) (kfin tb laws_markWorldResult.hn Go.Proofs.Try.f66 [.mu, .sh]) =
    (laws_markWorldResult a k).map laws_markWorldResult.out := by
  simp only [laws_markWorldResult, cond_map, bind_map, sel_map, Option.map_some, Option.map_none]
  kernel_rfl
def laws_markWorldResult.pts : List PT := [.cl .deep tWorldResult_, .cl .sh (.int .i64)]
noncomputable def laws_markWorldResult.FS : FS := mkFS [.mu, .sh] laws_markWorldResult.pts (fun x => laws_markWorldResult x.1 x.2.1) laws_markWorldResult.out
theorem laws_markWorldResult.ok : FsOk Go.Proofs.Try.prog 66 laws_markWorldResult.FS :=
  fs_ok (fn := Go.Proofs.Try.f66) tbok (by kernel_rfl) (body_some (by kernel_rfl)) (by kernel_rfl) (pts := laws_markWorldResult.pts) (ev_sound (nt := 14) (np := 2) (hn := laws_markWorldResult.hn) (G := laws_markWorldResult.G) (L := laws_markWorldResult.L) tbok laws_markWorldResult.Gok hmix _ (.no) (hok_of (l := []) (by kernel_rfl) trivial)) rfl rfl
    fun x => laws_markWorldResult.eq x.1 x.2.1
noncomputable def laws_heldByteS_l0.B (a : List Int) (k_ : Int) (i_ : Int) : Option ((Int × Int) ⊕ (((Int) ⊕ (Int)))) :=
  cond (decide (i_ < (a.length : Int))) (cond (inB i_ a.length) (cond ((a.getD i_.toNat 0) != (IntKind.u8.wrap (k_))) (some (.inr (.inl (-1)))) (some (.inl (w64 (k_ + 1), w64 (i_ + 1))))) (none)) (some (.inr (.inr k_)))
noncomputable def laws_heldByteS_l0 (a : List Int) : (Int × Int) → Option (((Int) ⊕ (Int))) :=
  loopL fun s => laws_heldByteS_l0.B a s.1 s.2
noncomputable def laws_heldByteS (a : List Int) (k : Int) : Option (Int) :=
  (laws_heldByteS_l0 a (k, 0)).bind fun o => sel o (fun b => some b) (fun c => some c)
noncomputable def laws_heldByteS.G : Gam := mkG []
theorem laws_heldByteS.Gok : GOk Go.Proofs.Try.prog laws_heldByteS.G := GOk.nil
def laws_heldByteS.hn : Hint := ⟨[], [], [], 0⟩
noncomputable def laws_heldByteS_l0.wit (a : List Int) (o : ((Int) ⊕ (Int))) : Ex × St := sel o (fun b => (.rt, ⟨[(4, .cl .sh (.int .i64) b)], []⟩)) (fun c => (.ex 0, ⟨[(1, .cl .sh (.int .i64) c)], []⟩))
theorem laws_heldByteS_l0.eq (a : List Int) (k_ : Int) (i_ : Int) : ev tb laws_heldByteS.hn 22 2 laws_heldByteS.G (mkL []) (codeAt (bodyOf Go.Proofs.Try.f164) [1, 0, 1, 0, 0]) (.no) ⟨[(0, .cl .sh (.sl (.int .u8)) a), (1, .cl .sh (.int .i64) k_), (5, .cl .sh (.int .i64) i_)], []⟩ (kLp (([0, 1, 5], [])) [(0, ([1], []))] ([4], [])) =
    (laws_heldByteS_l0.B a k_ i_).map (fun o => sel o (fun s => .inl ⟨[(0, .cl .sh (.sl (.int .u8)) a), (1, .cl .sh (.int .i64) s.1), (5, .cl .sh (.int .i64) s.2)], []⟩) (fun o => .inr (laws_heldByteS_l0.wit a o))) := by
  simp only [laws_heldByteS_l0.B, cond_map, bind_map, sel_map, Option.map_some, Option.map_none]
  kernel_rfl
def laws_heldByteS_l0.sp : SP := ⟨[(0, .cl .sh (.sl (.int .u8))), (1, .cl .sh (.int .i64)), (5, .cl .sh (.int .i64))], []⟩
noncomputable def laws_heldByteS_l0.out (a : List Int) : FOut (((Int) ⊕ (Int))) := fun o _ k => sel o (fun b => k (.rt) ⟨[(4, .cl .sh (.int .i64) b)], []⟩) (fun c => k (.ex 0) ⟨[(1, .cl .sh (.int .i64) c)], []⟩)
theorem laws_heldByteS_l0.outEq (a : List Int) (o : ((Int) ⊕ (Int))) (R : Type) (k : Ex → St → Option R) : laws_heldByteS_l0.out a o R k = k (laws_heldByteS_l0.wit a o).1 (laws_heldByteS_l0.wit a o).2 := by
  rcases o with o | o <;> rfl
noncomputable def laws_heldByteS_l0.F (x : laws_heldByteS_l0.sp.El) (R : Type) (k : Ex → St → Option R) : Option R := (laws_heldByteS_l0 x.1.1 (x.1.2.1, x.1.2.2.1)).bind fun t => laws_heldByteS_l0.out x.1.1 t R k
noncomputable def laws_heldByteS_l0.fr : St → ∀ R : Type, (Ex → St → Option R) → Option R := mkFrag laws_heldByteS_l0.sp laws_heldByteS_l0.F
theorem laws_heldByteS_l0.ok : CodeOk Go.Proofs.Try.prog 22 2 (.loop (codeAt (bodyOf Go.Proofs.Try.f164) [1, 0, 1, 0, 0])) laws_heldByteS_l0.fr :=
  loop_sound (sp := laws_heldByteS_l0.sp) rfl (F := laws_heldByteS_l0.F) (ev_sound (hn := laws_heldByteS.hn) (G := laws_heldByteS.G) (L := mkL []) tbok laws_heldByteS.Gok hmix _ (.no) (hok_of (l := []) (by kernel_rfl) trivial)) 
    fun x => ⟨_, _, fun s => laws_heldByteS_l0.B x.1.1 s.1 s.2, fun s => ⟨[(0, .cl .sh (.sl (.int .u8)) x.1.1), (1, .cl .sh (.int .i64) s.1), (5, .cl .sh (.int .i64) s.2)], []⟩, laws_heldByteS_l0.wit x.1.1, (x.1.2.1, x.1.2.2.1), rfl, fun s => laws_heldByteS_l0.eq x.1.1 s.1 s.2, fun R k => congrArg (fun g => (laws_heldByteS_l0 x.1.1 (x.1.2.1, x.1.2.2.1)).bind g) (funext fun t => laws_heldByteS_l0.outEq x.1.1 t R k)⟩
noncomputable def laws_heldByteS.L : Lam := mkL [(0, laws_heldByteS_l0.fr)]
def laws_heldByteS.out (t : Int) : Out := ⟨[.cl .sh (.int .i64) t], []⟩
theorem laws_heldByteS.eq (a : List Int) (k : Int) : ev tb laws_heldByteS.hn 22 2 laws_heldByteS.G laws_heldByteS.L (bodyOf Go.Proofs.Try.f164) (.two (.no) (.two (.two (.no) (.one (.fr 0))) (.no))) (initSt [.cl .sh (.sl (.int .u8)) a, .cl .sh (.int .i64) k]) (kfin tb laws_heldByteS.hn Go.Proofs.Try.f164 [.sh, .sh]) =
    (laws_heldByteS a k).map laws_heldByteS.out := by
  simp only [laws_heldByteS, cond_map, bind_map, sel_map, Option.map_some, Option.map_none]
  kernel_rfl
def laws_heldByteS.pts : List PT := [.cl .sh (.sl (.int .u8)), .cl .sh (.int .i64)]
noncomputable def laws_heldByteS.FS : FS := mkFS [.sh, .sh] laws_heldByteS.pts (fun x => laws_heldByteS x.1 x.2.1) laws_heldByteS.out
theorem laws_heldByteS.ok : FsOk Go.Proofs.Try.prog 164 laws_heldByteS.FS :=
  fs_ok (fn := Go.Proofs.Try.f164) tbok (by kernel_rfl) (body_some (by kernel_rfl)) (by kernel_rfl) (pts := laws_heldByteS.pts) (ev_sound (nt := 22) (np := 2) (hn := laws_heldByteS.hn) (G := laws_heldByteS.G) (L := laws_heldByteS.L) tbok laws_heldByteS.Gok hmix _ (.two (.no) (.two (.two (.no) (.one (.fr 0))) (.no))) (hok_of (l := [(0, .loop (codeAt (bodyOf Go.Proofs.Try.f164) [1, 0, 1, 0, 0]))]) (by kernel_rfl) ⟨Lam.cons laws_heldByteS_l0.ok, trivial⟩)) rfl rfl
    fun x => laws_heldByteS.eq x.1 x.2.1
noncomputable def laws_heldStringS_l0.B (a : List (List UInt8)) (k_ : Int) (i_ : Int) : Option ((Int × Int) ⊕ (((Int) ⊕ (Int)))) :=
  cond (decide (i_ < (a.length : Int))) (cond (inB i_ a.length) ((laws_markText k_).bind fun r => cond (!((a.getD i_.toNat []) == r)) (some (.inr (.inl (-1)))) (some (.inl (w64 (k_ + 1), w64 (i_ + 1))))) (none)) (some (.inr (.inr k_)))
noncomputable def laws_heldStringS_l0 (a : List (List UInt8)) : (Int × Int) → Option (((Int) ⊕ (Int))) :=
  loopL fun s => laws_heldStringS_l0.B a s.1 s.2
noncomputable def laws_heldStringS (a : List (List UInt8)) (k : Int) : Option (Int) :=
  (laws_heldStringS_l0 a (k, 0)).bind fun o => sel o (fun b => some b) (fun c => some c)
noncomputable def laws_heldStringS.G : Gam := mkG [(176, laws_markText.FS)]
theorem laws_heldStringS.Gok : GOk Go.Proofs.Try.prog laws_heldStringS.G := GOk.cons (laws_markText.ok) (GOk.nil)
def laws_heldStringS.hn : Hint := ⟨[], [], [], 0⟩
noncomputable def laws_heldStringS_l0.wit (a : List (List UInt8)) (o : ((Int) ⊕ (Int))) : Ex × St := sel o (fun b => (.rt, ⟨[(4, .cl .sh (.int .i64) b)], []⟩)) (fun c => (.ex 0, ⟨[(1, .cl .sh (.int .i64) c)], []⟩))
theorem laws_heldStringS_l0.eq (a : List (List UInt8)) (k_ : Int) (i_ : Int) : ev tb laws_heldStringS.hn 22 2 laws_heldStringS.G (mkL []) (codeAt (bodyOf Go.Proofs.Try.f165) [1, 0, 1, 0, 0]) (.no) ⟨[(0, .cl .sh (.sl .str) a), (1, .cl .sh (.int .i64) k_), (5, .cl .sh (.int .i64) i_)], []⟩ (kLp (([0, 1, 5], [])) [(0, ([1], []))] ([4], [])) =
    (laws_heldStringS_l0.B a k_ i_).map (fun o => sel o (fun s => .inl ⟨[(0, .cl .sh (.sl .str) a), (1, .cl .sh (.int .i64) s.1), (5, .cl .sh (.int .i64) s.2)], []⟩) (fun o => .inr (laws_heldStringS_l0.wit a o))) := by
  simp only [laws_heldStringS_l0.B, cond_map, bind_map, sel_map, Option.map_some, Option.map_none]
  kernel_rfl
def laws_heldStringS_l0.sp : SP := ⟨[(0, .cl .sh (.sl .str)), (1, .cl .sh (.int .i64)), (5, .cl .sh (.int .i64))], []⟩
noncomputable def laws_heldStringS_l0.out (a : List (List UInt8)) : FOut (((Int) ⊕ (Int))) := fun o _ k => sel o (fun b => k (.rt) ⟨[(4, .cl .sh (.int .i64) b)], []⟩) (fun c => k (.ex 0) ⟨[(1, .cl .sh (.int .i64) c)], []⟩)
theorem laws_heldStringS_l0.outEq (a : List (List UInt8)) (o : ((Int) ⊕ (Int))) (R : Type) (k : Ex → St → Option R) : laws_heldStringS_l0.out a o R k = k (laws_heldStringS_l0.wit a o).1 (laws_heldStringS_l0.wit a o).2 := by
  rcases o with o | o <;> rfl
noncomputable def laws_heldStringS_l0.F (x : laws_heldStringS_l0.sp.El) (R : Type) (k : Ex → St → Option R) : Option R := (laws_heldStringS_l0 x.1.1 (x.1.2.1, x.1.2.2.1)).bind fun t => laws_heldStringS_l0.out x.1.1 t R k
noncomputable def laws_heldStringS_l0.fr : St → ∀ R : Type, (Ex → St → Option R) → Option R := mkFrag laws_heldStringS_l0.sp laws_heldStringS_l0.F
theorem laws_heldStringS_l0.ok : CodeOk Go.Proofs.Try.prog 22 2 (.loop (codeAt (bodyOf Go.Proofs.Try.f165) [1, 0, 1, 0, 0])) laws_heldStringS_l0.fr :=
  loop_sound (sp := laws_heldStringS_l0.sp) rfl (F := laws_heldStringS_l0.F) (ev_sound (hn := laws_heldStringS.hn) (G := laws_heldStringS.G) (L := mkL []) tbok laws_heldStringS.Gok hmix _ (.no) (hok_of (l := []) (by kernel_rfl) trivial)) 
    fun x => ⟨_, _, fun s => laws_heldStringS_l0.B x.1.1 s.1 s.2, fun s => ⟨[(0, .cl .sh (.sl .str) x.1.1), (1, .cl .sh (.int .i64) s.1), (5, .cl .sh (.int .i64) s.2)], []⟩, laws_heldStringS_l0.wit x.1.1, (x.1.2.1, x.1.2.2.1), rfl, fun s => laws_heldStringS_l0.eq x.1.1 s.1 s.2, fun R k => congrArg (fun g => (laws_heldStringS_l0 x.1.1 (x.1.2.1, x.1.2.2.1)).bind g) (funext fun t => laws_heldStringS_l0.outEq x.1.1 t R k)⟩
noncomputable def laws_heldStringS.L : Lam := mkL [(0, laws_heldStringS_l0.fr)]
def laws_heldStringS.out (t : Int) : Out := ⟨[.cl .sh (.int .i64) t], []⟩
theorem laws_heldStringS.eq (a : List (List UInt8)) (k : Int) : ev tb laws_heldStringS.hn 22 2 laws_heldStringS.G laws_heldStringS.L (bodyOf Go.Proofs.Try.f165) (.two (.no) (.two (.two (.no) (.one (.fr 0))) (.no))) (initSt [.cl .sh (.sl .str) a, .cl .sh (.int .i64) k]) (kfin tb laws_heldStringS.hn Go.Proofs.Try.f165 [.sh, .sh]) =
    (laws_heldStringS a k).map laws_heldStringS.out := by
  simp only [laws_heldStringS, cond_map, bind_map, sel_map, Option.map_some, Option.map_none]
  kernel_rfl
def laws_heldStringS.pts : List PT := [.cl .sh (.sl .str), .cl .sh (.int .i64)]
noncomputable def laws_heldStringS.FS : FS := mkFS [.sh, .sh] laws_heldStringS.pts (fun x => laws_heldStringS x.1 x.2.1) laws_heldStringS.out
theorem laws_heldStringS.ok : FsOk Go.Proofs.Try.prog 165 laws_heldStringS.FS :=
  fs_ok (fn := Go.Proofs.Try.f165) tbok (by kernel_rfl) (body_some (by kernel_rfl)) (by kernel_rfl) (pts := laws_heldStringS.pts) (ev_sound (nt := 22) (np := 2) (hn := laws_heldStringS.hn) (G := laws_heldStringS.G) (L := laws_heldStringS.L) tbok laws_heldStringS.Gok hmix _ (.two (.no) (.two (.two (.no) (.one (.fr 0))) (.no))) (hok_of (l := [(0, .loop (codeAt (bodyOf Go.Proofs.Try.f165) [1, 0, 1, 0, 0]))]) (by kernel_rfl) ⟨Lam.cons laws_heldStringS_l0.ok, trivial⟩)) rfl rfl
    fun x => laws_heldStringS.eq x.1 x.2.1
noncomputable def laws_heldInt64S_l0.B (a : List Int) (k_ : Int) (i_ : Int) : Option ((Int × Int) ⊕ (((Int) ⊕ (Int)))) :=
  cond (decide (i_ < (a.length : Int))) (cond (inB i_ a.length) (cond ((a.getD i_.toNat 0) != k_) (some (.inr (.inl (-1)))) (some (.inl (w64 (k_ + 1), w64 (i_ + 1))))) (none)) (some (.inr (.inr k_)))
noncomputable def laws_heldInt64S_l0 (a : List Int) : (Int × Int) → Option (((Int) ⊕ (Int))) :=
  loopL fun s => laws_heldInt64S_l0.B a s.1 s.2
noncomputable def laws_heldInt64S (a : List Int) (k : Int) : Option (Int) :=
  (laws_heldInt64S_l0 a (k, 0)).bind fun o => sel o (fun b => some b) (fun c => some c)
noncomputable def laws_heldInt64S.G : Gam := mkG []
theorem laws_heldInt64S.Gok : GOk Go.Proofs.Try.prog laws_heldInt64S.G := GOk.nil
def laws_heldInt64S.hn : Hint := ⟨[], [], [], 0⟩
noncomputable def laws_heldInt64S_l0.wit (a : List Int) (o : ((Int) ⊕ (Int))) : Ex × St := sel o (fun b => (.rt, ⟨[(4, .cl .sh (.int .i64) b)], []⟩)) (fun c => (.ex 0, ⟨[(1, .cl .sh (.int .i64) c)], []⟩))
theorem laws_heldInt64S_l0.eq (a : List Int) (k_ : Int) (i_ : Int) : ev tb laws_heldInt64S.hn 21 2 laws_heldInt64S.G (mkL []) (codeAt (bodyOf Go.Proofs.Try.f147) [1, 0, 1, 0, 0]) (.no) ⟨[(0, .cl .sh (.sl (.int .i64)) a), (1, .cl .sh (.int .i64) k_), (5, .cl .sh (.int .i64) i_)], []⟩ (kLp (([0, 1, 5], [])) [(0, ([1], []))] ([4], [])) =
    (laws_heldInt64S_l0.B a k_ i_).map (fun o => sel o (fun s => .inl ⟨[(0, .cl .sh (.sl (.int .i64)) a), (1, .cl .sh (.int .i64) s.1), (5, .cl .sh (.int .i64) s.2)], []⟩) (fun o => .inr (laws_heldInt64S_l0.wit a o))) := by
  simp only [laws_heldInt64S_l0.B, cond_map, bind_map, sel_map, Option.map_some, Option.map_none]
  kernel_rfl
def laws_heldInt64S_l0.sp : SP := ⟨[(0, .cl .sh (.sl (.int .i64))), (1, .cl .sh (.int .i64)), (5, .cl .sh (.int .i64))], []⟩
noncomputable def laws_heldInt64S_l0.out (a : List Int) : FOut (((Int) ⊕ (Int))) := fun o _ k => sel o (fun b => k (.rt) ⟨[(4, .cl .sh (.int .i64) b)], []⟩) (fun c => k (.ex 0) ⟨[(1, .cl .sh (.int .i64) c)], []⟩)
theorem laws_heldInt64S_l0.outEq (a : List Int) (o : ((Int) ⊕ (Int))) (R : Type) (k : Ex → St → Option R) : laws_heldInt64S_l0.out a o R k = k (laws_heldInt64S_l0.wit a o).1 (laws_heldInt64S_l0.wit a o).2 := by
  rcases o with o | o <;> rfl
noncomputable def laws_heldInt64S_l0.F (x : laws_heldInt64S_l0.sp.El) (R : Type) (k : Ex → St → Option R) : Option R := (laws_heldInt64S_l0 x.1.1 (x.1.2.1, x.1.2.2.1)).bind fun t => laws_heldInt64S_l0.out x.1.1 t R k
noncomputable def laws_heldInt64S_l0.fr : St → ∀ R : Type, (Ex → St → Option R) → Option R := mkFrag laws_heldInt64S_l0.sp laws_heldInt64S_l0.F
theorem laws_heldInt64S_l0.ok : CodeOk Go.Proofs.Try.prog 21 2 (.loop (codeAt (bodyOf Go.Proofs.Try.f147) [1, 0, 1, 0, 0])) laws_heldInt64S_l0.fr :=
  loop_sound (sp := laws_heldInt64S_l0.sp) rfl (F := laws_heldInt64S_l0.F) (ev_sound (hn := laws_heldInt64S.hn) (G := laws_heldInt64S.G) (L := mkL []) tbok laws_heldInt64S.Gok hmix _ (.no) (hok_of (l := []) (by kernel_rfl) trivial)) 
    fun x => ⟨_, _, fun s => laws_heldInt64S_l0.B x.1.1 s.1 s.2, fun s => ⟨[(0, .cl .sh (.sl (.int .i64)) x.1.1), (1, .cl .sh (.int .i64) s.1), (5, .cl .sh (.int .i64) s.2)], []⟩, laws_heldInt64S_l0.wit x.1.1, (x.1.2.1, x.1.2.2.1), rfl, fun s => laws_heldInt64S_l0.eq x.1.1 s.1 s.2, fun R k => congrArg (fun g => (laws_heldInt64S_l0 x.1.1 (x.1.2.1, x.1.2.2.1)).bind g) (funext fun t => laws_heldInt64S_l0.outEq x.1.1 t R k)⟩
noncomputable def laws_heldInt64S.L : Lam := mkL [(0, laws_heldInt64S_l0.fr)]
def laws_heldInt64S.out (t : Int) : Out := ⟨[.cl .sh (.int .i64) t], []⟩
theorem laws_heldInt64S.eq (a : List Int) (k : Int) : ev tb laws_heldInt64S.hn 21 2 laws_heldInt64S.G laws_heldInt64S.L (bodyOf Go.Proofs.Try.f147) (.two (.no) (.two (.two (.no) (.one (.fr 0))) (.no))) (initSt [.cl .sh (.sl (.int .i64)) a, .cl .sh (.int .i64) k]) (kfin tb laws_heldInt64S.hn Go.Proofs.Try.f147 [.sh, .sh]) =
    (laws_heldInt64S a k).map laws_heldInt64S.out := by
  simp only [laws_heldInt64S, cond_map, bind_map, sel_map, Option.map_some, Option.map_none]
  kernel_rfl
def laws_heldInt64S.pts : List PT := [.cl .sh (.sl (.int .i64)), .cl .sh (.int .i64)]
noncomputable def laws_heldInt64S.FS : FS := mkFS [.sh, .sh] laws_heldInt64S.pts (fun x => laws_heldInt64S x.1 x.2.1) laws_heldInt64S.out
theorem laws_heldInt64S.ok : FsOk Go.Proofs.Try.prog 147 laws_heldInt64S.FS :=
  fs_ok (fn := Go.Proofs.Try.f147) tbok (by kernel_rfl) (body_some (by kernel_rfl)) (by kernel_rfl) (pts := laws_heldInt64S.pts) (ev_sound (nt := 21) (np := 2) (hn := laws_heldInt64S.hn) (G := laws_heldInt64S.G) (L := laws_heldInt64S.L) tbok laws_heldInt64S.Gok hmix _ (.two (.no) (.two (.two (.no) (.one (.fr 0))) (.no))) (hok_of (l := [(0, .loop (codeAt (bodyOf Go.Proofs.Try.f147) [1, 0, 1, 0, 0]))]) (by kernel_rfl) ⟨Lam.cons laws_heldInt64S_l0.ok, trivial⟩)) rfl rfl
    fun x => laws_heldInt64S.eq x.1 x.2.1
noncomputable def laws_heldEntryS_l0.B (a : List Entry_) (k_ : Int) (i_ : Int) : Option ((Int × Int) ⊕ (((Int) ⊕ (Int)))) :=
  cond (decide (i_ < (a.length : Int))) (cond (inB i_ a.length) ((laws_markText k_).bind fun r => cond (!(((a.getD i_.toNat zEntry_).1) == r)) (some (.inr (.inl (-1)))) (cond (inB i_ a.length) ((some ((((a.getD i_.toNat zEntry_).2).1) != (w64 (k_ + 1)))).bind fun v => cond v (some (.inr (.inl (-1)))) (some (.inl (w64 ((w64 (k_ + 1)) + 1), w64 (i_ + 1))))) (none))) (none)) (some (.inr (.inr k_)))
noncomputable def laws_heldEntryS_l0 (a : List Entry_) : (Int × Int) → Option (((Int) ⊕ (Int))) :=
  loopL fun s => laws_heldEntryS_l0.B a s.1 s.2
noncomputable def laws_heldEntryS (a : List Entry_) (k : Int) : Option (Int) :=
  (laws_heldEntryS_l0 a (k, 0)).bind fun o => sel o (fun b => some b) (fun c => some c)
noncomputable def laws_heldEntryS.G : Gam := mkG [(176, laws_markText.FS)]
theorem laws_heldEntryS.Gok : GOk Go.Proofs.Try.prog laws_heldEntryS.G := GOk.cons (laws_markText.ok) (GOk.nil)
def laws_heldEntryS.hn : Hint := ⟨[], [], [], 0⟩
noncomputable def laws_heldEntryS_l0.wit (a : List Entry_) (o : ((Int) ⊕ (Int))) : Ex × St := sel o (fun b => (.rt, ⟨[(4, .cl .sh (.int .i64) b)], []⟩)) (fun c => (.ex 0, ⟨[(1, .cl .sh (.int .i64) c)], []⟩))
theorem laws_heldEntryS_l0.eq (a : List Entry_) (k_ : Int) (i_ : Int) : ev tb laws_heldEntryS.hn 32 2 laws_heldEntryS.G (mkL []) (codeAt (bodyOf Go.Proofs.Try.f184) [1, 0, 1, 0, 0]) (.no) ⟨[(0, .cl .sh (.sl tEntry_) a), (1, .cl .sh (.int .i64) k_), (5, .cl .sh (.int .i64) i_)], []⟩ (kLp (([0, 1, 5], [])) [(0, ([1], []))] ([4], [])) =
    (laws_heldEntryS_l0.B a k_ i_).map (fun o => sel o (fun s => .inl ⟨[(0, .cl .sh (.sl tEntry_) a), (1, .cl .sh (.int .i64) s.1), (5, .cl .sh (.int .i64) s.2)], []⟩) (fun o => .inr (laws_heldEntryS_l0.wit a o))) := by
  simp only [laws_heldEntryS_l0.B, cond_map, bind_map, sel_map, Option.map_some, Option.map_none]
  kernel_rfl
def laws_heldEntryS_l0.sp : SP := ⟨[(0, .cl .sh (.sl tEntry_)), (1, .cl .sh (.int .i64)), (5, .cl .sh (.int .i64))], []⟩
noncomputable def laws_heldEntryS_l0.out (a : List Entry_) : FOut (((Int) ⊕ (Int))) := fun o _ k => sel o (fun b => k (.rt) ⟨[(4, .cl .sh (.int .i64) b)], []⟩) (fun c => k (.ex 0) ⟨[(1, .cl .sh (.int .i64) c)], []⟩)
theorem laws_heldEntryS_l0.outEq (a : List Entry_) (o : ((Int) ⊕ (Int))) (R : Type) (k : Ex → St → Option R) : laws_heldEntryS_l0.out a o R k = k (laws_heldEntryS_l0.wit a o).1 (laws_heldEntryS_l0.wit a o).2 := by
  rcases o with o | o <;> rfl
noncomputable def laws_heldEntryS_l0.F (x : laws_heldEntryS_l0.sp.El) (R : Type) (k : Ex → St → Option R) : Option R := (laws_heldEntryS_l0 x.1.1 (x.1.2.1, x.1.2.2.1)).bind fun t => laws_heldEntryS_l0.out x.1.1 t R k
noncomputable def laws_heldEntryS_l0.fr : St → ∀ R : Type, (Ex → St → Option R) → Option R := mkFrag laws_heldEntryS_l0.sp laws_heldEntryS_l0.F
theorem laws_heldEntryS_l0.ok : CodeOk Go.Proofs.Try.prog 32 2 (.loop (codeAt (bodyOf Go.Proofs.Try.f184) [1, 0, 1, 0, 0])) laws_heldEntryS_l0.fr :=
  loop_sound (sp := laws_heldEntryS_l0.sp) rfl (F := laws_heldEntryS_l0.F) (ev_sound (hn := laws_heldEntryS.hn) (G := laws_heldEntryS.G) (L := mkL []) tbok laws_heldEntryS.Gok hmix _ (.no) (hok_of (l := []) (by kernel_rfl) trivial)) 
    fun x => ⟨_, _, fun s => laws_heldEntryS_l0.B x.1.1 s.1 s.2, fun s => ⟨[(0, .cl .sh (.sl tEntry_) x.1.1), (1, .cl .sh (.int .i64) s.1), (5, .cl .sh (.int .i64) s.2)], []⟩, laws_heldEntryS_l0.wit x.1.1, (x.1.2.1, x.1.2.2.1), rfl, fun s => laws_heldEntryS_l0.eq x.1.1 s.1 s.2, fun R k => congrArg (fun g => (laws_heldEntryS_l0 x.1.1 (x.1.2.1, x.1.2.2.1)).bind g) (funext fun t => laws_heldEntryS_l0.outEq x.1.1 t R k)⟩
noncomputable def laws_heldEntryS.L : Lam := mkL [(0, laws_heldEntryS_l0.fr)]
def laws_heldEntryS.out (t : Int) : Out := ⟨[.cl .sh (.int .i64) t], []⟩
theorem laws_heldEntryS.eq (a : List Entry_) (k : Int) : ev tb laws_heldEntryS.hn 32 2 laws_heldEntryS.G laws_heldEntryS.L (bodyOf Go.Proofs.Try.f184) (.two (.no) (.two (.two (.no) (.one (.fr 0))) (.no))) (initSt [.cl .sh (.sl tEntry_) a, .cl .sh (.int .i64) k]) (kfin tb laws_heldEntryS.hn Go.Proofs.Try.f184 [.sh, .sh]) =
    (laws_heldEntryS a k).map laws_heldEntryS.out := by
  simp only [laws_heldEntryS, cond_map, bind_map, sel_map, Option.map_some, Option.map_none]
  kernel_rfl
def laws_heldEntryS.pts : List PT := [.cl .sh (.sl tEntry_), .cl .sh (.int .i64)]
noncomputable def laws_heldEntryS.FS : FS := mkFS [.sh, .sh] laws_heldEntryS.pts (fun x => laws_heldEntryS x.1 x.2.1) laws_heldEntryS.out
theorem laws_heldEntryS.ok : FsOk Go.Proofs.Try.prog 184 laws_heldEntryS.FS :=
  fs_ok (fn := Go.Proofs.Try.f184) tbok (by kernel_rfl) (body_some (by kernel_rfl)) (by kernel_rfl) (pts := laws_heldEntryS.pts) (ev_sound (nt := 32) (np := 2) (hn := laws_heldEntryS.hn) (G := laws_heldEntryS.G) (L := laws_heldEntryS.L) tbok laws_heldEntryS.Gok hmix _ (.two (.no) (.two (.two (.no) (.one (.fr 0))) (.no))) (hok_of (l := [(0, .loop (codeAt (bodyOf Go.Proofs.Try.f184) [1, 0, 1, 0, 0]))]) (by kernel_rfl) ⟨Lam.cons laws_heldEntryS_l0.ok, trivial⟩)) rfl rfl
    fun x => laws_heldEntryS.eq x.1 x.2.1
noncomputable def laws_heldInodeS_l0.B (a : List Inode_) (k_ : Int) (i_ : Int) : Option ((Int × Int) ⊕ (((Int) ⊕ (Int)))) :=
  cond (decide (i_ < (a.length : Int))) (cond (inB i_ a.length) (cond (((a.getD i_.toNat zInode_).1) != k_) (some (.inr (.inl (-1)))) (cond (inB i_ a.length) ((some ((((a.getD i_.toNat zInode_).2).1) != (w64 (k_ + 1)))).bind fun v => cond v (some (.inr (.inl (-1)))) (cond (inB i_ a.length) ((some (((((a.getD i_.toNat zInode_).2).2).1) != (w64 ((w64 (k_ + 1)) + 1)))).bind fun v2 => cond v2 (some (.inr (.inl (-1)))) (cond (inB i_ a.length) ((laws_heldInt64S (((((a.getD i_.toNat zInode_).2).2).2).1) (w64 ((w64 ((w64 (k_ + 1)) + 1)) + 1))).bind fun r => cond (decide (r < 0)) (some (.inr (.inl (-1)))) (cond (inB i_ a.length) ((laws_heldEntryS ((((((a.getD i_.toNat zInode_).2).2).2).2).1) r).bind fun r2 => cond (decide (r2 < 0)) (some (.inr (.inl (-1)))) (some (.inl (r2, w64 (i_ + 1))))) (none))) (none))) (none))) (none))) (none)) (some (.inr (.inr k_)))
noncomputable def laws_heldInodeS_l0 (a : List Inode_) : (Int × Int) → Option (((Int) ⊕ (Int))) :=
  loopL fun s => laws_heldInodeS_l0.B a s.1 s.2
noncomputable def laws_heldInodeS (a : List Inode_) (k : Int) : Option (Int) :=
  (laws_heldInodeS_l0 a (k, 0)).bind fun o => sel o (fun b => some b) (fun c => some c)
noncomputable def laws_heldInodeS.G : Gam := mkG [(147, laws_heldInt64S.FS), (184, laws_heldEntryS.FS)]
theorem laws_heldInodeS.Gok : GOk Go.Proofs.Try.prog laws_heldInodeS.G := GOk.cons (laws_heldInt64S.ok) (GOk.cons (laws_heldEntryS.ok) (GOk.nil))
def laws_heldInodeS.hn : Hint := ⟨[], [], [], 0⟩
noncomputable def laws_heldInodeS_l0.wit (a : List Inode_) (o : ((Int) ⊕ (Int))) : Ex × St := sel o (fun b => (.rt, ⟨[(4, .cl .sh (.int .i64) b)], []⟩)) (fun c => (.ex 0, ⟨[(1, .cl .sh (.int .i64) c)], []⟩))
theorem laws_heldInodeS_l0.eq (a : List Inode_) (k_ : Int) (i_ : Int) : ev tb laws_heldInodeS.hn 58 2 laws_heldInodeS.G (mkL []) (codeAt (bodyOf Go.Proofs.Try.f179) [1, 0, 1, 0, 0]) (.no) ⟨[(0, .cl .sh (.sl tInode_) a), (1, .cl .sh (.int .i64) k_), (5, .cl .sh (.int .i64) i_)], []⟩ (kLp (([0, 1, 5], [])) [(0, ([1], []))] ([4], [])) =
    (laws_heldInodeS_l0.B a k_ i_).map (fun o => sel o (fun s => .inl ⟨[(0, .cl .sh (.sl tInode_) a), (1, .cl .sh (.int .i64) s.1), (5, .cl .sh (.int .i64) s.2)], []⟩) (fun o => .inr (laws_heldInodeS_l0.wit a o))) := by
  simp only [laws_heldInodeS_l0.B, cond_map, bind_map, sel_map, Option.map_some, Option.map_none]
  kernel_rfl
def laws_heldInodeS_l0.sp : SP := ⟨[(0, .cl .sh (.sl tInode_)), (1, .cl .sh (.int .i64)), (5, .cl .sh (.int .i64))], []⟩
noncomputable def laws_heldInodeS_l0.out (a : List Inode_) : FOut (((Int) ⊕ (Int))) := fun o _ k => sel o (fun b => k (.rt) ⟨[(4, .cl .sh (.int .i64) b)], []⟩) (fun c => k (.ex 0) ⟨[(1, .cl .sh (.int .i64) c)], []⟩)
theorem laws_heldInodeS_l0.outEq (a : List Inode_) (o : ((Int) ⊕ (Int))) (R : Type) (k : Ex → St → Option R) : laws_heldInodeS_l0.out a o R k = k (laws_heldInodeS_l0.wit a o).1 (laws_heldInodeS_l0.wit a o).2 := by
  rcases o with o | o <;> rfl
noncomputable def laws_heldInodeS_l0.F (x : laws_heldInodeS_l0.sp.El) (R : Type) (k : Ex → St → Option R) : Option R := (laws_heldInodeS_l0 x.1.1 (x.1.2.1, x.1.2.2.1)).bind fun t => laws_heldInodeS_l0.out x.1.1 t R k
noncomputable def laws_heldInodeS_l0.fr : St → ∀ R : Type, (Ex → St → Option R) → Option R := mkFrag laws_heldInodeS_l0.sp laws_heldInodeS_l0.F
theorem laws_heldInodeS_l0.ok : CodeOk Go.Proofs.Try.prog 58 2 (.loop (codeAt (bodyOf Go.Proofs.Try.f179) [1, 0, 1, 0, 0])) laws_heldInodeS_l0.fr :=
  loop_sound (sp := laws_heldInodeS_l0.sp) rfl (F := laws_heldInodeS_l0.F) (ev_sound (hn := laws_heldInodeS.hn) (G := laws_heldInodeS.G) (L := mkL []) tbok laws_heldInodeS.Gok hmix _ (.no) (hok_of (l := []) (by kernel_rfl) trivial)) 
    fun x => ⟨_, _, fun s => laws_heldInodeS_l0.B x.1.1 s.1 s.2, fun s => ⟨[(0, .cl .sh (.sl tInode_) x.1.1), (1, .cl .sh (.int .i64) s.1), (5, .cl .sh (.int .i64) s.2)], []⟩, laws_heldInodeS_l0.wit x.1.1, (x.1.2.1, x.1.2.2.1), rfl, fun s => laws_heldInodeS_l0.eq x.1.1 s.1 s.2, fun R k => congrArg (fun g => (laws_heldInodeS_l0 x.1.1 (x.1.2.1, x.1.2.2.1)).bind g) (funext fun t => laws_heldInodeS_l0.outEq x.1.1 t R k)⟩
noncomputable def laws_heldInodeS.L : Lam := mkL [(0, laws_heldInodeS_l0.fr)]
def laws_heldInodeS.out (t : Int) : Out := ⟨[.cl .sh (.int .i64) t], []⟩
theorem laws_heldInodeS.eq (a : List Inode_) (k : Int) : ev tb laws_heldInodeS.hn 58 2 laws_heldInodeS.G laws_heldInodeS.L (bodyOf Go.Proofs.Try.f179) (.two (.no) (.two (.two (.no) (.one (.fr 0))) (.no))) (initSt [.cl .sh (.sl tInode_) a, .cl .sh (.int .i64) k]) (kfin tb laws_heldInodeS.hn Go.Proofs.Try.f179 [.sh, .sh]) =
    (laws_heldInodeS a k).map laws_heldInodeS.out := by
  simp only [laws_heldInodeS, cond_map, bind_map, sel_map, Option.map_some, Option.map_none]
  kernel_rfl
def laws_heldInodeS.pts : List PT := [.cl .sh (.sl tInode_), .cl .sh (.int .i64)]
noncomputable def laws_heldInodeS.FS : FS := mkFS [.sh, .sh] laws_heldInodeS.pts (fun x => laws_heldInodeS x.1 x.2.1) laws_heldInodeS.out
theorem laws_heldInodeS.ok : FsOk Go.Proofs.Try.prog 179 laws_heldInodeS.FS :=
  fs_ok (fn := Go.Proofs.Try.f179) tbok (by kernel_rfl) (body_some (by kernel_rfl)) (by kernel_rfl) (pts := laws_heldInodeS.pts) (ev_sound (nt := 58) (np := 2) (hn := laws_heldInodeS.hn) (G := laws_heldInodeS.G) (L := laws_heldInodeS.L) tbok laws_heldInodeS.Gok hmix _ (.two (.no) (.two (.two (.no) (.one (.fr 0))) (.no))) (hok_of (l := [(0, .loop (codeAt (bodyOf Go.Proofs.Try.f179) [1, 0, 1, 0, 0]))]) (by kernel_rfl) ⟨Lam.cons laws_heldInodeS_l0.ok, trivial⟩)) rfl rfl
    fun x => laws_heldInodeS.eq x.1 x.2.1
noncomputable def laws_heldByteSS_l0.B (a : List (List Int)) (k_ : Int) (i_ : Int) : Option ((Int × Int) ⊕ (((Int) ⊕ (Int)))) :=
  cond (decide (i_ < (a.length : Int))) (cond (inB i_ a.length) ((laws_heldByteS (a.getD i_.toNat []) k_).bind fun r => cond (decide (r < 0)) (some (.inr (.inl (-1)))) (some (.inl (r, w64 (i_ + 1))))) (none)) (some (.inr (.inr k_)))
noncomputable def laws_heldByteSS_l0 (a : List (List Int)) : (Int × Int) → Option (((Int) ⊕ (Int))) :=
  loopL fun s => laws_heldByteSS_l0.B a s.1 s.2
noncomputable def laws_heldByteSS (a : List (List Int)) (k : Int) : Option (Int) :=
  (laws_heldByteSS_l0 a (k, 0)).bind fun o => sel o (fun b => some b) (fun c => some c)
noncomputable def laws_heldByteSS.G : Gam := mkG [(164, laws_heldByteS.FS)]
theorem laws_heldByteSS.Gok : GOk Go.Proofs.Try.prog laws_heldByteSS.G := GOk.cons (laws_heldByteS.ok) (GOk.nil)
def laws_heldByteSS.hn : Hint := ⟨[], [], [], 0⟩
noncomputable def laws_heldByteSS_l0.wit (a : List (List Int)) (o : ((Int) ⊕ (Int))) : Ex × St := sel o (fun b => (.rt, ⟨[(4, .cl .sh (.int .i64) b)], []⟩)) (fun c => (.ex 0, ⟨[(1, .cl .sh (.int .i64) c)], []⟩))
theorem laws_heldByteSS_l0.eq (a : List (List Int)) (k_ : Int) (i_ : Int) : ev tb laws_heldByteSS.hn 21 2 laws_heldByteSS.G (mkL []) (codeAt (bodyOf Go.Proofs.Try.f180) [1, 0, 1, 0, 0]) (.no) ⟨[(0, .cl .sh (.sl (.sl (.int .u8))) a), (1, .cl .sh (.int .i64) k_), (5, .cl .sh (.int .i64) i_)], []⟩ (kLp (([0, 1, 5], [])) [(0, ([1], []))] ([4], [])) =
    (laws_heldByteSS_l0.B a k_ i_).map (fun o => sel o (fun s => .inl ⟨[(0, .cl .sh (.sl (.sl (.int .u8))) a), (1, .cl .sh (.int .i64) s.1), (5, .cl .sh (.int .i64) s.2)], []⟩) (fun o => .inr (laws_heldByteSS_l0.wit a o))) := by
  simp only [laws_heldByteSS_l0.B, cond_map, bind_map, sel_map, Option.map_some, Option.map_none]
  kernel_rfl
def laws_heldByteSS_l0.sp : SP := ⟨[(0, .cl .sh (.sl (.sl (.int .u8)))), (1, .cl .sh (.int .i64)), (5, .cl .sh (.int .i64))], []⟩
noncomputable def laws_heldByteSS_l0.out (a : List (List Int)) : FOut (((Int) ⊕ (Int))) := fun o _ k => sel o (fun b => k (.rt) ⟨[(4, .cl .sh (.int .i64) b)], []⟩) (fun c => k (.ex 0) ⟨[(1, .cl .sh (.int .i64) c)], []⟩)
theorem laws_heldByteSS_l0.outEq (a : List (List Int)) (o : ((Int) ⊕ (Int))) (R : Type) (k : Ex → St → Option R) : laws_heldByteSS_l0.out a o R k = k (laws_heldByteSS_l0.wit a o).1 (laws_heldByteSS_l0.wit a o).2 := by
  rcases o with o | o <;> rfl
noncomputable def laws_heldByteSS_l0.F (x : laws_heldByteSS_l0.sp.El) (R : Type) (k : Ex → St → Option R) : Option R := (laws_heldByteSS_l0 x.1.1 (x.1.2.1, x.1.2.2.1)).bind fun t => laws_heldByteSS_l0.out x.1.1 t R k
noncomputable def laws_heldByteSS_l0.fr : St → ∀ R : Type, (Ex → St → Option R) → Option R := mkFrag laws_heldByteSS_l0.sp laws_heldByteSS_l0.F
theorem laws_heldByteSS_l0.ok : CodeOk Go.Proofs.Try.prog 21 2 (.loop (codeAt (bodyOf Go.Proofs.Try.f180) [1, 0, 1, 0, 0])) laws_heldByteSS_l0.fr :=
  loop_sound (sp := laws_heldByteSS_l0.sp) rfl (F := laws_heldByteSS_l0.F) (ev_sound (hn := laws_heldByteSS.hn) (G := laws_heldByteSS.G) (L := mkL []) tbok laws_heldByteSS.Gok hmix _ (.no) (hok_of (l := []) (by kernel_rfl) trivial)) 
    fun x => ⟨_, _, fun s => laws_heldByteSS_l0.B x.1.1 s.1 s.2, fun s => ⟨[(0, .cl .sh (.sl (.sl (.int .u8))) x.1.1), (1, .cl .sh (.int .i64) s.1), (5, .cl .sh (.int .i64) s.2)], []⟩, laws_heldByteSS_l0.wit x.1.1, (x.1.2.1, x.1.2.2.1), rfl, fun s => laws_heldByteSS_l0.eq x.1.1 s.1 s.2, fun R k => congrArg (fun g => (laws_heldByteSS_l0 x.1.1 (x.1.2.1, x.1.2.2.1)).bind g) (funext fun t => laws_heldByteSS_l0.outEq x.1.1 t R k)⟩
noncomputable def laws_heldByteSS.L : Lam := mkL [(0, laws_heldByteSS_l0.fr)]
def laws_heldByteSS.out (t : Int) : Out := ⟨[.cl .sh (.int .i64) t], []⟩
theorem laws_heldByteSS.eq (a : List (List Int)) (k : Int) : ev tb laws_heldByteSS.hn 21 2 laws_heldByteSS.G laws_heldByteSS.L (bodyOf Go.Proofs.Try.f180) (.two (.no) (.two (.two (.no) (.one (.fr 0))) (.no))) (initSt [.cl .sh (.sl (.sl (.int .u8))) a, .cl .sh (.int .i64) k]) (kfin tb laws_heldByteSS.hn Go.Proofs.Try.f180 [.sh, .sh]) =
    (laws_heldByteSS a k).map laws_heldByteSS.out := by
  simp only [laws_heldByteSS, cond_map, bind_map, sel_map, Option.map_some, Option.map_none]
  kernel_rfl
def laws_heldByteSS.pts : List PT := [.cl .sh (.sl (.sl (.int .u8))), .cl .sh (.int .i64)]
noncomputable def laws_heldByteSS.FS : FS := mkFS [.sh, .sh] laws_heldByteSS.pts (fun x => laws_heldByteSS x.1 x.2.1) laws_heldByteSS.out
theorem laws_heldByteSS.ok : FsOk Go.Proofs.Try.prog 180 laws_heldByteSS.FS :=
  fs_ok (fn := Go.Proofs.Try.f180) tbok (by kernel_rfl) (body_some (by kernel_rfl)) (by kernel_rfl) (pts := laws_heldByteSS.pts) (ev_sound (nt := 21) (np := 2) (hn := laws_heldByteSS.hn) (G := laws_heldByteSS.G) (L := laws_heldByteSS.L) tbok laws_heldByteSS.Gok hmix _ (.two (.no) (.two (.two (.no) (.one (.fr 0))) (.no))) (hok_of (l := [(0, .loop (codeAt (bodyOf Go.Proofs.Try.f180) [1, 0, 1, 0, 0]))]) (by kernel_rfl) ⟨Lam.cons laws_heldByteSS_l0.ok, trivial⟩)) rfl rfl
    fun x => laws_heldByteSS.eq x.1 x.2.1
noncomputable def laws_heldFs (a : Fs_) (k : Int) : Option (Int) :=
  (laws_heldInodeS a.1 k).bind fun r => cond (decide (r < 0)) (some (-1)) ((laws_heldByteSS a.2.1 r).bind fun r2 => cond (decide (r2 < 0)) (some (-1)) (some r2))
noncomputable def laws_heldFs.G : Gam := mkG [(179, laws_heldInodeS.FS), (180, laws_heldByteSS.FS)]
theorem laws_heldFs.Gok : GOk Go.Proofs.Try.prog laws_heldFs.G := GOk.cons (laws_heldInodeS.ok) (GOk.cons (laws_heldByteSS.ok) (GOk.nil))
def laws_heldFs.hn : Hint := ⟨[2], [], [], 0⟩
noncomputable def laws_heldFs.L : Lam := mkL []
def laws_heldFs.out (t : Int) : Out := ⟨[.cl .sh (.int .i64) t], []⟩
theorem laws_heldFs.eq (a : Fs_) (k : Int) : ev tb laws_heldFs.hn 18 2 laws_heldFs.G laws_heldFs.L (bodyOf Go.Proofs.Try.f166) (.no) (initSt [.cl .sh tFs_ a, .cl .sh (.int .i64) k]) (kfin tb laws_heldFs.hn Go.Proofs.Try.f166 [.sh, .sh]) =
    (laws_heldFs a k).map laws_heldFs.out := by
  simp only [laws_heldFs, cond_map, bind_map, sel_map, Option.map_some, Option.map_none]
  kernel_rfl
def laws_heldFs.pts : List PT := [.cl .sh tFs_, .cl .sh (.int .i64)]
noncomputable def laws_heldFs.FS : FS := mkFS [.sh, .sh] laws_heldFs.pts (fun x => laws_heldFs x.1 x.2.1) laws_heldFs.out
theorem laws_heldFs.ok : FsOk Go.Proofs.Try.prog 166 laws_heldFs.FS :=
  fs_ok (fn := Go.Proofs.Try.f166) tbok (by kernel_rfl) (body_some (by kernel_rfl)) (by kernel_rfl) (pts := laws_heldFs.pts) (ev_sound (nt := 18) (np := 2) (hn := laws_heldFs.hn) (G := laws_heldFs.G) (L := laws_heldFs.L) tbok laws_heldFs.Gok hmix _ (.no) (hok_of (l := []) (by kernel_rfl) trivial)) rfl rfl
    fun x => laws_heldFs.eq x.1 x.2.1
noncomputable def laws_heldCallResult (a : CallResult_) (k : Int) : Option (Int) :=
  (laws_heldByteS a.2.2.2.1 k).bind fun r => cond (decide (r < 0)) (some (-1)) ((laws_heldStringS a.2.2.2.2.1 r).bind fun r2 => cond (decide (r2 < 0)) (some (-1)) ((laws_heldFs a.2.2.2.2.2.1 r2).bind fun r3 => cond (decide (r3 < 0)) (some (-1)) (some r3)))
noncomputable def laws_heldCallResult.G : Gam := mkG [(164, laws_heldByteS.FS), (165, laws_heldStringS.FS), (166, laws_heldFs.FS)]
theorem laws_heldCallResult.Gok : GOk Go.Proofs.Try.prog laws_heldCallResult.G := GOk.cons (laws_heldByteS.ok) (GOk.cons (laws_heldStringS.ok) (GOk.cons (laws_heldFs.ok) (GOk.nil)))
def laws_heldCallResult.hn : Hint := ⟨[2], [], [], 0⟩
noncomputable def laws_heldCallResult.L : Lam := mkL []
def laws_heldCallResult.out (t : Int) : Out := ⟨[.cl .sh (.int .i64) t], []⟩
theorem laws_heldCallResult.eq (a : CallResult_) (k : Int) : ev tb laws_heldCallResult.hn 24 2 laws_heldCallResult.G laws_heldCallResult.L (bodyOf Go.Proofs.Try.f131) (.no) (initSt [.cl .sh tCallResult_ a, .cl .sh (.int .i64) k]) (kfin tb laws_heldCallResult.hn Go.Proofs.Try.f131 [.sh, .sh]) =
    (laws_heldCallResult a k).map laws_heldCallResult.out := by
  simp only [laws_heldCallResult, cond_map, bind_map, sel_map, Option.map_some, Option.map_none]
  kernel_rfl
def laws_heldCallResult.pts : List PT := [.cl .sh tCallResult_, .cl .sh (.int .i64)]
noncomputable def laws_heldCallResult.FS : FS := mkFS [.sh, .sh] laws_heldCallResult.pts (fun x => laws_heldCallResult x.1 x.2.1) laws_heldCallResult.out
theorem laws_heldCallResult.ok : FsOk Go.Proofs.Try.prog 131 laws_heldCallResult.FS :=
  fs_ok (fn := Go.Proofs.Try.f131) tbok (by kernel_rfl) (body_some (by kernel_rfl)) (by kernel_rfl) (pts := laws_heldCallResult.pts) (ev_sound (nt := 24) (np := 2) (hn := laws_heldCallResult.hn) (G := laws_heldCallResult.G) (L := laws_heldCallResult.L) tbok laws_heldCallResult.Gok hmix _ (.no) (hok_of (l := []) (by kernel_rfl) trivial)) rfl rfl
    fun x => laws_heldCallResult.eq x.1 x.2.1
noncomputable def laws_heldInt64SS_l0.B (a : List (List Int)) (k_ : Int) (i_ : Int) : Option ((Int × Int) ⊕ (((Int) ⊕ (Int)))) :=
  cond (decide (i_ < (a.length : Int))) (cond (inB i_ a.length) ((laws_heldInt64S (a.getD i_.toNat []) k_).bind fun r => cond (decide (r < 0)) (some (.inr (.inl (-1)))) (some (.inl (r, w64 (i_ + 1))))) (none)) (some (.inr (.inr k_)))
noncomputable def laws_heldInt64SS_l0 (a : List (List Int)) : (Int × Int) → Option (((Int) ⊕ (Int))) :=
  loopL fun s => laws_heldInt64SS_l0.B a s.1 s.2
noncomputable def laws_heldInt64SS (a : List (List Int)) (k : Int) : Option (Int) :=
  (laws_heldInt64SS_l0 a (k, 0)).bind fun o => sel o (fun b => some b) (fun c => some c)
noncomputable def laws_heldInt64SS.G : Gam := mkG [(147, laws_heldInt64S.FS)]
theorem laws_heldInt64SS.Gok : GOk Go.Proofs.Try.prog laws_heldInt64SS.G := GOk.cons (laws_heldInt64S.ok) (GOk.nil)
def laws_heldInt64SS.hn : Hint := ⟨[], [], [], 0⟩
noncomputable def laws_heldInt64SS_l0.wit (a : List (List Int)) (o : ((Int) ⊕ (Int))) : Ex × St := sel o (fun b => (.rt, ⟨[(4, .cl .sh (.int .i64) b)], []⟩)) (fun c => (.ex 0, ⟨[(1, .cl .sh (.int .i64) c)], []⟩))
theorem laws_heldInt64SS_l0.eq (a : List (List Int)) (k_ : Int) (i_ : Int) : ev tb laws_heldInt64SS.hn 21 2 laws_heldInt64SS.G (mkL []) (codeAt (bodyOf Go.Proofs.Try.f139) [1, 0, 1, 0, 0]) (.no) ⟨[(0, .cl .sh (.sl (.sl (.int .i64))) a), (1, .cl .sh (.int .i64) k_), (5, .cl .sh (.int .i64) i_)], []⟩ (kLp (([0, 1, 5], [])) [(0, ([1], []))] ([4], [])) =
    (laws_heldInt64SS_l0.B a k_ i_).map (fun o => sel o (fun s => .inl ⟨[(0, .cl .sh (.sl (.sl (.int .i64))) a), (1, .cl .sh (.int .i64) s.1), (5, .cl .sh (.int .i64) s.2)], []⟩) (fun o => .inr (laws_heldInt64SS_l0.wit a o))) := by
  simp only [laws_heldInt64SS_l0.B, cond_map, bind_map, sel_map, Option.map_some, Option.map_none]
  kernel_rfl
def laws_heldInt64SS_l0.sp : SP := ⟨[(0, .cl .sh (.sl (.sl (.int .i64)))), (1, .cl .sh (.int .i64)), (5, .cl .sh (.int .i64))], []⟩
noncomputable def laws_heldInt64SS_l0.out (a : List (List Int)) : FOut (((Int) ⊕ (Int))) := fun o _ k => sel o (fun b => k (.rt) ⟨[(4, .cl .sh (.int .i64) b)], []⟩) (fun c => k (.ex 0) ⟨[(1, .cl .sh (.int .i64) c)], []⟩)
theorem laws_heldInt64SS_l0.outEq (a : List (List Int)) (o : ((Int) ⊕ (Int))) (R : Type) (k : Ex → St → Option R) : laws_heldInt64SS_l0.out a o R k = k (laws_heldInt64SS_l0.wit a o).1 (laws_heldInt64SS_l0.wit a o).2 := by
  rcases o with o | o <;> rfl
noncomputable def laws_heldInt64SS_l0.F (x : laws_heldInt64SS_l0.sp.El) (R : Type) (k : Ex → St → Option R) : Option R := (laws_heldInt64SS_l0 x.1.1 (x.1.2.1, x.1.2.2.1)).bind fun t => laws_heldInt64SS_l0.out x.1.1 t R k
noncomputable def laws_heldInt64SS_l0.fr : St → ∀ R : Type, (Ex → St → Option R) → Option R := mkFrag laws_heldInt64SS_l0.sp laws_heldInt64SS_l0.F
theorem laws_heldInt64SS_l0.ok : CodeOk Go.Proofs.Try.prog 21 2 (.loop (codeAt (bodyOf Go.Proofs.Try.f139) [1, 0, 1, 0, 0])) laws_heldInt64SS_l0.fr :=
  loop_sound (sp := laws_heldInt64SS_l0.sp) rfl (F := laws_heldInt64SS_l0.F) (ev_sound (hn := laws_heldInt64SS.hn) (G := laws_heldInt64SS.G) (L := mkL []) tbok laws_heldInt64SS.Gok hmix _ (.no) (hok_of (l := []) (by kernel_rfl) trivial)) 
    fun x => ⟨_, _, fun s => laws_heldInt64SS_l0.B x.1.1 s.1 s.2, fun s => ⟨[(0, .cl .sh (.sl (.sl (.int .i64))) x.1.1), (1, .cl .sh (.int .i64) s.1), (5, .cl .sh (.int .i64) s.2)], []⟩, laws_heldInt64SS_l0.wit x.1.1, (x.1.2.1, x.1.2.2.1), rfl, fun s => laws_heldInt64SS_l0.eq x.1.1 s.1 s.2, fun R k => congrArg (fun g => (laws_heldInt64SS_l0 x.1.1 (x.1.2.1, x.1.2.2.1)).bind g) (funext fun t => laws_heldInt64SS_l0.outEq x.1.1 t R k)⟩
noncomputable def laws_heldInt64SS.L : Lam := mkL [(0, laws_heldInt64SS_l0.fr)]
def laws_heldInt64SS.out (t : Int) : Out := ⟨[.cl .sh (.int .i64) t], []⟩
theorem laws_heldInt64SS.eq (a : List (List Int)) (k : Int) : ev tb laws_heldInt64SS.hn 21 2 laws_heldInt64SS.G laws_heldInt64SS.L (bodyOf Go.Proofs.Try.f139) (.two (.no) (.two (.two (.no) (.one (.fr 0))) (.no))) (initSt [.cl .sh (.sl (.sl (.int .i64))) a, .cl .sh (.int .i64) k]) (kfin tb laws_heldInt64SS.hn Go.Proofs.Try.f139 [.sh, .sh]) =
    (laws_heldInt64SS a k).map laws_heldInt64SS.out := by
  simp only [laws_heldInt64SS, cond_map, bind_map, sel_map, Option.map_some, Option.map_none]
  kernel_rfl
def laws_heldInt64SS.pts : List PT := [.cl .sh (.sl (.sl (.int .i64))), .cl .sh (.int .i64)]
noncomputable def laws_heldInt64SS.FS : FS := mkFS [.sh, .sh] laws_heldInt64SS.pts (fun x => laws_heldInt64SS x.1 x.2.1) laws_heldInt64SS.out
theorem laws_heldInt64SS.ok : FsOk Go.Proofs.Try.prog 139 laws_heldInt64SS.FS :=
  fs_ok (fn := Go.Proofs.Try.f139) tbok (by kernel_rfl) (body_some (by kernel_rfl)) (by kernel_rfl) (pts := laws_heldInt64SS.pts) (ev_sound (nt := 21) (np := 2) (hn := laws_heldInt64SS.hn) (G := laws_heldInt64SS.G) (L := laws_heldInt64SS.L) tbok laws_heldInt64SS.Gok hmix _ (.two (.no) (.two (.two (.no) (.one (.fr 0))) (.no))) (hok_of (l := [(0, .loop (codeAt (bodyOf Go.Proofs.Try.f139) [1, 0, 1, 0, 0]))]) (by kernel_rfl) ⟨Lam.cons laws_heldInt64SS_l0.ok, trivial⟩)) rfl rfl
    fun x => laws_heldInt64SS.eq x.1 x.2.1
noncomputable def laws_heldPutS_l0.B (a : List Put_) (k_ : Int) (i_ : Int) : Option ((Int × Int) ⊕ (((Int) ⊕ (Int)))) :=
  cond (decide (i_ < (a.length : Int))) (cond (inB i_ a.length) (cond (((a.getD i_.toNat zPut_).1) != k_) (some (.inr (.inl (-1)))) (cond (inB i_ a.length) ((laws_heldInt64S (((a.getD i_.toNat zPut_).2).1) (w64 (k_ + 1))).bind fun r => cond (decide (r < 0)) (some (.inr (.inl (-1)))) (some (.inl (r, w64 (i_ + 1))))) (none))) (none)) (some (.inr (.inr k_)))
noncomputable def laws_heldPutS_l0 (a : List Put_) : (Int × Int) → Option (((Int) ⊕ (Int))) :=
  loopL fun s => laws_heldPutS_l0.B a s.1 s.2
noncomputable def laws_heldPutS (a : List Put_) (k : Int) : Option (Int) :=
  (laws_heldPutS_l0 a (k, 0)).bind fun o => sel o (fun b => some b) (fun c => some c)
noncomputable def laws_heldPutS.G : Gam := mkG [(147, laws_heldInt64S.FS)]
theorem laws_heldPutS.Gok : GOk Go.Proofs.Try.prog laws_heldPutS.G := GOk.cons (laws_heldInt64S.ok) (GOk.nil)
def laws_heldPutS.hn : Hint := ⟨[], [], [], 0⟩
noncomputable def laws_heldPutS_l0.wit (a : List Put_) (o : ((Int) ⊕ (Int))) : Ex × St := sel o (fun b => (.rt, ⟨[(4, .cl .sh (.int .i64) b)], []⟩)) (fun c => (.ex 0, ⟨[(1, .cl .sh (.int .i64) c)], []⟩))
theorem laws_heldPutS_l0.eq (a : List Put_) (k_ : Int) (i_ : Int) : ev tb laws_heldPutS.hn 31 2 laws_heldPutS.G (mkL []) (codeAt (bodyOf Go.Proofs.Try.f115) [1, 0, 1, 0, 0]) (.no) ⟨[(0, .cl .sh (.sl tPut_) a), (1, .cl .sh (.int .i64) k_), (5, .cl .sh (.int .i64) i_)], []⟩ (kLp (([0, 1, 5], [])) [(0, ([1], []))] ([4], [])) =
    (laws_heldPutS_l0.B a k_ i_).map (fun o => sel o (fun s => .inl ⟨[(0, .cl .sh (.sl tPut_) a), (1, .cl .sh (.int .i64) s.1), (5, .cl .sh (.int .i64) s.2)], []⟩) (fun o => .inr (laws_heldPutS_l0.wit a o))) := by
  simp only [laws_heldPutS_l0.B, cond_map, bind_map, sel_map, Option.map_some, Option.map_none]
  kernel_rfl
def laws_heldPutS_l0.sp : SP := ⟨[(0, .cl .sh (.sl tPut_)), (1, .cl .sh (.int .i64)), (5, .cl .sh (.int .i64))], []⟩
noncomputable def laws_heldPutS_l0.out (a : List Put_) : FOut (((Int) ⊕ (Int))) := fun o _ k => sel o (fun b => k (.rt) ⟨[(4, .cl .sh (.int .i64) b)], []⟩) (fun c => k (.ex 0) ⟨[(1, .cl .sh (.int .i64) c)], []⟩)
theorem laws_heldPutS_l0.outEq (a : List Put_) (o : ((Int) ⊕ (Int))) (R : Type) (k : Ex → St → Option R) : laws_heldPutS_l0.out a o R k = k (laws_heldPutS_l0.wit a o).1 (laws_heldPutS_l0.wit a o).2 := by
  rcases o with o | o <;> rfl
noncomputable def laws_heldPutS_l0.F (x : laws_heldPutS_l0.sp.El) (R : Type) (k : Ex → St → Option R) : Option R := (laws_heldPutS_l0 x.1.1 (x.1.2.1, x.1.2.2.1)).bind fun t => laws_heldPutS_l0.out x.1.1 t R k
noncomputable def laws_heldPutS_l0.fr : St → ∀ R : Type, (Ex → St → Option R) → Option R := mkFrag laws_heldPutS_l0.sp laws_heldPutS_l0.F
theorem laws_heldPutS_l0.ok : CodeOk Go.Proofs.Try.prog 31 2 (.loop (codeAt (bodyOf Go.Proofs.Try.f115) [1, 0, 1, 0, 0])) laws_heldPutS_l0.fr :=
  loop_sound (sp := laws_heldPutS_l0.sp) rfl (F := laws_heldPutS_l0.F) (ev_sound (hn := laws_heldPutS.hn) (G := laws_heldPutS.G) (L := mkL []) tbok laws_heldPutS.Gok hmix _ (.no) (hok_of (l := []) (by kernel_rfl) trivial)) 
    fun x => ⟨_, _, fun s => laws_heldPutS_l0.B x.1.1 s.1 s.2, fun s => ⟨[(0, .cl .sh (.sl tPut_) x.1.1), (1, .cl .sh (.int .i64) s.1), (5, .cl .sh (.int .i64) s.2)], []⟩, laws_heldPutS_l0.wit x.1.1, (x.1.2.1, x.1.2.2.1), rfl, fun s => laws_heldPutS_l0.eq x.1.1 s.1 s.2, fun R k => congrArg (fun g => (laws_heldPutS_l0 x.1.1 (x.1.2.1, x.1.2.2.1)).bind g) (funext fun t => laws_heldPutS_l0.outEq x.1.1 t R k)⟩
noncomputable def laws_heldPutS.L : Lam := mkL [(0, laws_heldPutS_l0.fr)]
def laws_heldPutS.out (t : Int) : Out := ⟨[.cl .sh (.int .i64) t], []⟩
theorem laws_heldPutS.eq (a : List Put_) (k : Int) : ev tb laws_heldPutS.hn 31 2 laws_heldPutS.G laws_heldPutS.L (bodyOf Go.Proofs.Try.f115) (.two (.no) (.two (.two (.no) (.one (.fr 0))) (.no))) (initSt [.cl .sh (.sl tPut_) a, .cl .sh (.int .i64) k]) (kfin tb laws_heldPutS.hn Go.Proofs.Try.f115 [.sh, .sh]) =
    (laws_heldPutS a k).map laws_heldPutS.out := by
  simp only [laws_heldPutS, cond_map, bind_map, sel_map, Option.map_some, Option.map_none]
  kernel_rfl
def laws_heldPutS.pts : List PT := [.cl .sh (.sl tPut_), .cl .sh (.int .i64)]
noncomputable def laws_heldPutS.FS : FS := mkFS [.sh, .sh] laws_heldPutS.pts (fun x => laws_heldPutS x.1 x.2.1) laws_heldPutS.out
theorem laws_heldPutS.ok : FsOk Go.Proofs.Try.prog 115 laws_heldPutS.FS :=
  fs_ok (fn := Go.Proofs.Try.f115) tbok (by kernel_rfl) (body_some (by kernel_rfl)) (by kernel_rfl) (pts := laws_heldPutS.pts) (ev_sound (nt := 31) (np := 2) (hn := laws_heldPutS.hn) (G := laws_heldPutS.G) (L := laws_heldPutS.L) tbok laws_heldPutS.Gok hmix _ (.two (.no) (.two (.two (.no) (.one (.fr 0))) (.no))) (hok_of (l := [(0, .loop (codeAt (bodyOf Go.Proofs.Try.f115) [1, 0, 1, 0, 0]))]) (by kernel_rfl) ⟨Lam.cons laws_heldPutS_l0.ok, trivial⟩)) rfl rfl
    fun x => laws_heldPutS.eq x.1 x.2.1
noncomputable def laws_heldDisk (a : Disk_) (k : Int) : Option (Int) :=
  (laws_heldInt64SS a.1 k).bind fun r => cond (decide (r < 0)) (some (-1)) ((laws_heldPutS a.2.1 r).bind fun r2 => cond (decide (r2 < 0)) (some (-1)) (some r2))
noncomputable def laws_heldDisk.G : Gam := mkG [(139, laws_heldInt64SS.FS), (115, laws_heldPutS.FS)]
theorem laws_heldDisk.Gok : GOk Go.Proofs.Try.prog laws_heldDisk.G := GOk.cons (laws_heldInt64SS.ok) (GOk.cons (laws_heldPutS.ok) (GOk.nil))
def laws_heldDisk.hn : Hint := ⟨[2], [], [], 0⟩
noncomputable def laws_heldDisk.L : Lam := mkL []
def laws_heldDisk.out (t : Int) : Out := ⟨[.cl .sh (.int .i64) t], []⟩
theorem laws_heldDisk.eq (a : Disk_) (k : Int) : ev tb laws_heldDisk.hn 18 2 laws_heldDisk.G laws_heldDisk.L (bodyOf Go.Proofs.Try.f89) (.no) (initSt [.cl .sh tDisk_ a, .cl .sh (.int .i64) k]) (kfin tb laws_heldDisk.hn Go.Proofs.Try.f89 [.sh, .sh]) =
    (laws_heldDisk a k).map laws_heldDisk.out := by
  simp only [laws_heldDisk, cond_map, bind_map, sel_map, Option.map_some, Option.map_none]
  kernel_rfl
def laws_heldDisk.pts : List PT := [.cl .sh tDisk_, .cl .sh (.int .i64)]
noncomputable def laws_heldDisk.FS : FS := mkFS [.sh, .sh] laws_heldDisk.pts (fun x => laws_heldDisk x.1 x.2.1) laws_heldDisk.out
theorem laws_heldDisk.ok : FsOk Go.Proofs.Try.prog 89 laws_heldDisk.FS :=
  fs_ok (fn := Go.Proofs.Try.f89) tbok (by kernel_rfl) (body_some (by kernel_rfl)) (by kernel_rfl) (pts := laws_heldDisk.pts) (ev_sound (nt := 18) (np := 2) (hn := laws_heldDisk.hn) (G := laws_heldDisk.G) (L := laws_heldDisk.L) tbok laws_heldDisk.Gok hmix _ (.no) (hok_of (l := []) (by kernel_rfl) trivial)) rfl rfl
    fun x => laws_heldDisk.eq x.1 x.2.1
noncomputable def laws_heldWorld (a : World_) (k : Int) : Option (Int) :=
  (laws_heldDisk a.1 k).bind fun r => cond (decide (r < 0)) (some (-1)) ((laws_heldFs a.2.1 r).bind fun r2 => cond (decide (r2 < 0)) (some (-1)) ((laws_heldFs a.2.2.1 r2).bind fun r3 => cond (decide (r3 < 0)) (some (-1)) (some r3)))
noncomputable def laws_heldWorld.G : Gam := mkG [(89, laws_heldDisk.FS), (166, laws_heldFs.FS)]
theorem laws_heldWorld.Gok : GOk Go.Proofs.Try.prog laws_heldWorld.G := GOk.cons (laws_heldDisk.ok) (GOk.cons (laws_heldFs.ok) (GOk.nil))
def laws_heldWorld.hn : Hint := ⟨[2], [], [], 0⟩
noncomputable def laws_heldWorld.L : Lam := mkL []
def laws_heldWorld.out (t : Int) : Out := ⟨[.cl .sh (.int .i64) t], []⟩
theorem laws_heldWorld.eq (a : World_) (k : Int) : ev tb laws_heldWorld.hn 24 2 laws_heldWorld.G laws_heldWorld.L (bodyOf Go.Proofs.Try.f132) (.no) (initSt [.cl .sh tWorld_ a, .cl .sh (.int .i64) k]) (kfin tb laws_heldWorld.hn Go.Proofs.Try.f132 [.sh, .sh]) =
    (laws_heldWorld a k).map laws_heldWorld.out := by
  simp only [laws_heldWorld, cond_map, bind_map, sel_map, Option.map_some, Option.map_none]
  kernel_rfl
def laws_heldWorld.pts : List PT := [.cl .sh tWorld_, .cl .sh (.int .i64)]
noncomputable def laws_heldWorld.FS : FS := mkFS [.sh, .sh] laws_heldWorld.pts (fun x => laws_heldWorld x.1 x.2.1) laws_heldWorld.out
theorem laws_heldWorld.ok : FsOk Go.Proofs.Try.prog 132 laws_heldWorld.FS :=
  fs_ok (fn := Go.Proofs.Try.f132) tbok (by kernel_rfl) (body_some (by kernel_rfl)) (by kernel_rfl) (pts := laws_heldWorld.pts) (ev_sound (nt := 24) (np := 2) (hn := laws_heldWorld.hn) (G := laws_heldWorld.G) (L := laws_heldWorld.L) tbok laws_heldWorld.Gok hmix _ (.no) (hok_of (l := []) (by kernel_rfl) trivial)) rfl rfl
    fun x => laws_heldWorld.eq x.1 x.2.1
noncomputable def laws_heldWorldResult (a : WorldResult_) (k : Int) : Option (Int) :=
  (laws_heldCallResult a.2.1 k).bind fun r => cond (decide (r < 0)) (some (-1)) ((laws_heldWorld a.2.2.1 r).bind fun r2 => cond (decide (r2 < 0)) (some (-1)) (some r2))
noncomputable def laws_heldWorldResult.G : Gam := mkG [(131, laws_heldCallResult.FS), (132, laws_heldWorld.FS)]
theorem laws_heldWorldResult.Gok : GOk Go.Proofs.Try.prog laws_heldWorldResult.G := GOk.cons (laws_heldCallResult.ok) (GOk.cons (laws_heldWorld.ok) (GOk.nil))
def laws_heldWorldResult.hn : Hint := ⟨[2], [], [], 0⟩
noncomputable def laws_heldWorldResult.L : Lam := mkL []
def laws_heldWorldResult.out (t : Int) : Out := ⟨[.cl .sh (.int .i64) t], []⟩
theorem laws_heldWorldResult.eq (a : WorldResult_) (k : Int) : ev tb laws_heldWorldResult.hn 18 2 laws_heldWorldResult.G laws_heldWorldResult.L (bodyOf Go.Proofs.Try.f67) (.no) (initSt [.cl .sh tWorldResult_ a, .cl .sh (.int .i64) k]) (kfin tb laws_heldWorldResult.hn Go.Proofs.Try.f67 [.sh, .sh]) =
    (laws_heldWorldResult a k).map laws_heldWorldResult.out := by
  simp only [laws_heldWorldResult, cond_map, bind_map, sel_map, Option.map_some, Option.map_none]
  kernel_rfl
def laws_heldWorldResult.pts : List PT := [.cl .sh tWorldResult_, .cl .sh (.int .i64)]
noncomputable def laws_heldWorldResult.FS : FS := mkFS [.sh, .sh] laws_heldWorldResult.pts (fun x => laws_heldWorldResult x.1 x.2.1) laws_heldWorldResult.out
theorem laws_heldWorldResult.ok : FsOk Go.Proofs.Try.prog 67 laws_heldWorldResult.FS :=
  fs_ok (fn := Go.Proofs.Try.f67) tbok (by kernel_rfl) (body_some (by kernel_rfl)) (by kernel_rfl) (pts := laws_heldWorldResult.pts) (ev_sound (nt := 18) (np := 2) (hn := laws_heldWorldResult.hn) (G := laws_heldWorldResult.G) (L := laws_heldWorldResult.L) tbok laws_heldWorldResult.Gok hmix _ (.no) (hok_of (l := []) (by kernel_rfl) trivial)) rfl rfl
    fun x => laws_heldWorldResult.eq x.1 x.2.1
noncomputable def laws_FnExactNewWorld (aSeq : Int) : Option (Bool) :=
  (spec_NewWorld aSeq).bind fun r => (impl_NewWorld aSeq).bind fun r2 => (laws_eqWorldResult (r2.1, (r2.2.1.1, r2.2.1.2.1, r2.2.1.2.2.1, r2.2.1.2.2.2.1, r2.2.1.2.2.2.2.1, (r2.2.1.2.2.2.2.2.1.1, r2.2.1.2.2.2.2.2.1.2.1, r2.2.1.2.2.2.2.2.1.2.2), r2.2.1.2.2.2.2.2.2), ((r2.2.2.1.1.1, r2.2.2.1.1.2.1, r2.2.2.1.1.2.2), (r2.2.2.1.2.1.1, r2.2.2.1.2.1.2.1, r2.2.2.1.2.1.2.2), (r2.2.2.1.2.2.1.1, r2.2.2.1.2.2.1.2.1, r2.2.2.1.2.2.1.2.2), r2.2.2.1.2.2.2), r2.2.2.2) (r.1, (r.2.1.1, r.2.1.2.1, r.2.1.2.2.1, r.2.1.2.2.2.1, r.2.1.2.2.2.2.1, (r.2.1.2.2.2.2.2.1.1, r.2.1.2.2.2.2.2.1.2.1, r.2.1.2.2.2.2.2.1.2.2), r.2.1.2.2.2.2.2.2), ((r.2.2.1.1.1, r.2.2.1.1.2.1, r.2.2.1.1.2.2), (r.2.2.1.2.1.1, r.2.2.1.2.1.2.1, r.2.2.1.2.1.2.2), (r.2.2.1.2.2.1.1, r.2.2.1.2.2.1.2.1, r.2.2.1.2.2.1.2.2), r.2.2.1.2.2.2), r.2.2.2)).bind fun r3 => cond (!r3) (some false) ((laws_markWorldResult (r2.1, (r2.2.1.1, r2.2.1.2.1, r2.2.1.2.2.1, r2.2.1.2.2.2.1, r2.2.1.2.2.2.2.1, (r2.2.1.2.2.2.2.2.1.1, r2.2.1.2.2.2.2.2.1.2.1, r2.2.1.2.2.2.2.2.1.2.2), r2.2.1.2.2.2.2.2.2), ((r2.2.2.1.1.1, r2.2.2.1.1.2.1, r2.2.2.1.1.2.2), (r2.2.2.1.2.1.1, r2.2.2.1.2.1.2.1, r2.2.2.1.2.1.2.2), (r2.2.2.1.2.2.1.1, r2.2.2.1.2.2.1.2.1, r2.2.2.1.2.2.1.2.2), r2.2.2.1.2.2.2), r2.2.2.2) 1).bind fun r4 => (laws_heldWorldResult (r2.1, (r2.2.1.1, r2.2.1.2.1, r2.2.1.2.2.1, r4.2.2.1.2.2.2.1, r4.2.2.1.2.2.2.2.1, (r4.2.2.1.2.2.2.2.2.1.1, r4.2.2.1.2.2.2.2.2.1.2.1, r2.2.1.2.2.2.2.2.1.2.2), r2.2.1.2.2.2.2.2.2), ((r4.2.2.2.1.1.1, r4.2.2.2.1.1.2.1, r2.2.2.1.1.2.2), (r4.2.2.2.1.2.1.1, r4.2.2.2.1.2.1.2.1, r2.2.2.1.2.1.2.2), (r4.2.2.2.1.2.2.1.1, r4.2.2.2.1.2.2.1.2.1, r2.2.2.1.2.2.1.2.2), r2.2.2.1.2.2.2), r2.2.2.2) 1).bind fun r5 => cond (decide (r5 < 0)) (some false) (cond (r5 != r4.1) (some false) ((impl_NewWorld aSeq).bind fun r6 => (laws_eqWorldResult (r6.1, (r6.2.1.1, r6.2.1.2.1, r6.2.1.2.2.1, r6.2.1.2.2.2.1, r6.2.1.2.2.2.2.1, (r6.2.1.2.2.2.2.2.1.1, r6.2.1.2.2.2.2.2.1.2.1, r6.2.1.2.2.2.2.2.1.2.2), r6.2.1.2.2.2.2.2.2), ((r6.2.2.1.1.1, r6.2.2.1.1.2.1, r6.2.2.1.1.2.2), (r6.2.2.1.2.1.1, r6.2.2.1.2.1.2.1, r6.2.2.1.2.1.2.2), (r6.2.2.1.2.2.1.1, r6.2.2.1.2.2.1.2.1, r6.2.2.1.2.2.1.2.2), r6.2.2.1.2.2.2), r6.2.2.2) (r.1, (r.2.1.1, r.2.1.2.1, r.2.1.2.2.1, r.2.1.2.2.2.1, r.2.1.2.2.2.2.1, (r.2.1.2.2.2.2.2.1.1, r.2.1.2.2.2.2.2.1.2.1, r.2.1.2.2.2.2.2.1.2.2), r.2.1.2.2.2.2.2.2), ((r.2.2.1.1.1, r.2.2.1.1.2.1, r.2.2.1.1.2.2), (r.2.2.1.2.1.1, r.2.2.1.2.1.2.1, r.2.2.1.2.1.2.2), (r.2.2.1.2.2.1.1, r.2.2.1.2.2.1.2.1, r.2.2.1.2.2.1.2.2), r.2.2.1.2.2.2), r.2.2.2)).bind fun r7 => cond (!r7) (some false) ((laws_heldWorldResult (r2.1, (r2.2.1.1, r2.2.1.2.1, r2.2.1.2.2.1, r4.2.2.1.2.2.2.1, r4.2.2.1.2.2.2.2.1, (r4.2.2.1.2.2.2.2.2.1.1, r4.2.2.1.2.2.2.2.2.1.2.1, r2.2.1.2.2.2.2.2.1.2.2), r2.2.1.2.2.2.2.2.2), ((r4.2.2.2.1.1.1, r4.2.2.2.1.1.2.1, r2.2.2.1.1.2.2), (r4.2.2.2.1.2.1.1, r4.2.2.2.1.2.1.2.1, r2.2.2.1.2.1.2.2), (r4.2.2.2.1.2.2.1.1, r4.2.2.2.1.2.2.1.2.1, r2.2.2.1.2.2.1.2.2), r2.2.2.1.2.2.2), r2.2.2.2) 1).bind fun r8 => cond (decide (r8 < 0)) (some false) (cond (r8 != r4.1) (some false) (some true))))))
noncomputable def laws_FnExactNewWorld.G : Gam := mkG [(63, spec_NewWorld.FS), (64, impl_NewWorld.FS), (65, laws_eqWorldResult.FS), (66, laws_markWorldResult.FS), (67, laws_heldWorldResult.FS)]
theorem laws_FnExactNewWorld.Gok : GOk Go.Proofs.Try.prog laws_FnExactNewWorld.G := GOk.cons (spec_NewWorld.ok) (GOk.cons (impl_NewWorld.ok) (GOk.cons (laws_eqWorldResult.ok) (GOk.cons (laws_markWorldResult.ok) (GOk.cons (laws_heldWorldResult.ok) (GOk.nil)))))
def laws_FnExactNewWorld.hn : Hint := ⟨[], [], [], 0⟩
noncomputable def laws_FnExactNewWorld.L : Lam := mkL []
def laws_FnExactNewWorld.out (t : Bool) : Out := ⟨[.cl .sh .bool t], []⟩
theorem laws_FnExactNewWorld.eq (aSeq : Int) : ev tb laws_FnExactNewWorld.hn 41 1 laws_FnExactNewWorld.G laws_FnExactNewWorld.L (bodyOf Go.Proofs.Try.f12) (.no) (initSt [.cl .sh (.int .i64) aSeq]) (kfin tb laws_FnExactNewWorld.hn Go.Proofs.Try.f12 [.sh]) =
    (laws_FnExactNewWorld aSeq).map laws_FnExactNewWorld.out := by
  simp only [laws_FnExactNewWorld, cond_map, bind_map, sel_map, Option.map_some, Option.map_none]
  kernel_rfl
def laws_FnExactNewWorld.pts : List PT := [.cl .sh (.int .i64)]
noncomputable def laws_FnExactNewWorld.FS : FS := mkFS [.sh] laws_FnExactNewWorld.pts (fun x => laws_FnExactNewWorld x.1) laws_FnExactNewWorld.out
theorem laws_FnExactNewWorld.ok : FsOk Go.Proofs.Try.prog 12 laws_FnExactNewWorld.FS :=
  fs_ok (fn := Go.Proofs.Try.f12) tbok (by kernel_rfl) (body_some (by kernel_rfl)) (by kernel_rfl) (pts := laws_FnExactNewWorld.pts) (ev_sound (nt := 41) (np := 1) (hn := laws_FnExactNewWorld.hn) (G := laws_FnExactNewWorld.G) (L := laws_FnExactNewWorld.L) tbok laws_FnExactNewWorld.Gok hmix _ (.no) (hok_of (l := []) (by kernel_rfl) trivial)) rfl rfl
    fun x => laws_FnExactNewWorld.eq x.1
end Mf
