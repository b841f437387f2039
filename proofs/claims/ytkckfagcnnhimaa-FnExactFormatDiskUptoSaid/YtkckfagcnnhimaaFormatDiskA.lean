/- The functions that FnExactFormatDisk reaches: what each computes, and that it does. -/
import Derived.Test.YtkckfagcnnhimaaMf6
import Derived.Test.YtkckfagcnnhimaaProg
import Derived.KernelRfl
namespace Mf
open Go
set_option linter.unusedVariables false
set_option linter.unusedSimpArgs false
set_option maxRecDepth 100000
abbrev tPut_ : Ty := (.pair (.int .i64) (.pair (.sl (.int .i64)) .unit))
abbrev Put_ : Type := Int × (List Int) × Unit
def zPut_ : Put_ := (0, [], ())
abbrev tDisk_ : Ty := (.pair (.sl (.sl (.int .i64))) (.pair (.sl tPut_) .unit))
abbrev Disk_ : Type := (List (List Int)) × (List Put_) × Unit
def zDisk_ : Disk_ := ([], [], ())
abbrev tStep_ : Ty := (.pair .bool tPut_)
abbrev Step_ : Type := Bool × Put_
def zStep_ : Step_ := (false, 0, [], ())
abbrev tEntry_ : Ty := (.pair .str (.pair (.int .i64) .unit))
abbrev Entry_ : Type := (List UInt8) × Int × Unit
def zEntry_ : Entry_ := ([], 0, ())
abbrev tInode_ : Ty := (.pair (.int .i64) (.pair (.int .i64) (.pair (.int .i64) (.pair (.sl (.int .i64)) (.pair (.sl tEntry_) .unit)))))
abbrev Inode_ : Type := Int × Int × Int × (List Int) × (List Entry_) × Unit
def zInode_ : Inode_ := (0, 0, 0, [], [], ())
abbrev tFs_ : Ty := (.pair (.sl tInode_) (.pair (.sl (.sl (.int .u8))) .unit))
abbrev Fs_ : Type := (List Inode_) × (List (List Int)) × Unit
def zFs_ : Fs_ := ([], [], ())
abbrev tWorld_ : Ty := (.pair tDisk_ (.pair tFs_ (.pair tFs_ .unit)))
abbrev World_ : Type := Disk_ × Fs_ × Fs_ × Unit
def zWorld_ : World_ := (([], [], ()), ([], [], ()), ([], [], ()), ())
abbrev tCall_ : Ty := (.pair (.int .i64) (.pair .str (.pair .str (.pair (.int .i64) (.pair (.int .i64) (.pair (.sl (.int .u8)) .unit))))))
abbrev Call_ : Type := Int × (List UInt8) × (List UInt8) × Int × Int × (List Int) × Unit
def zCall_ : Call_ := (0, [], [], 0, 0, [], ())
abbrev tCallResult_ : Ty := (.pair (.int .i64) (.pair (.int .i64) (.pair (.int .i64) (.pair (.sl (.int .u8)) (.pair (.sl .str) (.pair tFs_ .unit))))))
abbrev CallResult_ : Type := Int × Int × Int × (List Int) × (List (List UInt8)) × Fs_ × Unit
def zCallResult_ : CallResult_ := (0, 0, 0, [], [], ([], [], ()), ())
abbrev tDiskResult_ : Ty := (.pair (.int .i64) (.pair tDisk_ .unit))
abbrev DiskResult_ : Type := Int × Disk_ × Unit
def zDiskResult_ : DiskResult_ := (0, ([], [], ()), ())
abbrev tIntResult_ : Ty := (.pair (.int .i64) (.pair (.int .i64) .unit))
abbrev IntResult_ : Type := Int × Int × Unit
def zIntResult_ : IntResult_ := (0, 0, ())
abbrev tPutsResult_ : Ty := (.pair (.int .i64) (.pair (.sl tPut_) .unit))
abbrev PutsResult_ : Type := Int × (List Put_) × Unit
def zPutsResult_ : PutsResult_ := (0, [], ())
abbrev tStepsResult_ : Ty := (.pair (.int .i64) (.pair (.sl tStep_) .unit))
abbrev StepsResult_ : Type := Int × (List Step_) × Unit
def zStepsResult_ : StepsResult_ := (0, [], ())
abbrev tTxResult_ : Ty := (.pair (.int .i64) (.pair .bool (.pair (.sl tPut_) .unit)))
abbrev TxResult_ : Type := Int × Bool × (List Put_) × Unit
def zTxResult_ : TxResult_ := (0, false, [], ())
abbrev tWorldResult_ : Ty := (.pair (.int .i64) (.pair tCallResult_ (.pair tWorld_ .unit)))
abbrev WorldResult_ : Type := Int × CallResult_ × World_ × Unit
def zWorldResult_ : WorldResult_ := (0, (0, 0, 0, [], [], ([], [], ()), ()), (([], [], ()), ([], [], ()), ([], [], ()), ()), ())
abbrev tBoundsError_ : Ty := (.pair (.int .i64) (.pair (.int .i64) (.pair .bool (.pair (.int .u8) .unit))))
abbrev BoundsError_ : Type := Int × Int × Bool × Int × Unit
def zBoundsError_ : BoundsError_ := (0, 0, false, 0, ())
abbrev tErrorAddressString_ : Ty := (.pair .str (.pair (.int .u64) .unit))
abbrev ErrorAddressString_ : Type := (List UInt8) × Int × Unit
def zErrorAddressString_ : ErrorAddressString_ := ([], 0, ())
def tb : Tb := [(2, ⟨.int .i64, (.int .i64), 8⟩), (3, ⟨.int .i64, (.int .i64), 8⟩), (4, ⟨.bool, .bool, 1⟩), (5, ⟨.int .u8, (.int .u8), 1⟩), (6, ⟨.int .u8, (.int .u8), 1⟩), (7, ⟨.st [0, 1, 2, 3], tBoundsError_, 24⟩), (8, ⟨.st [0, 1, 2, 3], tBoundsError_, 24⟩), (9, ⟨.str, .str, 16⟩), (10, ⟨.str, .str, 16⟩), (11, ⟨.str, .str, 16⟩), (12, ⟨.int .u64, (.int .u64), 8⟩), (13, ⟨.st [0, 1], tErrorAddressString_, 24⟩), (14, ⟨.st [0, 1], tErrorAddressString_, 24⟩), (21, ⟨.int .i32, (.int .i32), 4⟩), (22, ⟨.sl 5, (.sl (.int .u8)), 24⟩), (23, ⟨.st [0, 1, 2, 3, 4, 5], tCall_, 80⟩), (24, ⟨.st [0, 1, 2, 3, 4, 5], tCall_, 80⟩), (27, ⟨.st [0, 1, 2, 3, 4, 5], tCall_, 80⟩), (31, ⟨.sl 2, (.sl (.int .i64)), 24⟩), (32, ⟨.st [0, 1, 2], tStep_, 40⟩), (33, ⟨.st [0, 1, 2], tStep_, 40⟩), (36, ⟨.st [0, 1, 2], tStep_, 40⟩), (40, ⟨.sl 31, (.sl (.sl (.int .i64))), 24⟩), (41, ⟨.sl 141, (.sl tPut_), 24⟩), (42, ⟨.st [0, 1], tDisk_, 48⟩), (43, ⟨.st [0, 1], tDisk_, 48⟩), (44, ⟨.st [0, 1], tDiskResult_, 56⟩), (45, ⟨.st [0, 1], tDiskResult_, 56⟩), (50, ⟨.sl 33, (.sl tStep_), 24⟩), (52, ⟨.st [0, 1], tIntResult_, 16⟩), (53, ⟨.st [0, 1], tIntResult_, 16⟩), (55, ⟨.sl 36, (.sl tStep_), 24⟩), (60, ⟨.sl 139, (.sl tPut_), 24⟩), (61, ⟨.st [0, 1], tDisk_, 48⟩), (62, ⟨.st [0, 1], tDisk_, 48⟩), (69, ⟨.st [0, 1], tPutsResult_, 32⟩), (70, ⟨.st [0, 1], tPutsResult_, 32⟩), (79, ⟨.st [0, 1, 2], tTxResult_, 40⟩), (80, ⟨.st [0, 1, 2], tTxResult_, 40⟩), (84, ⟨.st [0, 1], tStepsResult_, 32⟩), (85, ⟨.st [0, 1], tStepsResult_, 32⟩), (92, ⟨.sl 9, (.sl .str), 24⟩), (93, ⟨.sl 125, (.sl tInode_), 24⟩), (94, ⟨.sl 22, (.sl (.sl (.int .u8))), 24⟩), (95, ⟨.st [0, 1], tFs_, 48⟩), (96, ⟨.st [0, 1], tFs_, 48⟩), (97, ⟨.st [0, 1, 2, 3, 4, 5], tCallResult_, 120⟩), (98, ⟨.st [0, 1, 2, 3, 4, 5], tCallResult_, 120⟩), (99, ⟨.st [0, 2, 4], tWorld_, 144⟩), (100, ⟨.st [0, 2, 4], tWorld_, 144⟩), (101, ⟨.st [0, 1, 8], tWorldResult_, 272⟩), (102, ⟨.st [0, 1, 8], tWorldResult_, 272⟩), (106, ⟨.sl 4, (.sl .bool), 24⟩), (123, ⟨.sl 167, (.sl tEntry_), 24⟩), (124, ⟨.st [0, 1, 2, 3, 4], tInode_, 72⟩), (125, ⟨.st [0, 1, 2, 3, 4], tInode_, 72⟩), (138, ⟨.st [0, 1], tPut_, 32⟩), (139, ⟨.st [0, 1], tPut_, 32⟩), (141, ⟨.st [0, 1], tPut_, 32⟩), (166, ⟨.st [0, 1], tEntry_, 24⟩), (167, ⟨.st [0, 1], tEntry_, 24⟩), (202, ⟨.int .u32, (.int .u32), 4⟩), (203, ⟨.int .u8, (.int .u8), 1⟩), (204, ⟨.int .u8, (.int .u8), 1⟩), (207, ⟨.int .i32, (.int .i32), 4⟩), (208, ⟨.int .i32, (.int .i32), 4⟩)]
theorem tbok : TbOk Go.Proofs.Try.prog tb := tbB_ok (by kernel_rfl)
theorem hmix : Go.Proofs.Try.prog.follows .mixedOrders = true := by kernel_rfl
noncomputable def spec_l1In (v : Int) (low : Int) (high : Int) : Option (Bool) :=
  (some (cond (decide (v ≥ low)) (decide (v ≤ high)) false)).bind fun v2 => some v2
noncomputable def spec_l1In.G : Gam := mkG []
theorem spec_l1In.Gok : GOk Go.Proofs.Try.prog spec_l1In.G := GOk.nil
def spec_l1In.hn : Hint := ⟨[], [], [], 0⟩
noncomputable def spec_l1In.L : Lam := mkL []
def spec_l1In.out (t : Bool) : Out := ⟨[.cl .sh .bool t], []⟩
theorem spec_l1In.eq (v : Int) (low : Int) (high : Int) : ev tb spec_l1In.hn 15 3 spec_l1In.G spec_l1In.L (bodyOf Go.Proofs.Try.f74) (.no) (initSt [.cl .sh (.int .i64) v, .cl .sh (.int .i64) low, .cl .sh (.int .i64) high]) (kfin tb spec_l1In.hn Go.Proofs.Try.f74 [.sh, .sh, .sh]) =
    (spec_l1In v low high).map spec_l1In.out := by
  simp only [spec_l1In, cond_map, bind_map, sel_map, Option.map_some, Option.map_none]
  kernel_rfl
def spec_l1In.pts : List PT := [.cl .sh (.int .i64), .cl .sh (.int .i64), .cl .sh (.int .i64)]
noncomputable def spec_l1In.FS : FS := mkFS [.sh, .sh, .sh] spec_l1In.pts (fun x => spec_l1In x.1 x.2.1 x.2.2.1) spec_l1In.out
theorem spec_l1In.ok : FsOk Go.Proofs.Try.prog 74 spec_l1In.FS :=
  fs_ok (fn := Go.Proofs.Try.f74) tbok (by kernel_rfl) (body_some (by kernel_rfl)) (by kernel_rfl) (pts := spec_l1In.pts) (ev_sound (nt := 15) (np := 3) (hn := spec_l1In.hn) (G := spec_l1In.G) (L := spec_l1In.L) tbok spec_l1In.Gok hmix _ (.no) (hok_of (l := []) (by kernel_rfl) trivial)) rfl rfl
    fun x => spec_l1In.eq x.1 x.2.1 x.2.2.1
noncomputable def spec_l12Seq (n : Int) : Option (Bool) :=
  (spec_l1In n 1 60000).bind fun r => some r
noncomputable def spec_l12Seq.G : Gam := mkG [(74, spec_l1In.FS)]
theorem spec_l12Seq.Gok : GOk Go.Proofs.Try.prog spec_l12Seq.G := GOk.cons (spec_l1In.ok) (GOk.nil)
def spec_l12Seq.hn : Hint := ⟨[], [], [], 0⟩
noncomputable def spec_l12Seq.L : Lam := mkL []
def spec_l12Seq.out (t : Bool) : Out := ⟨[.cl .sh .bool t], []⟩
theorem spec_l12Seq.eq (n : Int) : ev tb spec_l12Seq.hn 5 1 spec_l12Seq.G spec_l12Seq.L (bodyOf Go.Proofs.Try.f84) (.no) (initSt [.cl .sh (.int .i64) n]) (kfin tb spec_l12Seq.hn Go.Proofs.Try.f84 [.sh]) =
    (spec_l12Seq n).map spec_l12Seq.out := by
  simp only [spec_l12Seq, cond_map, bind_map, sel_map, Option.map_some, Option.map_none]
  kernel_rfl
def spec_l12Seq.pts : List PT := [.cl .sh (.int .i64)]
noncomputable def spec_l12Seq.FS : FS := mkFS [.sh] spec_l12Seq.pts (fun x => spec_l12Seq x.1) spec_l12Seq.out
theorem spec_l12Seq.ok : FsOk Go.Proofs.Try.prog 84 spec_l12Seq.FS :=
  fs_ok (fn := Go.Proofs.Try.f84) tbok (by kernel_rfl) (body_some (by kernel_rfl)) (by kernel_rfl) (pts := spec_l12Seq.pts) (ev_sound (nt := 5) (np := 1) (hn := spec_l12Seq.hn) (G := spec_l12Seq.G) (L := spec_l12Seq.L) tbok spec_l12Seq.Gok hmix _ (.no) (hok_of (l := []) (by kernel_rfl) trivial)) rfl rfl
    fun x => spec_l12Seq.eq x.1
noncomputable def spec_l1New (size : Int) : Option (Disk_) :=
  cond (decide ((0 : Int) ≤ size) && (decide (size ≤ size) && decide (size ≤ 2147483648))) (some (List.replicate size.toNat ([] : List Int), [], ())) (none)
noncomputable def spec_l1New.G : Gam := mkG []
theorem spec_l1New.Gok : GOk Go.Proofs.Try.prog spec_l1New.G := GOk.nil
def spec_l1New.hn : Hint := ⟨[], [], [], 0⟩
noncomputable def spec_l1New.L : Lam := mkL []
def spec_l1New.out (t : Disk_) : Out := ⟨[.cl .deep tDisk_ t], []⟩
theorem spec_l1New.eq (size : Int) : ev tb spec_l1New.hn 6 1 spec_l1New.G spec_l1New.L (bodyOf Go.Proofs.Try.f136) (.no) (initSt [.cl .sh (.int .i64) size]) (kfin tb spec_l1New.hn Go.Proofs.Try.f136 [.sh]) =
    (spec_l1New size).map spec_l1New.out := by
  simp only [spec_l1New, cond_map, bind_map, sel_map, Option.map_some, Option.map_none]
  kernel_rfl
def spec_l1New.pts : List PT := [.cl .sh (.int .i64)]
noncomputable def spec_l1New.FS : FS := mkFS [.sh] spec_l1New.pts (fun x => spec_l1New x.1) spec_l1New.out
theorem spec_l1New.ok : FsOk Go.Proofs.Try.prog 136 spec_l1New.FS :=
  fs_ok (fn := Go.Proofs.Try.f136) tbok (by kernel_rfl) (body_some (by kernel_rfl)) (by kernel_rfl) (pts := spec_l1New.pts) (ev_sound (nt := 6) (np := 1) (hn := spec_l1New.hn) (G := spec_l1New.G) (L := spec_l1New.L) tbok spec_l1New.Gok hmix _ (.no) (hok_of (l := []) (by kernel_rfl) trivial)) rfl rfl
    fun x => spec_l1New.eq x.1
noncomputable def spec_l4Pack_l1.B (x : Inode_) (i_ : Int) (e_ : Entry_) (k_ : Int) (out_2 : List Int) : Option ((Int × List Int) ⊕ (List Int)) :=
  cond (decide (k_ < (e_.1.length : Int))) (cond (inB k_ e_.1.length) ((some (out_2 ++ ([w64 (((e_.1.getD k_.toNat 0).toNat : Int))]))).bind fun v4 => cond (decide (v4.length ≤ 2147483648)) (some (.inl (w64 (k_ + 1), v4))) (none)) (none)) (some (.inr out_2))
noncomputable def spec_l4Pack_l1 (x : Inode_) (i_ : Int) (e_ : Entry_) : (Int × List Int) → Option (List Int) :=
  loopL fun s => spec_l4Pack_l1.B x i_ e_ s.1 s.2
noncomputable def spec_l4Pack_l0.B (x : Inode_) (i_ : Int) (out_ : List Int) : Option ((Int × List Int) ⊕ (List Int)) :=
  cond (decide (i_ < (x.2.2.2.2.1.length : Int))) (cond (inB i_ x.2.2.2.2.1.length) ((some (((x.2.2.2.2.1.getD i_.toNat zEntry_).1).length : Int)).bind fun v2 => (some (out_ ++ ([((x.2.2.2.2.1.getD i_.toNat zEntry_).2).1, v2]))).bind fun v3 => cond (decide (v3.length ≤ 2147483648)) ((spec_l4Pack_l1 x i_ (x.2.2.2.2.1.getD i_.toNat zEntry_) (0, v3)).bind fun o => some (.inl (w64 (i_ + 1), o))) (none)) (none)) (some (.inr out_))
noncomputable def spec_l4Pack_l0 (x : Inode_) : (Int × List Int) → Option (List Int) :=
  loopL fun s => spec_l4Pack_l0.B x s.1 s.2
noncomputable def spec_l4Pack (x : Inode_) : Option (List Int) :=
  cond (decide ((([x.1, x.2.1, x.2.2.1]) ++ x.2.2.2.1).length ≤ 2147483648)) (cond (x.1 != 2) (some (([x.1, x.2.1, x.2.2.1]) ++ x.2.2.2.1)) ((some ((([x.1, x.2.1, x.2.2.1]) ++ x.2.2.2.1) ++ ([(x.2.2.2.2.1.length : Int)]))).bind fun v => cond (decide (v.length ≤ 2147483648)) ((spec_l4Pack_l0 x (0, v)).bind fun o2 => some o2) (none))) (none)
noncomputable def spec_l4Pack.G : Gam := mkG []
theorem spec_l4Pack.Gok : GOk Go.Proofs.Try.prog spec_l4Pack.G := GOk.nil
def spec_l4Pack.hn : Hint := ⟨[1], [], [], 0⟩
noncomputable def spec_l4Pack_l1.wit (x : Inode_) (i_ : Int) (e_ : Entry_) (b : List Int) : Ex × St := (.ex 2, ⟨[(1, .pt tInode_ x), (3, .seg 3 []), (4, .cl .sh (.int .i64) i_)], [(3, some ⟨.reg, .cl .deep (.sl (.int .i64)) b⟩)]⟩)
theorem spec_l4Pack_l1.eq (x : Inode_) (i_ : Int) (e_ : Entry_) (k_ : Int) (out_2 : List Int) : ev tb spec_l4Pack.hn 63 1 spec_l4Pack.G (mkL []) (codeAt (bodyOf Go.Proofs.Try.f137) [1, 1, 1, 1, 0, 1, 0, 0, 1, 0, 0, 1, 1, 1, 0, 0]) (.no) ⟨[(1, .pt tInode_ x), (3, .seg 3 []), (4, .cl .sh (.int .i64) i_), (5, .loc 5 []), (6, .cl .sh (.int .i64) k_)], [(3, some ⟨.reg, .cl .deep (.sl (.int .i64)) out_2⟩), (5, some ⟨.mem, .cl .sh tEntry_ e_⟩)]⟩ (kLp (([1, 3, 4, 5, 6], [3, 5])) [(2, ([1, 3, 4], [3]))] ([], [])) =
    (spec_l4Pack_l1.B x i_ e_ k_ out_2).map (fun o => sel o (fun s => .inl ⟨[(1, .pt tInode_ x), (3, .seg 3 []), (4, .cl .sh (.int .i64) i_), (5, .loc 5 []), (6, .cl .sh (.int .i64) s.1)], [(3, some ⟨.reg, .cl .deep (.sl (.int .i64)) s.2⟩), (5, some ⟨.mem, .cl .sh tEntry_ e_⟩)]⟩) (fun b => .inr (spec_l4Pack_l1.wit x i_ e_ b))) := by
  simp only [spec_l4Pack_l1.B, cond_map, bind_map, sel_map, Option.map_some, Option.map_none]
  kernel_rfl
def spec_l4Pack_l1.sp : SP := ⟨[(1, .pt tInode_), (3, .seg 3 []), (4, .cl .sh (.int .i64)), (5, .loc 5 []), (6, .cl .sh (.int .i64))], [(3, .reg, .cl .deep (.sl (.int .i64))), (5, .mem, .cl .sh tEntry_)]⟩
noncomputable def spec_l4Pack_l1.out (x : Inode_) (i_ : Int) (e_ : Entry_) : FOut (List Int) := fun b _ k => k (.ex 2) ⟨[(1, .pt tInode_ x), (3, .seg 3 []), (4, .cl .sh (.int .i64) i_)], [(3, some ⟨.reg, .cl .deep (.sl (.int .i64)) b⟩)]⟩
theorem spec_l4Pack_l1.outEq (x : Inode_) (i_ : Int) (e_ : Entry_) (o : List Int) (R : Type) (k : Ex → St → Option R) : spec_l4Pack_l1.out x i_ e_ o R k = k (spec_l4Pack_l1.wit x i_ e_ o).1 (spec_l4Pack_l1.wit x i_ e_ o).2 := by
  rfl
noncomputable def spec_l4Pack_l1.F (x : spec_l4Pack_l1.sp.El) (R : Type) (k : Ex → St → Option R) : Option R := (spec_l4Pack_l1 x.1.1 x.1.2.2.1 x.2.2.1 (x.1.2.2.2.2.1, x.2.1)).bind fun t => spec_l4Pack_l1.out x.1.1 x.1.2.2.1 x.2.2.1 t R k
noncomputable def spec_l4Pack_l1.fr : St → ∀ R : Type, (Ex → St → Option R) → Option R := mkFrag spec_l4Pack_l1.sp spec_l4Pack_l1.F
theorem spec_l4Pack_l1.ok : CodeOk Go.Proofs.Try.prog 63 1 (.loop (codeAt (bodyOf Go.Proofs.Try.f137) [1, 1, 1, 1, 0, 1, 0, 0, 1, 0, 0, 1, 1, 1, 0, 0])) spec_l4Pack_l1.fr :=
  loop_sound (sp := spec_l4Pack_l1.sp) rfl (F := spec_l4Pack_l1.F) (ev_sound (hn := spec_l4Pack.hn) (G := spec_l4Pack.G) (L := mkL []) tbok spec_l4Pack.Gok hmix _ (.no) (hok_of (l := []) (by kernel_rfl) trivial)) 
    fun x => ⟨_, _, fun s => spec_l4Pack_l1.B x.1.1 x.1.2.2.1 x.2.2.1 s.1 s.2, fun s => ⟨[(1, .pt tInode_ x.1.1), (3, .seg 3 []), (4, .cl .sh (.int .i64) x.1.2.2.1), (5, .loc 5 []), (6, .cl .sh (.int .i64) s.1)], [(3, some ⟨.reg, .cl .deep (.sl (.int .i64)) s.2⟩), (5, some ⟨.mem, .cl .sh tEntry_ x.2.2.1⟩)]⟩, spec_l4Pack_l1.wit x.1.1 x.1.2.2.1 x.2.2.1, (x.1.2.2.2.2.1, x.2.1), rfl, fun s => spec_l4Pack_l1.eq x.1.1 x.1.2.2.1 x.2.2.1 s.1 s.2, fun R k => congrArg (fun g => (spec_l4Pack_l1 x.1.1 x.1.2.2.1 x.2.2.1 (x.1.2.2.2.2.1, x.2.1)).bind g) (funext fun t => spec_l4Pack_l1.outEq x.1.1 x.1.2.2.1 x.2.2.1 t R k)⟩
noncomputable def spec_l4Pack_l0.wit (x : Inode_) (b : List Int) : Ex × St := (.ex 0, ⟨[(3, .seg 3 [])], [(3, some ⟨.reg, .cl .deep (.sl (.int .i64)) b⟩)]⟩)
theorem spec_l4Pack_l0.eq (x : Inode_) (i_ : Int) (out_ : List Int) : ev tb spec_l4Pack.hn 63 1 spec_l4Pack.G (mkL [(1, spec_l4Pack_l1.fr)]) (codeAt (bodyOf Go.Proofs.Try.f137) [1, 1, 1, 1, 0, 1, 0, 0]) (.two (.no) (.two (.one (.two (.no) (.two (.no) (.two (.no) (.one (.fr 1)))))) (.no))) ⟨[(1, .pt tInode_ x), (3, .seg 3 []), (4, .cl .sh (.int .i64) i_)], [(3, some ⟨.reg, .cl .deep (.sl (.int .i64)) out_⟩)]⟩ (kLp (([1, 3, 4], [3])) [(0, ([3], [3]))] ([], [])) =
    (spec_l4Pack_l0.B x i_ out_).map (fun o => sel o (fun s => .inl ⟨[(1, .pt tInode_ x), (3, .seg 3 []), (4, .cl .sh (.int .i64) s.1)], [(3, some ⟨.reg, .cl .deep (.sl (.int .i64)) s.2⟩)]⟩) (fun b => .inr (spec_l4Pack_l0.wit x b))) := by
  simp only [spec_l4Pack_l0.B, cond_map, bind_map, sel_map, Option.map_some, Option.map_none]
  kernel_rfl
def spec_l4Pack_l0.sp : SP := ⟨[(1, .pt tInode_), (3, .seg 3 []), (4, .cl .sh (.int .i64))], [(3, .reg, .cl .deep (.sl (.int .i64)))]⟩
noncomputable def spec_l4Pack_l0.out (x : Inode_) : FOut (List Int) := fun b _ k => k (.ex 0) ⟨[(3, .seg 3 [])], [(3, some ⟨.reg, .cl .deep (.sl (.int .i64)) b⟩)]⟩
theorem spec_l4Pack_l0.outEq (x : Inode_) (o : List Int) (R : Type) (k : Ex → St → Option R) : spec_l4Pack_l0.out x o R k = k (spec_l4Pack_l0.wit x o).1 (spec_l4Pack_l0.wit x o).2 := by
  rfl
noncomputable def spec_l4Pack_l0.F (x : spec_l4Pack_l0.sp.El) (R : Type) (k : Ex → St → Option R) : Option R := (spec_l4Pack_l0 x.1.1 (x.1.2.2.1, x.2.1)).bind fun t => spec_l4Pack_l0.out x.1.1 t R k
noncomputable def spec_l4Pack_l0.fr : St → ∀ R : Type, (Ex → St → Option R) → Option R := mkFrag spec_l4Pack_l0.sp spec_l4Pack_l0.F
theorem spec_l4Pack_l0.ok : CodeOk Go.Proofs.Try.prog 63 1 (.loop (codeAt (bodyOf Go.Proofs.Try.f137) [1, 1, 1, 1, 0, 1, 0, 0])) spec_l4Pack_l0.fr :=
  loop_sound (sp := spec_l4Pack_l0.sp) rfl (F := spec_l4Pack_l0.F) (ev_sound (hn := spec_l4Pack.hn) (G := spec_l4Pack.G) (L := mkL [(1, spec_l4Pack_l1.fr)]) tbok spec_l4Pack.Gok hmix _ (.two (.no) (.two (.one (.two (.no) (.two (.no) (.two (.no) (.one (.fr 1)))))) (.no))) (hok_of (l := [(1, .loop (codeAt (bodyOf Go.Proofs.Try.f137) [1, 1, 1, 1, 0, 1, 0, 0, 1, 0, 0, 1, 1, 1, 0, 0]))]) (by kernel_rfl) ⟨Lam.cons spec_l4Pack_l1.ok, trivial⟩)) 
    fun x => ⟨_, _, fun s => spec_l4Pack_l0.B x.1.1 s.1 s.2, fun s => ⟨[(1, .pt tInode_ x.1.1), (3, .seg 3 []), (4, .cl .sh (.int .i64) s.1)], [(3, some ⟨.reg, .cl .deep (.sl (.int .i64)) s.2⟩)]⟩, spec_l4Pack_l0.wit x.1.1, (x.1.2.2.1, x.2.1), rfl, fun s => spec_l4Pack_l0.eq x.1.1 s.1 s.2, fun R k => congrArg (fun g => (spec_l4Pack_l0 x.1.1 (x.1.2.2.1, x.2.1)).bind g) (funext fun t => spec_l4Pack_l0.outEq x.1.1 t R k)⟩
noncomputable def spec_l4Pack.L : Lam := mkL [(1, spec_l4Pack_l1.fr), (0, spec_l4Pack_l0.fr)]
def spec_l4Pack.out (t : List Int) : Out := ⟨[.cl .deep (.sl (.int .i64)) t], []⟩
theorem spec_l4Pack.eq (x : Inode_) : ev tb spec_l4Pack.hn 63 1 spec_l4Pack.G spec_l4Pack.L (bodyOf Go.Proofs.Try.f137) (.two (.no) (.two (.no) (.two (.no) (.two (.no) (.two (.two (.no) (.one (.fr 0))) (.no)))))) (initSt [.cl .sh tInode_ x]) (kfin tb spec_l4Pack.hn Go.Proofs.Try.f137 [.sh]) =
    (spec_l4Pack x).map spec_l4Pack.out := by
  simp only [spec_l4Pack, cond_map, bind_map, sel_map, Option.map_some, Option.map_none]
  kernel_rfl
def spec_l4Pack.pts : List PT := [.cl .sh tInode_]
noncomputable def spec_l4Pack.FS : FS := mkFS [.sh] spec_l4Pack.pts (fun x => spec_l4Pack x.1) spec_l4Pack.out
theorem spec_l4Pack.ok : FsOk Go.Proofs.Try.prog 137 spec_l4Pack.FS :=
  fs_ok (fn := Go.Proofs.Try.f137) tbok (by kernel_rfl) (body_some (by kernel_rfl)) (by kernel_rfl) (pts := spec_l4Pack.pts) (ev_sound (nt := 63) (np := 1) (hn := spec_l4Pack.hn) (G := spec_l4Pack.G) (L := spec_l4Pack.L) tbok spec_l4Pack.Gok hmix _ (.two (.no) (.two (.no) (.two (.no) (.two (.no) (.two (.two (.no) (.one (.fr 0))) (.no)))))) (hok_of (l := [(0, .loop (codeAt (bodyOf Go.Proofs.Try.f137) [1, 1, 1, 1, 0, 1, 0, 0]))]) (by kernel_rfl) ⟨Lam.skip rfl (Lam.cons spec_l4Pack_l0.ok), trivial⟩)) rfl rfl
    fun x => spec_l4Pack.eq x.1
noncomputable def spec_l12Format (seq : Int) : Option (Disk_) :=
  (spec_l1New 47).bind fun r => cond (inB 0 r.1.length) ((spec_l4Pack (2, 0, 0, [], [], ())).bind fun r2 => cond (inB 17 ((r.1.set ((0 : Int).toNat) ([7, seq])).length)) ((some ((r.1.set ((0 : Int).toNat) ([7, seq])).set ((17 : Int).toNat) r2)).bind fun d_ => some (d_, r.2.1, r.2.2)) (none)) (none)
noncomputable def spec_l12Format.G : Gam := mkG [(136, spec_l1New.FS), (137, spec_l4Pack.FS)]
theorem spec_l12Format.Gok : GOk Go.Proofs.Try.prog spec_l12Format.G := GOk.cons (spec_l1New.ok) (GOk.cons (spec_l4Pack.ok) (GOk.nil))
def spec_l12Format.hn : Hint := ⟨[], [], [], 0⟩
noncomputable def spec_l12Format.L : Lam := mkL []
def spec_l12Format.out (t : Disk_) : Out := ⟨[.cl .deep tDisk_ t], []⟩
theorem spec_l12Format.eq (seq : Int) : ev tb spec_l12Format.hn 16 1 spec_l12Format.G spec_l12Format.L (bodyOf Go.Proofs.Try.f85) (.no) (initSt [.cl .sh (.int .i64) seq]) (kfin tb spec_l12Format.hn Go.Proofs.Try.f85 [.sh]) =
    (spec_l12Format seq).map spec_l12Format.out := by
  simp only [spec_l12Format, cond_map, bind_map, sel_map, Option.map_some, Option.map_none]
  kernel_rfl
def spec_l12Format.pts : List PT := [.cl .sh (.int .i64)]
noncomputable def spec_l12Format.FS : FS := mkFS [.sh] spec_l12Format.pts (fun x => spec_l12Format x.1) spec_l12Format.out
theorem spec_l12Format.ok : FsOk Go.Proofs.Try.prog 85 spec_l12Format.FS :=
  fs_ok (fn := Go.Proofs.Try.f85) tbok (by kernel_rfl) (body_some (by kernel_rfl)) (by kernel_rfl) (pts := spec_l12Format.pts) (ev_sound (nt := 16) (np := 1) (hn := spec_l12Format.hn) (G := spec_l12Format.G) (L := spec_l12Format.L) tbok spec_l12Format.Gok hmix _ (.no) (hok_of (l := []) (by kernel_rfl) trivial)) rfl rfl
    fun x => spec_l12Format.eq x.1
noncomputable def spec_FormatDisk (seq : Int) : Option (DiskResult_) :=
  (spec_l12Seq seq).bind fun r => cond (!r) (some (3, ([], [], ()), ())) ((spec_l12Format seq).bind fun r2 => some (0, (r2.1, r2.2.1, r2.2.2), ()))
noncomputable def spec_FormatDisk.G : Gam := mkG [(84, spec_l12Seq.FS), (85, spec_l12Format.FS)]
theorem spec_FormatDisk.Gok : GOk Go.Proofs.Try.prog spec_FormatDisk.G := GOk.cons (spec_l12Seq.ok) (GOk.cons (spec_l12Format.ok) (GOk.nil))
def spec_FormatDisk.hn : Hint := ⟨[], [], [], 0⟩
noncomputable def spec_FormatDisk.L : Lam := mkL []
def spec_FormatDisk.out (t : DiskResult_) : Out := ⟨[.cl .deep tDiskResult_ t], []⟩
theorem spec_FormatDisk.eq (seq : Int) : ev tb spec_FormatDisk.hn 10 1 spec_FormatDisk.G spec_FormatDisk.L (bodyOf Go.Proofs.Try.f24) (.no) (initSt [.cl .sh (.int .i64) seq]) (kfin tb spec_FormatDisk.hn Go.Proofs.Try.f24 [.sh]) =
    (spec_FormatDisk seq).map spec_FormatDisk.out := by
  simp only [spec_FormatDisk, cond_map, bind_map, sel_map, Option.map_some, Option.map_none]
  kernel_rfl
def spec_FormatDisk.pts : List PT := [.cl .sh (.int .i64)]
noncomputable def spec_FormatDisk.FS : FS := mkFS [.sh] spec_FormatDisk.pts (fun x => spec_FormatDisk x.1) spec_FormatDisk.out
theorem spec_FormatDisk.ok : FsOk Go.Proofs.Try.prog 24 spec_FormatDisk.FS :=
  fs_ok (fn := Go.Proofs.Try.f24) tbok (by kernel_rfl) (body_some (by kernel_rfl)) (by kernel_rfl) (pts := spec_FormatDisk.pts) (ev_sound (nt := 10) (np := 1) (hn := spec_FormatDisk.hn) (G := spec_FormatDisk.G) (L := spec_FormatDisk.L) tbok spec_FormatDisk.Gok hmix _ (.no) (hok_of (l := []) (by kernel_rfl) trivial)) rfl rfl
    fun x => spec_FormatDisk.eq x.1
noncomputable def impl_within (n : Int) (low : Int) (high : Int) : Option (Bool) :=
  (some (cond (decide (n ≥ low)) (decide (n ≤ high)) false)).bind fun v => some v
noncomputable def impl_within.G : Gam := mkG []
theorem impl_within.Gok : GOk Go.Proofs.Try.prog impl_within.G := GOk.nil
def impl_within.hn : Hint := ⟨[], [], [], 0⟩
noncomputable def impl_within.L : Lam := mkL []
def impl_within.out (t : Bool) : Out := ⟨[.cl .sh .bool t], []⟩
theorem impl_within.eq (n : Int) (low : Int) (high : Int) : ev tb impl_within.hn 15 3 impl_within.G impl_within.L (bodyOf Go.Proofs.Try.f95) (.no) (initSt [.cl .sh (.int .i64) n, .cl .sh (.int .i64) low, .cl .sh (.int .i64) high]) (kfin tb impl_within.hn Go.Proofs.Try.f95 [.sh, .sh, .sh]) =
    (impl_within n low high).map impl_within.out := by
  simp only [impl_within, cond_map, bind_map, sel_map, Option.map_some, Option.map_none]
  kernel_rfl
def impl_within.pts : List PT := [.cl .sh (.int .i64), .cl .sh (.int .i64), .cl .sh (.int .i64)]
noncomputable def impl_within.FS : FS := mkFS [.sh, .sh, .sh] impl_within.pts (fun x => impl_within x.1 x.2.1 x.2.2.1) impl_within.out
theorem impl_within.ok : FsOk Go.Proofs.Try.prog 95 impl_within.FS :=
  fs_ok (fn := Go.Proofs.Try.f95) tbok (by kernel_rfl) (body_some (by kernel_rfl)) (by kernel_rfl) (pts := impl_within.pts) (ev_sound (nt := 15) (np := 3) (hn := impl_within.hn) (G := impl_within.G) (L := impl_within.L) tbok impl_within.Gok hmix _ (.no) (hok_of (l := []) (by kernel_rfl) trivial)) rfl rfl
    fun x => impl_within.eq x.1 x.2.1 x.2.2.1
noncomputable def impl_isSeq (seq : Int) : Option (Bool) :=
  (impl_within seq 1 60000).bind fun r => some r
noncomputable def impl_isSeq.G : Gam := mkG [(95, impl_within.FS)]
theorem impl_isSeq.Gok : GOk Go.Proofs.Try.prog impl_isSeq.G := GOk.cons (impl_within.ok) (GOk.nil)
def impl_isSeq.hn : Hint := ⟨[], [], [], 0⟩
noncomputable def impl_isSeq.L : Lam := mkL []
def impl_isSeq.out (t : Bool) : Out := ⟨[.cl .sh .bool t], []⟩
theorem impl_isSeq.eq (seq : Int) : ev tb impl_isSeq.hn 5 1 impl_isSeq.G impl_isSeq.L (bodyOf Go.Proofs.Try.f86) (.no) (initSt [.cl .sh (.int .i64) seq]) (kfin tb impl_isSeq.hn Go.Proofs.Try.f86 [.sh]) =
    (impl_isSeq seq).map impl_isSeq.out := by
  simp only [impl_isSeq, cond_map, bind_map, sel_map, Option.map_some, Option.map_none]
  kernel_rfl
def impl_isSeq.pts : List PT := [.cl .sh (.int .i64)]
noncomputable def impl_isSeq.FS : FS := mkFS [.sh] impl_isSeq.pts (fun x => impl_isSeq x.1) impl_isSeq.out
theorem impl_isSeq.ok : FsOk Go.Proofs.Try.prog 86 impl_isSeq.FS :=
  fs_ok (fn := Go.Proofs.Try.f86) tbok (by kernel_rfl) (body_some (by kernel_rfl)) (by kernel_rfl) (pts := impl_isSeq.pts) (ev_sound (nt := 5) (np := 1) (hn := impl_isSeq.hn) (G := impl_isSeq.G) (L := impl_isSeq.L) tbok impl_isSeq.Gok hmix _ (.no) (hok_of (l := []) (by kernel_rfl) trivial)) rfl rfl
    fun x => impl_isSeq.eq x.1
noncomputable def impl_superWords (seq : Int) : Option (List Int) :=
  some ([7, seq])
noncomputable def impl_superWords.G : Gam := mkG []
theorem impl_superWords.Gok : GOk Go.Proofs.Try.prog impl_superWords.G := GOk.nil
def impl_superWords.hn : Hint := ⟨[], [], [], 0⟩
noncomputable def impl_superWords.L : Lam := mkL []
def impl_superWords.out (t : List Int) : Out := ⟨[.cl .deep (.sl (.int .i64)) t], []⟩
theorem impl_superWords.eq (seq : Int) : ev tb impl_superWords.hn 5 1 impl_superWords.G impl_superWords.L (bodyOf Go.Proofs.Try.f87) (.no) (initSt [.cl .sh (.int .i64) seq]) (kfin tb impl_superWords.hn Go.Proofs.Try.f87 [.sh]) =
    (impl_superWords seq).map impl_superWords.out := by
  simp only [impl_superWords, cond_map, bind_map, sel_map, Option.map_some, Option.map_none]
  kernel_rfl
def impl_superWords.pts : List PT := [.cl .sh (.int .i64)]
noncomputable def impl_superWords.FS : FS := mkFS [.sh] impl_superWords.pts (fun x => impl_superWords x.1) impl_superWords.out
theorem impl_superWords.ok : FsOk Go.Proofs.Try.prog 87 impl_superWords.FS :=
  fs_ok (fn := Go.Proofs.Try.f87) tbok (by kernel_rfl) (body_some (by kernel_rfl)) (by kernel_rfl) (pts := impl_superWords.pts) (ev_sound (nt := 5) (np := 1) (hn := impl_superWords.hn) (G := impl_superWords.G) (L := impl_superWords.L) tbok impl_superWords.Gok hmix _ (.no) (hok_of (l := []) (by kernel_rfl) trivial)) rfl rfl
    fun x => impl_superWords.eq x.1
noncomputable def impl_size_Entry (l : List Entry_) : Option (Int) :=
  some (l.length : Int)
noncomputable def impl_size_Entry.G : Gam := mkG []
theorem impl_size_Entry.Gok : GOk Go.Proofs.Try.prog impl_size_Entry.G := GOk.nil
def impl_size_Entry.hn : Hint := ⟨[], [], [], 0⟩
noncomputable def impl_size_Entry.L : Lam := mkL []
def impl_size_Entry.out (t : Int) : Out := ⟨[.cl .sh (.int .i64) t], []⟩
theorem impl_size_Entry.eq (l : List Entry_) : ev tb impl_size_Entry.hn 5 1 impl_size_Entry.G impl_size_Entry.L (bodyOf Go.Proofs.Try.f138) (.no) (initSt [.cl .sh (.sl tEntry_) l]) (kfin tb impl_size_Entry.hn Go.Proofs.Try.f138 [.sh]) =
    (impl_size_Entry l).map impl_size_Entry.out := by
  simp only [impl_size_Entry, cond_map, bind_map, sel_map, Option.map_some, Option.map_none]
  kernel_rfl
def impl_size_Entry.pts : List PT := [.cl .sh (.sl tEntry_)]
noncomputable def impl_size_Entry.FS : FS := mkFS [.sh] impl_size_Entry.pts (fun x => impl_size_Entry x.1) impl_size_Entry.out
theorem impl_size_Entry.ok : FsOk Go.Proofs.Try.prog 138 impl_size_Entry.FS :=
  fs_ok (fn := Go.Proofs.Try.f138) tbok (by kernel_rfl) (body_some (by kernel_rfl)) (by kernel_rfl) (pts := impl_size_Entry.pts) (ev_sound (nt := 5) (np := 1) (hn := impl_size_Entry.hn) (G := impl_size_Entry.G) (L := impl_size_Entry.L) tbok impl_size_Entry.Gok hmix _ (.no) (hok_of (l := []) (by kernel_rfl) trivial)) rfl rfl
    fun x => impl_size_Entry.eq x.1
noncomputable def impl_packInode_l1.B (v : List Entry_) (v2 : Int) (v3 : Int) (v5 : Int) (e_ : Entry_) (v6 : Int) (words_2 : List Int) : Option ((Int × List Int) ⊕ (List Int)) :=
  cond (decide (v6 < v5)) (cond (inB v6 e_.1.length) ((some (words_2 ++ ([w64 (((e_.1.getD v6.toNat 0).toNat : Int))]))).bind fun v7 => cond (decide (v7.length ≤ 2147483648)) (some (.inl (w64 (v6 + 1), v7))) (none)) (none)) (some (.inr words_2))
noncomputable def impl_packInode_l1 (v : List Entry_) (v2 : Int) (v3 : Int) (v5 : Int) (e_ : Entry_) : (Int × List Int) → Option (List Int) :=
  loopL fun s => impl_packInode_l1.B v v2 v3 v5 e_ s.1 s.2
noncomputable def impl_packInode_l0.B (v : List Entry_) (v2 : Int) (v3 : Int) (words_ : List Int) : Option ((Int × List Int) ⊕ (List Int)) :=
  cond (decide (v3 < v2)) (cond (inB v3 v.length) ((some (words_ ++ ([((v.getD v3.toNat zEntry_).2).1, (((v.getD v3.toNat zEntry_).1).length : Int)]))).bind fun v4 => cond (decide (v4.length ≤ 2147483648)) ((impl_packInode_l1 v v2 v3 (((v.getD v3.toNat zEntry_).1).length : Int) (v.getD v3.toNat zEntry_) (0, v4)).bind fun o => some (.inl (w64 (v3 + 1), o))) (none)) (none)) (some (.inr words_))
noncomputable def impl_packInode_l0 (v : List Entry_) (v2 : Int) : (Int × List Int) → Option (List Int) :=
  loopL fun s => impl_packInode_l0.B v v2 s.1 s.2
noncomputable def impl_packInode (x : Inode_) : Option (List Int) :=
  cond (decide ((([x.1, x.2.1, x.2.2.1]) ++ x.2.2.2.1).length ≤ 2147483648)) (cond (x.1 != 2) (some (([x.1, x.2.1, x.2.2.1]) ++ x.2.2.2.1)) ((impl_size_Entry x.2.2.2.2.1).bind fun r => cond (decide (((([x.1, x.2.1, x.2.2.1]) ++ x.2.2.2.1) ++ ([r])).length ≤ 2147483648)) ((impl_packInode_l0 x.2.2.2.2.1 (x.2.2.2.2.1.length : Int) (0, (([x.1, x.2.1, x.2.2.1]) ++ x.2.2.2.1) ++ ([r]))).bind fun o2 => some o2) (none))) (none)
noncomputable def impl_packInode.G : Gam := mkG [(138, impl_size_Entry.FS)]
theorem impl_packInode.Gok : GOk Go.Proofs.Try.prog impl_packInode.G := GOk.cons (impl_size_Entry.ok) (GOk.nil)
def impl_packInode.hn : Hint := ⟨[1], [], [], 0⟩
noncomputable def impl_packInode_l1.wit (v : List Entry_) (v2 : Int) (v3 : Int) (v5 : Int) (e_ : Entry_) (b : List Int) : Ex × St := (.ex 2, ⟨[(3, .seg 3 []), (28, .cl .sh (.sl tEntry_) v), (29, .cl .sh (.int .i64) v2), (30, .cl .sh (.int .i64) v3)], [(3, some ⟨.reg, .cl .deep (.sl (.int .i64)) b⟩)]⟩)
theorem impl_packInode_l1.eq (v : List Entry_) (v2 : Int) (v3 : Int) (v5 : Int) (e_ : Entry_) (v6 : Int) (words_2 : List Int) : ev tb impl_packInode.hn 59 1 impl_packInode.G (mkL []) (codeAt (bodyOf Go.Proofs.Try.f88) [1, 1, 1, 1, 0, 1, 0, 0, 1, 1, 0, 0, 1, 1, 1, 0, 0]) (.no) ⟨[(3, .seg 3 []), (5, .loc 5 []), (28, .cl .sh (.sl tEntry_) v), (29, .cl .sh (.int .i64) v2), (30, .cl .sh (.int .i64) v3), (44, .cl .sh (.int .i64) v5), (45, .cl .sh (.int .i64) v6)], [(3, some ⟨.reg, .cl .deep (.sl (.int .i64)) words_2⟩), (5, some ⟨.mem, .cl .sh tEntry_ e_⟩)]⟩ (kLp (([3, 5, 28, 29, 30, 44, 45], [3, 5])) [(2, ([3, 28, 29, 30], [3]))] ([], [])) =
    (impl_packInode_l1.B v v2 v3 v5 e_ v6 words_2).map (fun o => sel o (fun s => .inl ⟨[(3, .seg 3 []), (5, .loc 5 []), (28, .cl .sh (.sl tEntry_) v), (29, .cl .sh (.int .i64) v2), (30, .cl .sh (.int .i64) v3), (44, .cl .sh (.int .i64) v5), (45, .cl .sh (.int .i64) s.1)], [(3, some ⟨.reg, .cl .deep (.sl (.int .i64)) s.2⟩), (5, some ⟨.mem, .cl .sh tEntry_ e_⟩)]⟩) (fun b => .inr (impl_packInode_l1.wit v v2 v3 v5 e_ b))) := by
  simp only [impl_packInode_l1.B, cond_map, bind_map, sel_map, Option.map_some, Option.map_none]
  kernel_rfl
def impl_packInode_l1.sp : SP := ⟨[(3, .seg 3 []), (5, .loc 5 []), (28, .cl .sh (.sl tEntry_)), (29, .cl .sh (.int .i64)), (30, .cl .sh (.int .i64)), (44, .cl .sh (.int .i64)), (45, .cl .sh (.int .i64))], [(3, .reg, .cl .deep (.sl (.int .i64))), (5, .mem, .cl .sh tEntry_)]⟩
noncomputable def impl_packInode_l1.out (v : List Entry_) (v2 : Int) (v3 : Int) (v5 : Int) (e_ : Entry_) : FOut (List Int) := fun b _ k => k (.ex 2) ⟨[(3, .seg 3 []), (28, .cl .sh (.sl tEntry_) v), (29, .cl .sh (.int .i64) v2), (30, .cl .sh (.int .i64) v3)], [(3, some ⟨.reg, .cl .deep (.sl (.int .i64)) b⟩)]⟩
theorem impl_packInode_l1.outEq (v : List Entry_) (v2 : Int) (v3 : Int) (v5 : Int) (e_ : Entry_) (o : List Int) (R : Type) (k : Ex → St → Option R) : impl_packInode_l1.out v v2 v3 v5 e_ o R k = k (impl_packInode_l1.wit v v2 v3 v5 e_ o).1 (impl_packInode_l1.wit v v2 v3 v5 e_ o).2 := by
  rfl
noncomputable def impl_packInode_l1.F (x : impl_packInode_l1.sp.El) (R : Type) (k : Ex → St → Option R) : Option R := (impl_packInode_l1 x.1.2.2.1 x.1.2.2.2.1 x.1.2.2.2.2.1 x.1.2.2.2.2.2.1 x.2.2.1 (x.1.2.2.2.2.2.2.1, x.2.1)).bind fun t => impl_packInode_l1.out x.1.2.2.1 x.1.2.2.2.1 x.1.2.2.2.2.1 x.1.2.2.2.2.2.1 x.2.2.1 t R k
noncomputable def impl_packInode_l1.fr : St → ∀ R : Type, (Ex → St → Option R) → Option R := mkFrag impl_packInode_l1.sp impl_packInode_l1.F
theorem impl_packInode_l1.ok : CodeOk Go.Proofs.Try.prog 59 1 (.loop (codeAt (bodyOf Go.Proofs.Try.f88) [1, 1, 1, 1, 0, 1, 0, 0, 1, 1, 0, 0, 1, 1, 1, 0, 0])) impl_packInode_l1.fr :=
  loop_sound (sp := impl_packInode_l1.sp) rfl (F := impl_packInode_l1.F) (ev_sound (hn := impl_packInode.hn) (G := impl_packInode.G) (L := mkL []) tbok impl_packInode.Gok hmix _ (.no) (hok_of (l := []) (by kernel_rfl) trivial)) 
    fun x => ⟨_, _, fun s => impl_packInode_l1.B x.1.2.2.1 x.1.2.2.2.1 x.1.2.2.2.2.1 x.1.2.2.2.2.2.1 x.2.2.1 s.1 s.2, fun s => ⟨[(3, .seg 3 []), (5, .loc 5 []), (28, .cl .sh (.sl tEntry_) x.1.2.2.1), (29, .cl .sh (.int .i64) x.1.2.2.2.1), (30, .cl .sh (.int .i64) x.1.2.2.2.2.1), (44, .cl .sh (.int .i64) x.1.2.2.2.2.2.1), (45, .cl .sh (.int .i64) s.1)], [(3, some ⟨.reg, .cl .deep (.sl (.int .i64)) s.2⟩), (5, some ⟨.mem, .cl .sh tEntry_ x.2.2.1⟩)]⟩, impl_packInode_l1.wit x.1.2.2.1 x.1.2.2.2.1 x.1.2.2.2.2.1 x.1.2.2.2.2.2.1 x.2.2.1, (x.1.2.2.2.2.2.2.1, x.2.1), rfl, fun s => impl_packInode_l1.eq x.1.2.2.1 x.1.2.2.2.1 x.1.2.2.2.2.1 x.1.2.2.2.2.2.1 x.2.2.1 s.1 s.2, fun R k => congrArg (fun g => (impl_packInode_l1 x.1.2.2.1 x.1.2.2.2.1 x.1.2.2.2.2.1 x.1.2.2.2.2.2.1 x.2.2.1 (x.1.2.2.2.2.2.2.1, x.2.1)).bind g) (funext fun t => impl_packInode_l1.outEq x.1.2.2.1 x.1.2.2.2.1 x.1.2.2.2.2.1 x.1.2.2.2.2.2.1 x.2.2.1 t R k)⟩
noncomputable def impl_packInode_l0.wit (v : List Entry_) (v2 : Int) (b : List Int) : Ex × St := (.ex 0, ⟨[(3, .seg 3 [])], [(3, some ⟨.reg, .cl .deep (.sl (.int .i64)) b⟩)]⟩)
theorem impl_packInode_l0.eq (v : List Entry_) (v2 : Int) (v3 : Int) (words_ : List Int) : ev tb impl_packInode.hn 59 1 impl_packInode.G (mkL [(1, impl_packInode_l1.fr)]) (codeAt (bodyOf Go.Proofs.Try.f88) [1, 1, 1, 1, 0, 1, 0, 0]) (.two (.no) (.two (.no) (.two (.one (.two (.no) (.two (.no) (.two (.no) (.one (.fr 1)))))) (.no)))) ⟨[(3, .seg 3 []), (28, .cl .sh (.sl tEntry_) v), (29, .cl .sh (.int .i64) v2), (30, .cl .sh (.int .i64) v3)], [(3, some ⟨.reg, .cl .deep (.sl (.int .i64)) words_⟩)]⟩ (kLp (([3, 28, 29, 30], [3])) [(0, ([3], [3]))] ([], [])) =
    (impl_packInode_l0.B v v2 v3 words_).map (fun o => sel o (fun s => .inl ⟨[(3, .seg 3 []), (28, .cl .sh (.sl tEntry_) v), (29, .cl .sh (.int .i64) v2), (30, .cl .sh (.int .i64) s.1)], [(3, some ⟨.reg, .cl .deep (.sl (.int .i64)) s.2⟩)]⟩) (fun b => .inr (impl_packInode_l0.wit v v2 b))) := by
  simp only [impl_packInode_l0.B, cond_map, bind_map, sel_map, Option.map_some, Option.map_none]
  kernel_rfl
def impl_packInode_l0.sp : SP := ⟨[(3, .seg 3 []), (28, .cl .sh (.sl tEntry_)), (29, .cl .sh (.int .i64)), (30, .cl .sh (.int .i64))], [(3, .reg, .cl .deep (.sl (.int .i64)))]⟩
noncomputable def impl_packInode_l0.out (v : List Entry_) (v2 : Int) : FOut (List Int) := fun b _ k => k (.ex 0) ⟨[(3, .seg 3 [])], [(3, some ⟨.reg, .cl .deep (.sl (.int .i64)) b⟩)]⟩
theorem impl_packInode_l0.outEq (v : List Entry_) (v2 : Int) (o : List Int) (R : Type) (k : Ex → St → Option R) : impl_packInode_l0.out v v2 o R k = k (impl_packInode_l0.wit v v2 o).1 (impl_packInode_l0.wit v v2 o).2 := by
  rfl
noncomputable def impl_packInode_l0.F (x : impl_packInode_l0.sp.El) (R : Type) (k : Ex → St → Option R) : Option R := (impl_packInode_l0 x.1.2.1 x.1.2.2.1 (x.1.2.2.2.1, x.2.1)).bind fun t => impl_packInode_l0.out x.1.2.1 x.1.2.2.1 t R k
noncomputable def impl_packInode_l0.fr : St → ∀ R : Type, (Ex → St → Option R) → Option R := mkFrag impl_packInode_l0.sp impl_packInode_l0.F
theorem impl_packInode_l0.ok : CodeOk Go.Proofs.Try.prog 59 1 (.loop (codeAt (bodyOf Go.Proofs.Try.f88) [1, 1, 1, 1, 0, 1, 0, 0])) impl_packInode_l0.fr :=
  loop_sound (sp := impl_packInode_l0.sp) rfl (F := impl_packInode_l0.F) (ev_sound (hn := impl_packInode.hn) (G := impl_packInode.G) (L := mkL [(1, impl_packInode_l1.fr)]) tbok impl_packInode.Gok hmix _ (.two (.no) (.two (.no) (.two (.one (.two (.no) (.two (.no) (.two (.no) (.one (.fr 1)))))) (.no)))) (hok_of (l := [(1, .loop (codeAt (bodyOf Go.Proofs.Try.f88) [1, 1, 1, 1, 0, 1, 0, 0, 1, 1, 0, 0, 1, 1, 1, 0, 0]))]) (by kernel_rfl) ⟨Lam.cons impl_packInode_l1.ok, trivial⟩)) 
    fun x => ⟨_, _, fun s => impl_packInode_l0.B x.1.2.1 x.1.2.2.1 s.1 s.2, fun s => ⟨[(3, .seg 3 []), (28, .cl .sh (.sl tEntry_) x.1.2.1), (29, .cl .sh (.int .i64) x.1.2.2.1), (30, .cl .sh (.int .i64) s.1)], [(3, some ⟨.reg, .cl .deep (.sl (.int .i64)) s.2⟩)]⟩, impl_packInode_l0.wit x.1.2.1 x.1.2.2.1, (x.1.2.2.2.1, x.2.1), rfl, fun s => impl_packInode_l0.eq x.1.2.1 x.1.2.2.1 s.1 s.2, fun R k => congrArg (fun g => (impl_packInode_l0 x.1.2.1 x.1.2.2.1 (x.1.2.2.2.1, x.2.1)).bind g) (funext fun t => impl_packInode_l0.outEq x.1.2.1 x.1.2.2.1 t R k)⟩
noncomputable def impl_packInode.L : Lam := mkL [(1, impl_packInode_l1.fr), (0, impl_packInode_l0.fr)]
def impl_packInode.out (t : List Int) : Out := ⟨[.cl .deep (.sl (.int .i64)) t], []⟩
theorem impl_packInode.eq (x : Inode_) : ev tb impl_packInode.hn 59 1 impl_packInode.G impl_packInode.L (bodyOf Go.Proofs.Try.f88) (.two (.no) (.two (.no) (.two (.no) (.two (.no) (.two (.two (.no) (.one (.fr 0))) (.no)))))) (initSt [.cl .sh tInode_ x]) (kfin tb impl_packInode.hn Go.Proofs.Try.f88 [.sh]) =
    (impl_packInode x).map impl_packInode.out := by
  simp only [impl_packInode, cond_map, bind_map, sel_map, Option.map_some, Option.map_none]
  kernel_rfl
def impl_packInode.pts : List PT := [.cl .sh tInode_]
noncomputable def impl_packInode.FS : FS := mkFS [.sh] impl_packInode.pts (fun x => impl_packInode x.1) impl_packInode.out
theorem impl_packInode.ok : FsOk Go.Proofs.Try.prog 88 impl_packInode.FS :=
  fs_ok (fn := Go.Proofs.Try.f88) tbok (by kernel_rfl) (body_some (by kernel_rfl)) (by kernel_rfl) (pts := impl_packInode.pts) (ev_sound (nt := 59) (np := 1) (hn := impl_packInode.hn) (G := impl_packInode.G) (L := impl_packInode.L) tbok impl_packInode.Gok hmix _ (.two (.no) (.two (.no) (.two (.no) (.two (.no) (.two (.two (.no) (.one (.fr 0))) (.no)))))) (hok_of (l := [(0, .loop (codeAt (bodyOf Go.Proofs.Try.f88) [1, 1, 1, 1, 0, 1, 0, 0]))]) (by kernel_rfl) ⟨Lam.skip rfl (Lam.cons impl_packInode_l0.ok), trivial⟩)) rfl rfl
    fun x => impl_packInode.eq x.1
noncomputable def impl_FormatDisk (seq : Int) : Option (DiskResult_) :=
  (impl_isSeq seq).bind fun r => cond (!r) (some (3, ([], [], ()), ())) (cond (decide ((0 : Int) ≤ (47 : Int)) && (decide ((47 : Int) ≤ (47 : Int)) && decide ((47 : Int) ≤ 2147483648))) ((impl_superWords seq).bind fun r2 => cond (inB 0 ((List.replicate (47 : Int).toNat ([] : List Int)).length)) ((some ((List.replicate (47 : Int).toNat ([] : List Int)).set ((0 : Int).toNat) r2)).bind fun d_ => (impl_packInode (2, 0, 0, [], [], ())).bind fun r3 => cond (inB 17 d_.length) (some (0, (d_.set ((17 : Int).toNat) r3, [], ()), ())) (none)) (none)) (none))
noncomputable def impl_FormatDisk.G : Gam := mkG [(86, impl_isSeq.FS), (87, impl_superWords.FS), (88, impl_packInode.FS)]
theorem impl_FormatDisk.Gok : GOk Go.Proofs.Try.prog impl_FormatDisk.G := GOk.cons (impl_isSeq.ok) (GOk.cons (impl_superWords.ok) (GOk.cons (impl_packInode.ok) (GOk.nil)))
def impl_FormatDisk.hn : Hint := ⟨[], [], [], 0⟩
noncomputable def impl_FormatDisk.L : Lam := mkL []
def impl_FormatDisk.out (t : DiskResult_) : Out := ⟨[.cl .deep tDiskResult_ t], []⟩
theorem impl_FormatDisk.eq (seq : Int) : ev tb impl_FormatDisk.hn 22 1 impl_FormatDisk.G impl_FormatDisk.L (bodyOf Go.Proofs.Try.f25) (.no) (initSt [.cl .sh (.int .i64) seq]) (kfin tb impl_FormatDisk.hn Go.Proofs.Try.f25 [.sh]) =
    (impl_FormatDisk seq).map impl_FormatDisk.out := by
  simp only [impl_FormatDisk, cond_map, bind_map, sel_map, Option.map_some, Option.map_none]
  kernel_rfl
def impl_FormatDisk.pts : List PT := [.cl .sh (.int .i64)]
noncomputable def impl_FormatDisk.FS : FS := mkFS [.sh] impl_FormatDisk.pts (fun x => impl_FormatDisk x.1) impl_FormatDisk.out
theorem impl_FormatDisk.ok : FsOk Go.Proofs.Try.prog 25 impl_FormatDisk.FS :=
  fs_ok (fn := Go.Proofs.Try.f25) tbok (by kernel_rfl) (body_some (by kernel_rfl)) (by kernel_rfl) (pts := impl_FormatDisk.pts) (ev_sound (nt := 22) (np := 1) (hn := impl_FormatDisk.hn) (G := impl_FormatDisk.G) (L := impl_FormatDisk.L) tbok impl_FormatDisk.Gok hmix _ (.no) (hok_of (l := []) (by kernel_rfl) trivial)) rfl rfl
    fun x => impl_FormatDisk.eq x.1
noncomputable def laws_eqInt64S_l0.B (a : List Int) (b : List Int) (i_ : Int) : Option ((Int) ⊕ (((Bool) ⊕ (Unit)))) :=
  cond (decide (i_ < (a.length : Int))) (cond (inB i_ a.length) (cond (inB i_ b.length) (cond ((a.getD i_.toNat 0) != (b.getD i_.toNat 0)) (some (.inr (.inl false))) (some (.inl (w64 (i_ + 1))))) (none)) (none)) (some (.inr (.inr ())))
noncomputable def laws_eqInt64S_l0 (a : List Int) (b : List Int) : (Int) → Option (((Bool) ⊕ (Unit))) :=
  loopL fun s => laws_eqInt64S_l0.B a b s
noncomputable def laws_eqInt64S (a : List Int) (b : List Int) : Option (Bool) :=
  cond ((a.length : Int) != (b.length : Int)) (some false) ((laws_eqInt64S_l0 a b 0).bind fun o => sel o (fun b2 => some b2) (fun c => some true))
noncomputable def laws_eqInt64S.G : Gam := mkG []
theorem laws_eqInt64S.Gok : GOk Go.Proofs.Try.prog laws_eqInt64S.G := GOk.nil
def laws_eqInt64S.hn : Hint := ⟨[], [], [], 0⟩
noncomputable def laws_eqInt64S_l0.wit (a : List Int) (b : List Int) (o : ((Bool) ⊕ (Unit))) : Ex × St := sel o (fun b => (.rt, ⟨[(4, .cl .sh .bool b)], []⟩)) (fun c => (.ex 0, ⟨[], []⟩))
theorem laws_eqInt64S_l0.eq (a : List Int) (b : List Int) (i_ : Int) : ev tb laws_eqInt64S.hn 26 2 laws_eqInt64S.G (mkL []) (codeAt (bodyOf Go.Proofs.Try.f83) [1, 1, 0, 1, 0, 0]) (.no) ⟨[(0, .cl .sh (.sl (.int .i64)) a), (1, .cl .sh (.sl (.int .i64)) b), (5, .cl .sh (.int .i64) i_)], []⟩ (kLp (([0, 1, 5], [])) [(0, ([], []))] ([4], [])) =
    (laws_eqInt64S_l0.B a b i_).map (fun o => sel o (fun s => .inl ⟨[(0, .cl .sh (.sl (.int .i64)) a), (1, .cl .sh (.sl (.int .i64)) b), (5, .cl .sh (.int .i64) s)], []⟩) (fun o => .inr (laws_eqInt64S_l0.wit a b o))) := by
  simp only [laws_eqInt64S_l0.B, cond_map, bind_map, sel_map, Option.map_some, Option.map_none]
  kernel_rfl
def laws_eqInt64S_l0.sp : SP := ⟨[(0, .cl .sh (.sl (.int .i64))), (1, .cl .sh (.sl (.int .i64))), (5, .cl .sh (.int .i64))], []⟩
noncomputable def laws_eqInt64S_l0.out (a : List Int) (b : List Int) : FOut (((Bool) ⊕ (Unit))) := fun o _ k => sel o (fun b => k (.rt) ⟨[(4, .cl .sh .bool b)], []⟩) (fun c => k (.ex 0) ⟨[], []⟩)
theorem laws_eqInt64S_l0.outEq (a : List Int) (b : List Int) (o : ((Bool) ⊕ (Unit))) (R : Type) (k : Ex → St → Option R) : laws_eqInt64S_l0.out a b o R k = k (laws_eqInt64S_l0.wit a b o).1 (laws_eqInt64S_l0.wit a b o).2 := by
  rcases o with o | o <;> rfl
noncomputable def laws_eqInt64S_l0.F (x : laws_eqInt64S_l0.sp.El) (R : Type) (k : Ex → St → Option R) : Option R := (laws_eqInt64S_l0 x.1.1 x.1.2.1 x.1.2.2.1).bind fun t => laws_eqInt64S_l0.out x.1.1 x.1.2.1 t R k
noncomputable def laws_eqInt64S_l0.fr : St → ∀ R : Type, (Ex → St → Option R) → Option R := mkFrag laws_eqInt64S_l0.sp laws_eqInt64S_l0.F
theorem laws_eqInt64S_l0.ok : CodeOk Go.Proofs.Try.prog 26 2 (.loop (codeAt (bodyOf Go.Proofs.Try.f83) [1, 1, 0, 1, 0, 0])) laws_eqInt64S_l0.fr :=
  loop_sound (sp := laws_eqInt64S_l0.sp) rfl (F := laws_eqInt64S_l0.F) (ev_sound (hn := laws_eqInt64S.hn) (G := laws_eqInt64S.G) (L := mkL []) tbok laws_eqInt64S.Gok hmix _ (.no) (hok_of (l := []) (by kernel_rfl) trivial)) 
    fun x => ⟨_, _, fun s => laws_eqInt64S_l0.B x.1.1 x.1.2.1 s, fun s => ⟨[(0, .cl .sh (.sl (.int .i64)) x.1.1), (1, .cl .sh (.sl (.int .i64)) x.1.2.1), (5, .cl .sh (.int .i64) s)], []⟩, laws_eqInt64S_l0.wit x.1.1 x.1.2.1, x.1.2.2.1, rfl, fun s => laws_eqInt64S_l0.eq x.1.1 x.1.2.1 s, fun R k => congrArg (fun g => (laws_eqInt64S_l0 x.1.1 x.1.2.1 x.1.2.2.1).bind g) (funext fun t => laws_eqInt64S_l0.outEq x.1.1 x.1.2.1 t R k)⟩
noncomputable def laws_eqInt64S.L : Lam := mkL [(0, laws_eqInt64S_l0.fr)]
def laws_eqInt64S.out (t : Bool) : Out := ⟨[.cl .sh .bool t], []⟩
theorem laws_eqInt64S.eq (a : List Int) (b : List Int) : ev tb laws_eqInt64S.hn 26 2 laws_eqInt64S.G laws_eqInt64S.L (bodyOf Go.Proofs.Try.f83) (.two (.no) (.two (.no) (.two (.two (.no) (.one (.fr 0))) (.no)))) (initSt [.cl .sh (.sl (.int .i64)) a, .cl .sh (.sl (.int .i64)) b]) (kfin tb laws_eqInt64S.hn Go.Proofs.Try.f83 [.sh, .sh]) =
    (laws_eqInt64S a b).map laws_eqInt64S.out := by
  simp only [laws_eqInt64S, cond_map, bind_map, sel_map, Option.map_some, Option.map_none]
  kernel_rfl
def laws_eqInt64S.pts : List PT := [.cl .sh (.sl (.int .i64)), .cl .sh (.sl (.int .i64))]
noncomputable def laws_eqInt64S.FS : FS := mkFS [.sh, .sh] laws_eqInt64S.pts (fun x => laws_eqInt64S x.1 x.2.1) laws_eqInt64S.out
theorem laws_eqInt64S.ok : FsOk Go.Proofs.Try.prog 83 laws_eqInt64S.FS :=
  fs_ok (fn := Go.Proofs.Try.f83) tbok (by kernel_rfl) (body_some (by kernel_rfl)) (by kernel_rfl) (pts := laws_eqInt64S.pts) (ev_sound (nt := 26) (np := 2) (hn := laws_eqInt64S.hn) (G := laws_eqInt64S.G) (L := laws_eqInt64S.L) tbok laws_eqInt64S.Gok hmix _ (.two (.no) (.two (.no) (.two (.two (.no) (.one (.fr 0))) (.no)))) (hok_of (l := [(0, .loop (codeAt (bodyOf Go.Proofs.Try.f83) [1, 1, 0, 1, 0, 0]))]) (by kernel_rfl) ⟨Lam.cons laws_eqInt64S_l0.ok, trivial⟩)) rfl rfl
    fun x => laws_eqInt64S.eq x.1 x.2.1
noncomputable def laws_eqInt64SS_l0.B (a : List (List Int)) (b : List (List Int)) (i_ : Int) : Option ((Int) ⊕ (((Bool) ⊕ (Unit)))) :=
  cond (decide (i_ < (a.length : Int))) (cond (inB i_ a.length) (cond (inB i_ b.length) ((laws_eqInt64S (a.getD i_.toNat []) (b.getD i_.toNat [])).bind fun r => cond (!r) (some (.inr (.inl false))) (some (.inl (w64 (i_ + 1))))) (none)) (none)) (some (.inr (.inr ())))
noncomputable def laws_eqInt64SS_l0 (a : List (List Int)) (b : List (List Int)) : (Int) → Option (((Bool) ⊕ (Unit))) :=
  loopL fun s => laws_eqInt64SS_l0.B a b s
noncomputable def laws_eqInt64SS (a : List (List Int)) (b : List (List Int)) : Option (Bool) :=
  cond ((a.length : Int) != (b.length : Int)) (some false) ((laws_eqInt64SS_l0 a b 0).bind fun o => sel o (fun b2 => some b2) (fun c => some true))
noncomputable def laws_eqInt64SS.G : Gam := mkG [(83, laws_eqInt64S.FS)]
theorem laws_eqInt64SS.Gok : GOk Go.Proofs.Try.prog laws_eqInt64SS.G := GOk.cons (laws_eqInt64S.ok) (GOk.nil)
def laws_eqInt64SS.hn : Hint := ⟨[], [], [], 0⟩
noncomputable def laws_eqInt64SS_l0.wit (a : List (List Int)) (b : List (List Int)) (o : ((Bool) ⊕ (Unit))) : Ex × St := sel o (fun b => (.rt, ⟨[(4, .cl .sh .bool b)], []⟩)) (fun c => (.ex 0, ⟨[], []⟩))
theorem laws_eqInt64SS_l0.eq (a : List (List Int)) (b : List (List Int)) (i_ : Int) : ev tb laws_eqInt64SS.hn 27 2 laws_eqInt64SS.G (mkL []) (codeAt (bodyOf Go.Proofs.Try.f101) [1, 1, 0, 1, 0, 0]) (.no) ⟨[(0, .cl .sh (.sl (.sl (.int .i64))) a), (1, .cl .sh (.sl (.sl (.int .i64))) b), (5, .cl .sh (.int .i64) i_)], []⟩ (kLp (([0, 1, 5], [])) [(0, ([], []))] ([4], [])) =
    (laws_eqInt64SS_l0.B a b i_).map (fun o => sel o (fun s => .inl ⟨[(0, .cl .sh (.sl (.sl (.int .i64))) a), (1, .cl .sh (.sl (.sl (.int .i64))) b), (5, .cl .sh (.int .i64) s)], []⟩) (fun o => .inr (laws_eqInt64SS_l0.wit a b o))) := by
  simp only [laws_eqInt64SS_l0.B, cond_map, bind_map, sel_map, Option.map_some, Option.map_none]
  kernel_rfl
def laws_eqInt64SS_l0.sp : SP := ⟨[(0, .cl .sh (.sl (.sl (.int .i64)))), (1, .cl .sh (.sl (.sl (.int .i64)))), (5, .cl .sh (.int .i64))], []⟩
noncomputable def laws_eqInt64SS_l0.out (a : List (List Int)) (b : List (List Int)) : FOut (((Bool) ⊕ (Unit))) := fun o _ k => sel o (fun b => k (.rt) ⟨[(4, .cl .sh .bool b)], []⟩) (fun c => k (.ex 0) ⟨[], []⟩)
theorem laws_eqInt64SS_l0.outEq (a : List (List Int)) (b : List (List Int)) (o : ((Bool) ⊕ (Unit))) (R : Type) (k : Ex → St → Option R) : laws_eqInt64SS_l0.out a b o R k = k (laws_eqInt64SS_l0.wit a b o).1 (laws_eqInt64SS_l0.wit a b o).2 := by
  rcases o with o | o <;> rfl
noncomputable def laws_eqInt64SS_l0.F (x : laws_eqInt64SS_l0.sp.El) (R : Type) (k : Ex → St → Option R) : Option R := (laws_eqInt64SS_l0 x.1.1 x.1.2.1 x.1.2.2.1).bind fun t => laws_eqInt64SS_l0.out x.1.1 x.1.2.1 t R k
noncomputable def laws_eqInt64SS_l0.fr : St → ∀ R : Type, (Ex → St → Option R) → Option R := mkFrag laws_eqInt64SS_l0.sp laws_eqInt64SS_l0.F
theorem laws_eqInt64SS_l0.ok : CodeOk Go.Proofs.Try.prog 27 2 (.loop (codeAt (bodyOf Go.Proofs.Try.f101) [1, 1, 0, 1, 0, 0])) laws_eqInt64SS_l0.fr :=
  loop_sound (sp := laws_eqInt64SS_l0.sp) rfl (F := laws_eqInt64SS_l0.F) (ev_sound (hn := laws_eqInt64SS.hn) (G := laws_eqInt64SS.G) (L := mkL []) tbok laws_eqInt64SS.Gok hmix _ (.no) (hok_of (l := []) (by kernel_rfl) trivial)) 
    fun x => ⟨_, _, fun s => laws_eqInt64SS_l0.B x.1.1 x.1.2.1 s, fun s => ⟨[(0, .cl .sh (.sl (.sl (.int .i64))) x.1.1), (1, .cl .sh (.sl (.sl (.int .i64))) x.1.2.1), (5, .cl .sh (.int .i64) s)], []⟩, laws_eqInt64SS_l0.wit x.1.1 x.1.2.1, x.1.2.2.1, rfl, fun s => laws_eqInt64SS_l0.eq x.1.1 x.1.2.1 s, fun R k => congrArg (fun g => (laws_eqInt64SS_l0 x.1.1 x.1.2.1 x.1.2.2.1).bind g) (funext fun t => laws_eqInt64SS_l0.outEq x.1.1 x.1.2.1 t R k)⟩
noncomputable def laws_eqInt64SS.L : Lam := mkL [(0, laws_eqInt64SS_l0.fr)]
def laws_eqInt64SS.out (t : Bool) : Out := ⟨[.cl .sh .bool t], []⟩
theorem laws_eqInt64SS.eq (a : List (List Int)) (b : List (List Int)) : ev tb laws_eqInt64SS.hn 27 2 laws_eqInt64SS.G laws_eqInt64SS.L (bodyOf Go.Proofs.Try.f101) (.two (.no) (.two (.no) (.two (.two (.no) (.one (.fr 0))) (.no)))) (initSt [.cl .sh (.sl (.sl (.int .i64))) a, .cl .sh (.sl (.sl (.int .i64))) b]) (kfin tb laws_eqInt64SS.hn Go.Proofs.Try.f101 [.sh, .sh]) =
    (laws_eqInt64SS a b).map laws_eqInt64SS.out := by
  simp only [laws_eqInt64SS, cond_map, bind_map, sel_map, Option.map_some, Option.map_none]
  kernel_rfl
def laws_eqInt64SS.pts : List PT := [.cl .sh (.sl (.sl (.int .i64))), .cl .sh (.sl (.sl (.int .i64)))]
noncomputable def laws_eqInt64SS.FS : FS := mkFS [.sh, .sh] laws_eqInt64SS.pts (fun x => laws_eqInt64SS x.1 x.2.1) laws_eqInt64SS.out
theorem laws_eqInt64SS.ok : FsOk Go.Proofs.Try.prog 101 laws_eqInt64SS.FS :=
  fs_ok (fn := Go.Proofs.Try.f101) tbok (by kernel_rfl) (body_some (by kernel_rfl)) (by kernel_rfl) (pts := laws_eqInt64SS.pts) (ev_sound (nt := 27) (np := 2) (hn := laws_eqInt64SS.hn) (G := laws_eqInt64SS.G) (L := laws_eqInt64SS.L) tbok laws_eqInt64SS.Gok hmix _ (.two (.no) (.two (.no) (.two (.two (.no) (.one (.fr 0))) (.no)))) (hok_of (l := [(0, .loop (codeAt (bodyOf Go.Proofs.Try.f101) [1, 1, 0, 1, 0, 0]))]) (by kernel_rfl) ⟨Lam.cons laws_eqInt64SS_l0.ok, trivial⟩)) rfl rfl
    fun x => laws_eqInt64SS.eq x.1 x.2.1
noncomputable def laws_eqPut (a : Put_) (b : Put_) : Option (Bool) :=
  cond (a.1 != b.1) (some false) ((laws_eqInt64S a.2.1 b.2.1).bind fun r => cond (!r) (some false) (some true))
noncomputable def laws_eqPut.G : Gam := mkG [(83, laws_eqInt64S.FS)]
theorem laws_eqPut.Gok : GOk Go.Proofs.Try.prog laws_eqPut.G := GOk.cons (laws_eqInt64S.ok) (GOk.nil)
def laws_eqPut.hn : Hint := ⟨[2, 3], [], [], 0⟩
noncomputable def laws_eqPut.L : Lam := mkL []
def laws_eqPut.out (t : Bool) : Out := ⟨[.cl .sh .bool t], []⟩
theorem laws_eqPut.eq (a : Put_) (b : Put_) : ev tb laws_eqPut.hn 16 2 laws_eqPut.G laws_eqPut.L (bodyOf Go.Proofs.Try.f112) (.no) (initSt [.cl .sh tPut_ a, .cl .sh tPut_ b]) (kfin tb laws_eqPut.hn Go.Proofs.Try.f112 [.sh, .sh]) =
    (laws_eqPut a b).map laws_eqPut.out := by
  simp only [laws_eqPut, cond_map, bind_map, sel_map, Option.map_some, Option.map_none]
  kernel_rfl
def laws_eqPut.pts : List PT := [.cl .sh tPut_, .cl .sh tPut_]
noncomputable def laws_eqPut.FS : FS := mkFS [.sh, .sh] laws_eqPut.pts (fun x => laws_eqPut x.1 x.2.1) laws_eqPut.out
theorem laws_eqPut.ok : FsOk Go.Proofs.Try.prog 112 laws_eqPut.FS :=
  fs_ok (fn := Go.Proofs.Try.f112) tbok (by kernel_rfl) (body_some (by kernel_rfl)) (by kernel_rfl) (pts := laws_eqPut.pts) (ev_sound (nt := 16) (np := 2) (hn := laws_eqPut.hn) (G := laws_eqPut.G) (L := laws_eqPut.L) tbok laws_eqPut.Gok hmix _ (.no) (hok_of (l := []) (by kernel_rfl) trivial)) rfl rfl
    fun x => laws_eqPut.eq x.1 x.2.1
noncomputable def laws_eqPutS_l0.B (a : List Put_) (b : List Put_) (i_ : Int) : Option ((Int) ⊕ (((Bool) ⊕ (Unit)))) :=
  cond (decide (i_ < (a.length : Int))) (cond (inB i_ a.length) (cond (inB i_ b.length) ((laws_eqPut (a.getD i_.toNat zPut_) (b.getD i_.toNat zPut_)).bind fun r => cond (!r) (some (.inr (.inl false))) (some (.inl (w64 (i_ + 1))))) (none)) (none)) (some (.inr (.inr ())))
noncomputable def laws_eqPutS_l0 (a : List Put_) (b : List Put_) : (Int) → Option (((Bool) ⊕ (Unit))) :=
  loopL fun s => laws_eqPutS_l0.B a b s
noncomputable def laws_eqPutS (a : List Put_) (b : List Put_) : Option (Bool) :=
  cond ((a.length : Int) != (b.length : Int)) (some false) ((laws_eqPutS_l0 a b 0).bind fun o => sel o (fun b2 => some b2) (fun c => some true))
noncomputable def laws_eqPutS.G : Gam := mkG [(112, laws_eqPut.FS)]
theorem laws_eqPutS.Gok : GOk Go.Proofs.Try.prog laws_eqPutS.G := GOk.cons (laws_eqPut.ok) (GOk.nil)
def laws_eqPutS.hn : Hint := ⟨[], [], [], 0⟩
noncomputable def laws_eqPutS_l0.wit (a : List Put_) (b : List Put_) (o : ((Bool) ⊕ (Unit))) : Ex × St := sel o (fun b => (.rt, ⟨[(4, .cl .sh .bool b)], []⟩)) (fun c => (.ex 0, ⟨[], []⟩))
theorem laws_eqPutS_l0.eq (a : List Put_) (b : List Put_) (i_ : Int) : ev tb laws_eqPutS.hn 27 2 laws_eqPutS.G (mkL []) (codeAt (bodyOf Go.Proofs.Try.f45) [1, 1, 0, 1, 0, 0]) (.no) ⟨[(0, .cl .sh (.sl tPut_) a), (1, .cl .sh (.sl tPut_) b), (5, .cl .sh (.int .i64) i_)], []⟩ (kLp (([0, 1, 5], [])) [(0, ([], []))] ([4], [])) =
    (laws_eqPutS_l0.B a b i_).map (fun o => sel o (fun s => .inl ⟨[(0, .cl .sh (.sl tPut_) a), (1, .cl .sh (.sl tPut_) b), (5, .cl .sh (.int .i64) s)], []⟩) (fun o => .inr (laws_eqPutS_l0.wit a b o))) := by
  simp only [laws_eqPutS_l0.B, cond_map, bind_map, sel_map, Option.map_some, Option.map_none]
  kernel_rfl
def laws_eqPutS_l0.sp : SP := ⟨[(0, .cl .sh (.sl tPut_)), (1, .cl .sh (.sl tPut_)), (5, .cl .sh (.int .i64))], []⟩
noncomputable def laws_eqPutS_l0.out (a : List Put_) (b : List Put_) : FOut (((Bool) ⊕ (Unit))) := fun o _ k => sel o (fun b => k (.rt) ⟨[(4, .cl .sh .bool b)], []⟩) (fun c => k (.ex 0) ⟨[], []⟩)
theorem laws_eqPutS_l0.outEq (a : List Put_) (b : List Put_) (o : ((Bool) ⊕ (Unit))) (R : Type) (k : Ex → St → Option R) : laws_eqPutS_l0.out a b o R k = k (laws_eqPutS_l0.wit a b o).1 (laws_eqPutS_l0.wit a b o).2 := by
  rcases o with o | o <;> rfl
noncomputable def laws_eqPutS_l0.F (x : laws_eqPutS_l0.sp.El) (R : Type) (k : Ex → St → Option R) : Option R := (laws_eqPutS_l0 x.1.1 x.1.2.1 x.1.2.2.1).bind fun t => laws_eqPutS_l0.out x.1.1 x.1.2.1 t R k
noncomputable def laws_eqPutS_l0.fr : St → ∀ R : Type, (Ex → St → Option R) → Option R := mkFrag laws_eqPutS_l0.sp laws_eqPutS_l0.F
theorem laws_eqPutS_l0.ok : CodeOk Go.Proofs.Try.prog 27 2 (.loop (codeAt (bodyOf Go.Proofs.Try.f45) [1, 1, 0, 1, 0, 0])) laws_eqPutS_l0.fr :=
  loop_sound (sp := laws_eqPutS_l0.sp) rfl (F := laws_eqPutS_l0.F) (ev_sound (hn := laws_eqPutS.hn) (G := laws_eqPutS.G) (L := mkL []) tbok laws_eqPutS.Gok hmix _ (.no) (hok_of (l := []) (by kernel_rfl) trivial)) 
    fun x => ⟨_, _, fun s => laws_eqPutS_l0.B x.1.1 x.1.2.1 s, fun s => ⟨[(0, .cl .sh (.sl tPut_) x.1.1), (1, .cl .sh (.sl tPut_) x.1.2.1), (5, .cl .sh (.int .i64) s)], []⟩, laws_eqPutS_l0.wit x.1.1 x.1.2.1, x.1.2.2.1, rfl, fun s => laws_eqPutS_l0.eq x.1.1 x.1.2.1 s, fun R k => congrArg (fun g => (laws_eqPutS_l0 x.1.1 x.1.2.1 x.1.2.2.1).bind g) (funext fun t => laws_eqPutS_l0.outEq x.1.1 x.1.2.1 t R k)⟩
noncomputable def laws_eqPutS.L : Lam := mkL [(0, laws_eqPutS_l0.fr)]
def laws_eqPutS.out (t : Bool) : Out := ⟨[.cl .sh .bool t], []⟩
theorem laws_eqPutS.eq (a : List Put_) (b : List Put_) : ev tb laws_eqPutS.hn 27 2 laws_eqPutS.G laws_eqPutS.L (bodyOf Go.Proofs.Try.f45) (.two (.no) (.two (.no) (.two (.two (.no) (.one (.fr 0))) (.no)))) (initSt [.cl .sh (.sl tPut_) a, .cl .sh (.sl tPut_) b]) (kfin tb laws_eqPutS.hn Go.Proofs.Try.f45 [.sh, .sh]) =
    (laws_eqPutS a b).map laws_eqPutS.out := by
  simp only [laws_eqPutS, cond_map, bind_map, sel_map, Option.map_some, Option.map_none]
  kernel_rfl
def laws_eqPutS.pts : List PT := [.cl .sh (.sl tPut_), .cl .sh (.sl tPut_)]
noncomputable def laws_eqPutS.FS : FS := mkFS [.sh, .sh] laws_eqPutS.pts (fun x => laws_eqPutS x.1 x.2.1) laws_eqPutS.out
theorem laws_eqPutS.ok : FsOk Go.Proofs.Try.prog 45 laws_eqPutS.FS :=
  fs_ok (fn := Go.Proofs.Try.f45) tbok (by kernel_rfl) (body_some (by kernel_rfl)) (by kernel_rfl) (pts := laws_eqPutS.pts) (ev_sound (nt := 27) (np := 2) (hn := laws_eqPutS.hn) (G := laws_eqPutS.G) (L := laws_eqPutS.L) tbok laws_eqPutS.Gok hmix _ (.two (.no) (.two (.no) (.two (.two (.no) (.one (.fr 0))) (.no)))) (hok_of (l := [(0, .loop (codeAt (bodyOf Go.Proofs.Try.f45) [1, 1, 0, 1, 0, 0]))]) (by kernel_rfl) ⟨Lam.cons laws_eqPutS_l0.ok, trivial⟩)) rfl rfl
    fun x => laws_eqPutS.eq x.1 x.2.1
noncomputable def laws_eqDisk (a : Disk_) (b : Disk_) : Option (Bool) :=
  (laws_eqInt64SS a.1 b.1).bind fun r => cond (!r) (some false) ((laws_eqPutS a.2.1 b.2.1).bind fun r2 => cond (!r2) (some false) (some true))
noncomputable def laws_eqDisk.G : Gam := mkG [(101, laws_eqInt64SS.FS), (45, laws_eqPutS.FS)]
theorem laws_eqDisk.Gok : GOk Go.Proofs.Try.prog laws_eqDisk.G := GOk.cons (laws_eqInt64SS.ok) (GOk.cons (laws_eqPutS.ok) (GOk.nil))
def laws_eqDisk.hn : Hint := ⟨[2, 3], [], [], 0⟩
noncomputable def laws_eqDisk.L : Lam := mkL []
def laws_eqDisk.out (t : Bool) : Out := ⟨[.cl .sh .bool t], []⟩
theorem laws_eqDisk.eq (a : Disk_) (b : Disk_) : ev tb laws_eqDisk.hn 17 2 laws_eqDisk.G laws_eqDisk.L (bodyOf Go.Proofs.Try.f39) (.no) (initSt [.cl .sh tDisk_ a, .cl .sh tDisk_ b]) (kfin tb laws_eqDisk.hn Go.Proofs.Try.f39 [.sh, .sh]) =
    (laws_eqDisk a b).map laws_eqDisk.out := by
  simp only [laws_eqDisk, cond_map, bind_map, sel_map, Option.map_some, Option.map_none]
  kernel_rfl
def laws_eqDisk.pts : List PT := [.cl .sh tDisk_, .cl .sh tDisk_]
noncomputable def laws_eqDisk.FS : FS := mkFS [.sh, .sh] laws_eqDisk.pts (fun x => laws_eqDisk x.1 x.2.1) laws_eqDisk.out
theorem laws_eqDisk.ok : FsOk Go.Proofs.Try.prog 39 laws_eqDisk.FS :=
  fs_ok (fn := Go.Proofs.Try.f39) tbok (by kernel_rfl) (body_some (by kernel_rfl)) (by kernel_rfl) (pts := laws_eqDisk.pts) (ev_sound (nt := 17) (np := 2) (hn := laws_eqDisk.hn) (G := laws_eqDisk.G) (L := laws_eqDisk.L) tbok laws_eqDisk.Gok hmix _ (.no) (hok_of (l := []) (by kernel_rfl) trivial)) rfl rfl
    fun x => laws_eqDisk.eq x.1 x.2.1
noncomputable def laws_eqDiskResult (a : DiskResult_) (b : DiskResult_) : Option (Bool) :=
  cond (a.1 != b.1) (some false) ((laws_eqDisk a.2.1 b.2.1).bind fun r => cond (!r) (some false) (some true))
noncomputable def laws_eqDiskResult.G : Gam := mkG [(39, laws_eqDisk.FS)]
theorem laws_eqDiskResult.Gok : GOk Go.Proofs.Try.prog laws_eqDiskResult.G := GOk.cons (laws_eqDisk.ok) (GOk.nil)
def laws_eqDiskResult.hn : Hint := ⟨[2, 3], [], [], 0⟩
noncomputable def laws_eqDiskResult.L : Lam := mkL []
def laws_eqDiskResult.out (t : Bool) : Out := ⟨[.cl .sh .bool t], []⟩
theorem laws_eqDiskResult.eq (a : DiskResult_) (b : DiskResult_) : ev tb laws_eqDiskResult.hn 16 2 laws_eqDiskResult.G laws_eqDiskResult.L (bodyOf Go.Proofs.Try.f26) (.no) (initSt [.cl .sh tDiskResult_ a, .cl .sh tDiskResult_ b]) (kfin tb laws_eqDiskResult.hn Go.Proofs.Try.f26 [.sh, .sh]) =
    (laws_eqDiskResult a b).map laws_eqDiskResult.out := by
  simp only [laws_eqDiskResult, cond_map, bind_map, sel_map, Option.map_some, Option.map_none]
  kernel_rfl
def laws_eqDiskResult.pts : List PT := [.cl .sh tDiskResult_, .cl .sh tDiskResult_]
noncomputable def laws_eqDiskResult.FS : FS := mkFS [.sh, .sh] laws_eqDiskResult.pts (fun x => laws_eqDiskResult x.1 x.2.1) laws_eqDiskResult.out
theorem laws_eqDiskResult.ok : FsOk Go.Proofs.Try.prog 26 laws_eqDiskResult.FS :=
  fs_ok (fn := Go.Proofs.Try.f26) tbok (by kernel_rfl) (body_some (by kernel_rfl)) (by kernel_rfl) (pts := laws_eqDiskResult.pts) (ev_sound (nt := 16) (np := 2) (hn := laws_eqDiskResult.hn) (G := laws_eqDiskResult.G) (L := laws_eqDiskResult.L) tbok laws_eqDiskResult.Gok hmix _ (.no) (hok_of (l := []) (by kernel_rfl) trivial)) rfl rfl
    fun x => laws_eqDiskResult.eq x.1 x.2.1
noncomputable def laws_markInt64S_l0.B (k_ : Int) (i_ : Int) (a_ : List Int) : Option ((Int × Int × List Int) ⊕ (Int × List Int)) :=
  cond (decide (i_ < (a_.length : Int))) (cond (inB i_ a_.length) (some (.inl (w64 (k_ + 1), w64 (i_ + 1), a_.set i_.toNat k_))) (none)) (some (.inr (k_, a_)))
noncomputable def laws_markInt64S_l0  : (Int × Int × List Int) → Option (Int × List Int) :=
  loopL fun s => laws_markInt64S_l0.B s.1 s.2.1 s.2.2
noncomputable def laws_markInt64S (a : List Int) (k : Int) : Option (Int × List Int) :=
  (laws_markInt64S_l0 (k, 0, a)).bind fun o => some (o.1, o.2)
noncomputable def laws_markInt64S.G : Gam := mkG []
theorem laws_markInt64S.Gok : GOk Go.Proofs.Try.prog laws_markInt64S.G := GOk.nil
def laws_markInt64S.hn : Hint := ⟨[], [], [], 0⟩
noncomputable def laws_markInt64S_l0.wit  (b : Int × List Int) : Ex × St := (.ex 0, ⟨[(1, .cl .sh (.int .i64) b.1)], [(0, some ⟨.reg, .cl .deep (.sl (.int .i64)) b.2⟩)]⟩)
theorem laws_markInt64S_l0.eq  (k_ : Int) (i_ : Int) (a_ : List Int) : ev tb laws_markInt64S.hn 19 2 laws_markInt64S.G (mkL []) (codeAt (bodyOf Go.Proofs.Try.f114) [1, 0, 1, 0, 0]) (.no) ⟨[(0, .seg 0 []), (1, .cl .sh (.int .i64) k_), (5, .cl .sh (.int .i64) i_)], [(0, some ⟨.reg, .cl .deep (.sl (.int .i64)) a_⟩)]⟩ (kLp (([0, 1, 5], [0])) [(0, ([1], [0]))] ([], [])) =
    (laws_markInt64S_l0.B  k_ i_ a_).map (fun o => sel o (fun s => .inl ⟨[(0, .seg 0 []), (1, .cl .sh (.int .i64) s.1), (5, .cl .sh (.int .i64) s.2.1)], [(0, some ⟨.reg, .cl .deep (.sl (.int .i64)) s.2.2⟩)]⟩) (fun b => .inr (laws_markInt64S_l0.wit  b))) := by
  simp only [laws_markInt64S_l0.B, cond_map, bind_map, sel_map, Option.map_some, Option.map_none]
  kernel_rfl
def laws_markInt64S_l0.sp : SP := ⟨[(0, .seg 0 []), (1, .cl .sh (.int .i64)), (5, .cl .sh (.int .i64))], [(0, .reg, .cl .deep (.sl (.int .i64)))]⟩
noncomputable def laws_markInt64S_l0.out  : FOut (Int × List Int) := fun b _ k => k (.ex 0) ⟨[(1, .cl .sh (.int .i64) b.1)], [(0, some ⟨.reg, .cl .deep (.sl (.int .i64)) b.2⟩)]⟩
theorem laws_markInt64S_l0.outEq  (o : Int × List Int) (R : Type) (k : Ex → St → Option R) : laws_markInt64S_l0.out  o R k = k (laws_markInt64S_l0.wit  o).1 (laws_markInt64S_l0.wit  o).2 := by
  rfl
noncomputable def laws_markInt64S_l0.F (x : laws_markInt64S_l0.sp.El) (R : Type) (k : Ex → St → Option R) : Option R := (laws_markInt64S_l0  (x.1.2.1, x.1.2.2.1, x.2.1)).bind fun t => laws_markInt64S_l0.out  t R k
noncomputable def laws_markInt64S_l0.fr : St → ∀ R : Type, (Ex → St → Option R) → Option R := mkFrag laws_markInt64S_l0.sp laws_markInt64S_l0.F
theorem laws_markInt64S_l0.ok : CodeOk Go.Proofs.Try.prog 19 2 (.loop (codeAt (bodyOf Go.Proofs.Try.f114) [1, 0, 1, 0, 0])) laws_markInt64S_l0.fr :=
  loop_sound (sp := laws_markInt64S_l0.sp) rfl (F := laws_markInt64S_l0.F) (ev_sound (hn := laws_markInt64S.hn) (G := laws_markInt64S.G) (L := mkL []) tbok laws_markInt64S.Gok hmix _ (.no) (hok_of (l := []) (by kernel_rfl) trivial)) 
    fun x => ⟨_, _, fun s => laws_markInt64S_l0.B  s.1 s.2.1 s.2.2, fun s => ⟨[(0, .seg 0 []), (1, .cl .sh (.int .i64) s.1), (5, .cl .sh (.int .i64) s.2.1)], [(0, some ⟨.reg, .cl .deep (.sl (.int .i64)) s.2.2⟩)]⟩, laws_markInt64S_l0.wit , (x.1.2.1, x.1.2.2.1, x.2.1), rfl, fun s => laws_markInt64S_l0.eq  s.1 s.2.1 s.2.2, fun R k => congrArg (fun g => (laws_markInt64S_l0  (x.1.2.1, x.1.2.2.1, x.2.1)).bind g) (funext fun t => laws_markInt64S_l0.outEq  t R k)⟩
noncomputable def laws_markInt64S.L : Lam := mkL [(0, laws_markInt64S_l0.fr)]
def laws_markInt64S.out (t : Int × List Int) : Out := ⟨[.cl .sh (.int .i64) t.1], [.cl .deep (.sl (.int .i64)) t.2]⟩
theorem laws_markInt64S.eq (a : List Int) (k : Int) : ev tb laws_markInt64S.hn 19 2 laws_markInt64S.G laws_markInt64S.L (bodyOf Go.Proofs.Try.f114) (.two (.no) (.two (.two (.no) (.one (.fr 0))) (.no))) (initSt [.cl .deep (.sl (.int .i64)) a, .cl .sh (.int .i64) k]) (kfin tb laws_markInt64S.hn Go.Proofs.Try.f114 [.mu, .sh]) =
    (laws_markInt64S a k).map laws_markInt64S.out := by
  simp only [laws_markInt64S, cond_map, bind_map, sel_map, Option.map_some, Option.map_none]
  kernel_rfl
def laws_markInt64S.pts : List PT := [.cl .deep (.sl (.int .i64)), .cl .sh (.int .i64)]
noncomputable def laws_markInt64S.FS : FS := mkFS [.mu, .sh] laws_markInt64S.pts (fun x => laws_markInt64S x.1 x.2.1) laws_markInt64S.out
theorem laws_markInt64S.ok : FsOk Go.Proofs.Try.prog 114 laws_markInt64S.FS :=
  fs_ok (fn := Go.Proofs.Try.f114) tbok (by kernel_rfl) (body_some (by kernel_rfl)) (by kernel_rfl) (pts := laws_markInt64S.pts) (ev_sound (nt := 19) (np := 2) (hn := laws_markInt64S.hn) (G := laws_markInt64S.G) (L := laws_markInt64S.L) tbok laws_markInt64S.Gok hmix _ (.two (.no) (.two (.two (.no) (.one (.fr 0))) (.no))) (hok_of (l := [(0, .loop (codeAt (bodyOf Go.Proofs.Try.f114) [1, 0, 1, 0, 0]))]) (by kernel_rfl) ⟨Lam.cons laws_markInt64S_l0.ok, trivial⟩)) rfl rfl
    fun x => laws_markInt64S.eq x.1 x.2.1
noncomputable def laws_markInt64SS_l0.B (k_ : Int) (i_ : Int) (a_ : List (List Int)) : Option ((Int × Int × List (List Int)) ⊕ (Int × List (List Int))) :=
  cond (decide (i_ < (a_.length : Int))) (cond (inB i_ a_.length) ((laws_markInt64S (a_.getD i_.toNat []) k_).bind fun r => some (.inl (r.1, w64 (i_ + 1), a_.set i_.toNat r.2))) (none)) (some (.inr (k_, a_)))
noncomputable def laws_markInt64SS_l0  : (Int × Int × List (List Int)) → Option (Int × List (List Int)) :=
  loopL fun s => laws_markInt64SS_l0.B s.1 s.2.1 s.2.2
noncomputable def laws_markInt64SS (a : List (List Int)) (k : Int) : Option (Int × List (List Int)) :=
  (laws_markInt64SS_l0 (k, 0, a)).bind fun o => some (o.1, o.2)
noncomputable def laws_markInt64SS.G : Gam := mkG [(114, laws_markInt64S.FS)]
theorem laws_markInt64SS.Gok : GOk Go.Proofs.Try.prog laws_markInt64SS.G := GOk.cons (laws_markInt64S.ok) (GOk.nil)
def laws_markInt64SS.hn : Hint := ⟨[], [], [], 0⟩
noncomputable def laws_markInt64SS_l0.wit  (b : Int × List (List Int)) : Ex × St := (.ex 0, ⟨[(1, .cl .sh (.int .i64) b.1)], [(0, some ⟨.reg, .cl .deep (.sl (.sl (.int .i64))) b.2⟩)]⟩)
theorem laws_markInt64SS_l0.eq  (k_ : Int) (i_ : Int) (a_ : List (List Int)) : ev tb laws_markInt64SS.hn 19 2 laws_markInt64SS.G (mkL []) (codeAt (bodyOf Go.Proofs.Try.f113) [1, 0, 1, 0, 0]) (.no) ⟨[(0, .seg 0 []), (1, .cl .sh (.int .i64) k_), (5, .cl .sh (.int .i64) i_)], [(0, some ⟨.reg, .cl .deep (.sl (.sl (.int .i64))) a_⟩)]⟩ (kLp (([0, 1, 5], [0])) [(0, ([1], [0]))] ([], [])) =
    (laws_markInt64SS_l0.B  k_ i_ a_).map (fun o => sel o (fun s => .inl ⟨[(0, .seg 0 []), (1, .cl .sh (.int .i64) s.1), (5, .cl .sh (.int .i64) s.2.1)], [(0, some ⟨.reg, .cl .deep (.sl (.sl (.int .i64))) s.2.2⟩)]⟩) (fun b => .inr (laws_markInt64SS_l0.wit  b))) := by
  simp only [laws_markInt64SS_l0.B, cond_map, bind_map, sel_map, Option.map_some, Option.map_none]
  kernel_rfl
def laws_markInt64SS_l0.sp : SP := ⟨[(0, .seg 0 []), (1, .cl .sh (.int .i64)), (5, .cl .sh (.int .i64))], [(0, .reg, .cl .deep (.sl (.sl (.int .i64))))]⟩
noncomputable def laws_markInt64SS_l0.out  : FOut (Int × List (List Int)) := fun b _ k => k (.ex 0) ⟨[(1, .cl .sh (.int .i64) b.1)], [(0, some ⟨.reg, .cl .deep (.sl (.sl (.int .i64))) b.2⟩)]⟩
theorem laws_markInt64SS_l0.outEq  (o : Int × List (List Int)) (R : Type) (k : Ex → St → Option R) : laws_markInt64SS_l0.out  o R k = k (laws_markInt64SS_l0.wit  o).1 (laws_markInt64SS_l0.wit  o).2 := by
  rfl
noncomputable def laws_markInt64SS_l0.F (x : laws_markInt64SS_l0.sp.El) (R : Type) (k : Ex → St → Option R) : Option R := (laws_markInt64SS_l0  (x.1.2.1, x.1.2.2.1, x.2.1)).bind fun t => laws_markInt64SS_l0.out  t R k
noncomputable def laws_markInt64SS_l0.fr : St → ∀ R : Type, (Ex → St → Option R) → Option R := mkFrag laws_markInt64SS_l0.sp laws_markInt64SS_l0.F
theorem laws_markInt64SS_l0.ok : CodeOk Go.Proofs.Try.prog 19 2 (.loop (codeAt (bodyOf Go.Proofs.Try.f113) [1, 0, 1, 0, 0])) laws_markInt64SS_l0.fr :=
  loop_sound (sp := laws_markInt64SS_l0.sp) rfl (F := laws_markInt64SS_l0.F) (ev_sound (hn := laws_markInt64SS.hn) (G := laws_markInt64SS.G) (L := mkL []) tbok laws_markInt64SS.Gok hmix _ (.no) (hok_of (l := []) (by kernel_rfl) trivial)) 
    fun x => ⟨_, _, fun s => laws_markInt64SS_l0.B  s.1 s.2.1 s.2.2, fun s => ⟨[(0, .seg 0 []), (1, .cl .sh (.int .i64) s.1), (5, .cl .sh (.int .i64) s.2.1)], [(0, some ⟨.reg, .cl .deep (.sl (.sl (.int .i64))) s.2.2⟩)]⟩, laws_markInt64SS_l0.wit , (x.1.2.1, x.1.2.2.1, x.2.1), rfl, fun s => laws_markInt64SS_l0.eq  s.1 s.2.1 s.2.2, fun R k => congrArg (fun g => (laws_markInt64SS_l0  (x.1.2.1, x.1.2.2.1, x.2.1)).bind g) (funext fun t => laws_markInt64SS_l0.outEq  t R k)⟩
noncomputable def laws_markInt64SS.L : Lam := mkL [(0, laws_markInt64SS_l0.fr)]
def laws_markInt64SS.out (t : Int × List (List Int)) : Out := ⟨[.cl .sh (.int .i64) t.1], [.cl .deep (.sl (.sl (.int .i64))) t.2]⟩
theorem laws_markInt64SS.eq (a : List (List Int)) (k : Int) : ev tb laws_markInt64SS.hn 19 2 laws_markInt64SS.G laws_markInt64SS.L (bodyOf Go.Proofs.Try.f113) (.two (.no) (.two (.two (.no) (.one (.fr 0))) (.no))) (initSt [.cl .deep (.sl (.sl (.int .i64))) a, .cl .sh (.int .i64) k]) (kfin tb laws_markInt64SS.hn Go.Proofs.Try.f113 [.mu, .sh]) =
    (laws_markInt64SS a k).map laws_markInt64SS.out := by
  simp only [laws_markInt64SS, cond_map, bind_map, sel_map, Option.map_some, Option.map_none]
  kernel_rfl
def laws_markInt64SS.pts : List PT := [.cl .deep (.sl (.sl (.int .i64))), .cl .sh (.int .i64)]
noncomputable def laws_markInt64SS.FS : FS := mkFS [.mu, .sh] laws_markInt64SS.pts (fun x => laws_markInt64SS x.1 x.2.1) laws_markInt64SS.out
theorem laws_markInt64SS.ok : FsOk Go.Proofs.Try.prog 113 laws_markInt64SS.FS :=
  fs_ok (fn := Go.Proofs.Try.f113) tbok (by kernel_rfl) (body_some (by kernel_rfl)) (by kernel_rfl) (pts := laws_markInt64SS.pts) (ev_sound (nt := 19) (np := 2) (hn := laws_markInt64SS.hn) (G := laws_markInt64SS.G) (L := laws_markInt64SS.L) tbok laws_markInt64SS.Gok hmix _ (.two (.no) (.two (.two (.no) (.one (.fr 0))) (.no))) (hok_of (l := [(0, .loop (codeAt (bodyOf Go.Proofs.Try.f113) [1, 0, 1, 0, 0]))]) (by kernel_rfl) ⟨Lam.cons laws_markInt64SS_l0.ok, trivial⟩)) rfl rfl
    fun x => laws_markInt64SS.eq x.1 x.2.1
noncomputable def laws_markPutS_l0.B (k_ : Int) (i_ : Int) (a_ : List Put_) : Option ((Int × Int × List Put_) ⊕ (Int × List Put_)) :=
  cond (decide (i_ < (a_.length : Int))) (cond (inB i_ a_.length) (cond (inB i_ ((a_.set i_.toNat (k_, (a_.getD i_.toNat zPut_).2)).length)) ((laws_markInt64S ((((a_.set i_.toNat (k_, (a_.getD i_.toNat zPut_).2)).getD i_.toNat zPut_).2).1) (w64 (k_ + 1))).bind fun r => some (.inl (r.1, w64 (i_ + 1), (a_.set i_.toNat (k_, (a_.getD i_.toNat zPut_).2)).set i_.toNat (((a_.set i_.toNat (k_, (a_.getD i_.toNat zPut_).2)).getD i_.toNat zPut_).1, r.2, (((a_.set i_.toNat (k_, (a_.getD i_.toNat zPut_).2)).getD i_.toNat zPut_).2).2)))) (none)) (none)) (some (.inr (k_, a_)))
noncomputable def laws_markPutS_l0  : (Int × Int × List Put_) → Option (Int × List Put_) :=
  loopL fun s => laws_markPutS_l0.B s.1 s.2.1 s.2.2
noncomputable def laws_markPutS (a : List Put_) (k : Int) : Option (Int × List Put_) :=
  (laws_markPutS_l0 (k, 0, a)).bind fun o => some (o.1, o.2)
noncomputable def laws_markPutS.G : Gam := mkG [(114, laws_markInt64S.FS)]
theorem laws_markPutS.Gok : GOk Go.Proofs.Try.prog laws_markPutS.G := GOk.cons (laws_markInt64S.ok) (GOk.nil)
def laws_markPutS.hn : Hint := ⟨[], [], [], 0⟩
noncomputable def laws_markPutS_l0.wit  (b : Int × List Put_) : Ex × St := (.ex 0, ⟨[(1, .cl .sh (.int .i64) b.1)], [(0, some ⟨.reg, .cl .deep (.sl tPut_) b.2⟩)]⟩)
theorem laws_markPutS_l0.eq  (k_ : Int) (i_ : Int) (a_ : List Put_) : ev tb laws_markPutS.hn 27 2 laws_markPutS.G (mkL []) (codeAt (bodyOf Go.Proofs.Try.f47) [1, 0, 1, 0, 0]) (.no) ⟨[(0, .seg 0 []), (1, .cl .sh (.int .i64) k_), (5, .cl .sh (.int .i64) i_)], [(0, some ⟨.reg, .cl .deep (.sl tPut_) a_⟩)]⟩ (kLp (([0, 1, 5], [0])) [(0, ([1], [0]))] ([], [])) =
    (laws_markPutS_l0.B  k_ i_ a_).map (fun o => sel o (fun s => .inl ⟨[(0, .seg 0 []), (1, .cl .sh (.int .i64) s.1), (5, .cl .sh (.int .i64) s.2.1)], [(0, some ⟨.reg, .cl .deep (.sl tPut_) s.2.2⟩)]⟩) (fun b => .inr (laws_markPutS_l0.wit  b))) := by
  simp only [laws_markPutS_l0.B, cond_map, bind_map, sel_map, Option.map_some, Option.map_none]
  kernel_rfl
def laws_markPutS_l0.sp : SP := ⟨[(0, .seg 0 []), (1, .cl .sh (.int .i64)), (5, .cl .sh (.int .i64))], [(0, .reg, .cl .deep (.sl tPut_))]⟩
noncomputable def laws_markPutS_l0.out  : FOut (Int × List Put_) := fun b _ k => k (.ex 0) ⟨[(1, .cl .sh (.int .i64) b.1)], [(0, some ⟨.reg, .cl .deep (.sl tPut_) b.2⟩)]⟩
theorem laws_markPutS_l0.outEq  (o : Int × List Put_) (R : Type) (k : Ex → St → Option R) : laws_markPutS_l0.out  o R k = k (laws_markPutS_l0.wit  o).1 (laws_markPutS_l0.wit  o).2 := by
  rfl
noncomputable def laws_markPutS_l0.F (x : laws_markPutS_l0.sp.El) (R : Type) (k : Ex → St → Option R) : Option R := (laws_markPutS_l0  (x.1.2.1, x.1.2.2.1, x.2.1)).bind fun t => laws_markPutS_l0.out  t R k
noncomputable def laws_markPutS_l0.fr : St → ∀ R : Type, (Ex → St → Option R) → Option R := mkFrag laws_markPutS_l0.sp laws_markPutS_l0.F
theorem laws_markPutS_l0.ok : CodeOk Go.Proofs.Try.prog 27 2 (.loop (codeAt (bodyOf Go.Proofs.Try.f47) [1, 0, 1, 0, 0])) laws_markPutS_l0.fr :=
  loop_sound (sp := laws_markPutS_l0.sp) rfl (F := laws_markPutS_l0.F) (ev_sound (hn := laws_markPutS.hn) (G := laws_markPutS.G) (L := mkL []) tbok laws_markPutS.Gok hmix _ (.no) (hok_of (l := []) (by kernel_rfl) trivial)) 
    fun x => ⟨_, _, fun s => laws_markPutS_l0.B  s.1 s.2.1 s.2.2, fun s => ⟨[(0, .seg 0 []), (1, .cl .sh (.int .i64) s.1), (5, .cl .sh (.int .i64) s.2.1)], [(0, some ⟨.reg, .cl .deep (.sl tPut_) s.2.2⟩)]⟩, laws_markPutS_l0.wit , (x.1.2.1, x.1.2.2.1, x.2.1), rfl, fun s => laws_markPutS_l0.eq  s.1 s.2.1 s.2.2, fun R k => congrArg (fun g => (laws_markPutS_l0  (x.1.2.1, x.1.2.2.1, x.2.1)).bind g) (funext fun t => laws_markPutS_l0.outEq  t R k)⟩
noncomputable def laws_markPutS.L : Lam := mkL [(0, laws_markPutS_l0.fr)]
def laws_markPutS.out (t : Int × List Put_) : Out := ⟨[.cl .sh (.int .i64) t.1], [.cl .deep (.sl tPut_) t.2]⟩
theorem laws_markPutS.eq (a : List Put_) (k : Int) : ev tb laws_markPutS.hn 27 2 laws_markPutS.G laws_markPutS.L (bodyOf Go.Proofs.Try.f47) (.two (.no) (.two (.two (.no) (.one (.fr 0))) (.no))) (initSt [.cl .deep (.sl tPut_) a, .cl .sh (.int .i64) k]) (kfin tb laws_markPutS.hn Go.Proofs.Try.f47 [.mu, .sh]) =
    (laws_markPutS a k).map laws_markPutS.out := by
  simp only [laws_markPutS, cond_map, bind_map, sel_map, Option.map_some, Option.map_none]
  kernel_rfl
def laws_markPutS.pts : List PT := [.cl .deep (.sl tPut_), .cl .sh (.int .i64)]
noncomputable def laws_markPutS.FS : FS := mkFS [.mu, .sh] laws_markPutS.pts (fun x => laws_markPutS x.1 x.2.1) laws_markPutS.out
theorem laws_markPutS.ok : FsOk Go.Proofs.Try.prog 47 laws_markPutS.FS :=
  fs_ok (fn := Go.Proofs.Try.f47) tbok (by kernel_rfl) (body_some (by kernel_rfl)) (by kernel_rfl) (pts := laws_markPutS.pts) (ev_sound (nt := 27) (np := 2) (hn := laws_markPutS.hn) (G := laws_markPutS.G) (L := laws_markPutS.L) tbok laws_markPutS.Gok hmix _ (.two (.no) (.two (.two (.no) (.one (.fr 0))) (.no))) (hok_of (l := [(0, .loop (codeAt (bodyOf Go.Proofs.Try.f47) [1, 0, 1, 0, 0]))]) (by kernel_rfl) ⟨Lam.cons laws_markPutS_l0.ok, trivial⟩)) rfl rfl
    fun x => laws_markPutS.eq x.1 x.2.1
noncomputable def laws_markDisk (a : Disk_) (k : Int) : Option (Int × Disk_) :=
  (laws_markInt64SS a.1 k).bind fun r => (laws_markPutS a.2.1 r.1).bind fun r2 => some (r2.1, (r.2, r2.2, a.2.2))
noncomputable def laws_markDisk.G : Gam := mkG [(113, laws_markInt64SS.FS), (47, laws_markPutS.FS)]
theorem laws_markDisk.Gok : GOk Go.Proofs.Try.prog laws_markDisk.G := GOk.cons (laws_markInt64SS.ok) (GOk.cons (laws_markPutS.ok) (GOk.nil))
def laws_markDisk.hn : Hint := ⟨[2], [], [], 0⟩
noncomputable def laws_markDisk.L : Lam := mkL []
def laws_markDisk.out (t : Int × Disk_) : Out := ⟨[.cl .sh (.int .i64) t.1], [.cl .deep tDisk_ t.2]⟩
theorem laws_markDisk.eq (a : Disk_) (k : Int) : ev tb laws_markDisk.hn 14 2 laws_markDisk.G laws_markDisk.L (bodyOf Go.Proofs.Try.f46) (.no) (initSt [.cl .deep tDisk_ a, .cl .sh (.int .i64) k]) (kfin tb laws_markDisk.hn Go.Proofs.Try.f46 [.mu, .sh]) =
    (laws_markDisk a k).map laws_markDisk.out := by
  simp only [laws_markDisk, cond_map, bind_map, sel_map, Option.map_some, Option.map_none]
  kernel_rfl
def laws_markDisk.pts : List PT := [.cl .deep tDisk_, .cl .sh (.int .i64)]
noncomputable def laws_markDisk.FS : FS := mkFS [.mu, .sh] laws_markDisk.pts (fun x => laws_markDisk x.1 x.2.1) laws_markDisk.out
theorem laws_markDisk.ok : FsOk Go.Proofs.Try.prog 46 laws_markDisk.FS :=
  fs_ok (fn := Go.Proofs.Try.f46) tbok (by kernel_rfl) (body_some (by kernel_rfl)) (by kernel_rfl) (pts := laws_markDisk.pts) (ev_sound (nt := 14) (np := 2) (hn := laws_markDisk.hn) (G := laws_markDisk.G) (L := laws_markDisk.L) tbok laws_markDisk.Gok hmix _ (.no) (hok_of (l := []) (by kernel_rfl) trivial)) rfl rfl
    fun x => laws_markDisk.eq x.1 x.2.1
noncomputable def laws_markDiskResult (a : DiskResult_) (k : Int) : Option (Int × DiskResult_) :=
  (laws_markDisk (a.2.1.1, a.2.1.2.1, a.2.1.2.2) k).bind fun r => some (r.1, (a.1, (r.2.1, r.2.2.1, a.2.1.2.2), a.2.2))
noncomputable def laws_markDiskResult.G : Gam := mkG [(46, laws_markDisk.FS)]
theorem laws_markDiskResult.Gok : GOk Go.Proofs.Try.prog laws_markDiskResult.G := GOk.cons (laws_markDisk.ok) (GOk.nil)
def laws_markDiskResult.hn : Hint := ⟨[2], [], [], 0⟩
noncomputable def laws_markDiskResult.L : Lam := mkL []
def laws_markDiskResult.out (t : Int × DiskResult_) : Out := ⟨[.cl .sh (.int .i64) t.1], [.cl .deep tDiskResult_ t.2]⟩
theorem laws_markDiskResult.eq (a : DiskResult_) (k : Int) : ev tb laws_markDiskResult.hn 10 2 laws_markDiskResult.G laws_markDiskResult.L (bodyOf Go.Proofs.Try.f27) (.no) (initSt [.cl .deep tDiskResult_ a, .cl .sh (.int .i64) k]) (kfin tb laws_markDiskResult.hn Go.Proofs.Try.f27 [.mu, .sh]) =
    (laws_markDiskResult a k).map laws_markDiskResult.out := by
  simp only [laws_markDiskResult, cond_map, bind_map, sel_map, Option.map_some, Option.map_none]
  kernel_rfl
def laws_markDiskResult.pts : List PT := [.cl .deep tDiskResult_, .cl .sh (.int .i64)]
noncomputable def laws_markDiskResult.FS : FS := mkFS [.mu, .sh] laws_markDiskResult.pts (fun x => laws_markDiskResult x.1 x.2.1) laws_markDiskResult.out
theorem laws_markDiskResult.ok : FsOk Go.Proofs.Try.prog 27 laws_markDiskResult.FS :=
  fs_ok (fn := Go.Proofs.Try.f27) tbok (by kernel_rfl) (body_some (by kernel_rfl)) (by kernel_rfl) (pts := laws_markDiskResult.pts) (ev_sound (nt := 10) (np := 2) (hn := laws_markDiskResult.hn) (G := laws_markDiskResult.G) (L := laws_markDiskResult.L) tbok laws_markDiskResult.Gok hmix _ (.no) (hok_of (l := []) (by kernel_rfl) trivial)) rfl rfl
    fun x => laws_markDiskResult.eq x.1 x.2.1
noncomputable def laws_heldInt64S_l0.B (a : List Int) (k_ : Int) (i_ : Int) : Option ((Int × Int) ⊕ (((Int) ⊕ (Int)))) :=
  cond (decide (i_ < (a.length : Int))) (cond (inB i_ a.length) (cond ((a.getD i_.toNat 0) != k_) (some (.inr (.inl (-1)))) (some (.inl (w64 (k_ + 1), w64 (i_ + 1))))) (none)) (some (.inr (.inr k_)))
noncomputable def laws_heldInt64S_l0 (a : List Int) : (Int × Int) → Option (((Int) ⊕ (Int))) :=
  loopL fun s => laws_heldInt64S_l0.B a s.1 s.2
noncomputable def laws_heldInt64S (a : List Int) (k : Int) : Option (Int) :=
  (laws_heldInt64S_l0 a (k, 0)).bind fun o => sel o (fun b => some b) (fun c => some c)
noncomputable def laws_heldInt64S.G : Gam := mkG []
theorem laws_heldInt64S.Gok : GOk Go.Proofs.Try.prog laws_heldInt64S.G := GOk.nil
def laws_heldInt64S.hn : Hint := ⟨[], [], [], 0⟩
noncomputable def laws_heldInt64S_l0.wit (a : List Int) (o : ((Int) ⊕ (Int))) : Ex × St := sel o (fun b => (.rt, ⟨[(4, .cl .sh (.int .i64) b)], []⟩)) (fun c => (.ex 0, ⟨[(1, .cl .sh (.int .i64) c)], []⟩))
theorem laws_heldInt64S_l0.eq (a : List Int) (k_ : Int) (i_ : Int) : ev tb laws_heldInt64S.hn 21 2 laws_heldInt64S.G (mkL []) (codeAt (bodyOf Go.Proofs.Try.f147) [1, 0, 1, 0, 0]) (.no) ⟨[(0, .cl .sh (.sl (.int .i64)) a), (1, .cl .sh (.int .i64) k_), (5, .cl .sh (.int .i64) i_)], []⟩ (kLp (([0, 1, 5], [])) [(0, ([1], []))] ([4], [])) =
    (laws_heldInt64S_l0.B a k_ i_).map (fun o => sel o (fun s => .inl ⟨[(0, .cl .sh (.sl (.int .i64)) a), (1, .cl .sh (.int .i64) s.1), (5, .cl .sh (.int .i64) s.2)], []⟩) (fun o => .inr (laws_heldInt64S_l0.wit a o))) := by
  simp only [laws_heldInt64S_l0.B, cond_map, bind_map, sel_map, Option.map_some, Option.map_none]
  kernel_rfl
def laws_heldInt64S_l0.sp : SP := ⟨[(0, .cl .sh (.sl (.int .i64))), (1, .cl .sh (.int .i64)), (5, .cl .sh (.int .i64))], []⟩
noncomputable def laws_heldInt64S_l0.out (a : List Int) : FOut (((Int) ⊕ (Int))) := fun o _ k => sel o (fun b => k (.rt) ⟨[(4, .cl .sh (.int .i64) b)], []⟩) (fun c => k (.ex 0) ⟨[(1, .cl .sh (.int .i64) c)], []⟩)
theorem laws_heldInt64S_l0.outEq (a : List Int) (o : ((Int) ⊕ (Int))) (R : Type) (k : Ex → St → Option R) : laws_heldInt64S_l0.out a o R k = k (laws_heldInt64S_l0.wit a o).1 (laws_heldInt64S_l0.wit a o).2 := by
  rcases o with o | o <;> rfl
noncomputable def laws_heldInt64S_l0.F (x : laws_heldInt64S_l0.sp.El) (R : Type) (k : Ex → St → Option R) : Option R := (laws_heldInt64S_l0 x.1.1 (x.1.2.1, x.1.2.2.1)).bind fun t => laws_heldInt64S_l0.out x.1.1 t R k
noncomputable def laws_heldInt64S_l0.fr : St → ∀ R : Type, (Ex → St → Option R) → Option R := mkFrag laws_heldInt64S_l0.sp laws_heldInt64S_l0.F
theorem laws_heldInt64S_l0.ok : CodeOk Go.Proofs.Try.prog 21 2 (.loop (codeAt (bodyOf Go.Proofs.Try.f147) [1, 0, 1, 0, 0])) laws_heldInt64S_l0.fr :=
  loop_sound (sp := laws_heldInt64S_l0.sp) rfl (F := laws_heldInt64S_l0.F) (ev_sound (hn := laws_heldInt64S.hn) (G := laws_heldInt64S.G) (L := mkL []) tbok laws_heldInt64S.Gok hmix _ (.no) (hok_of (l := []) (by kernel_rfl) trivial)) 
    fun x => ⟨_, _, fun s => laws_heldInt64S_l0.B x.1.1 s.1 s.2, fun s => ⟨[(0, .cl .sh (.sl (.int .i64)) x.1.1), (1, .cl .sh (.int .i64) s.1), (5, .cl .sh (.int .i64) s.2)], []⟩, laws_heldInt64S_l0.wit x.1.1, (x.1.2.1, x.1.2.2.1), rfl, fun s => laws_heldInt64S_l0.eq x.1.1 s.1 s.2, fun R k => congrArg (fun g => (laws_heldInt64S_l0 x.1.1 (x.1.2.1, x.1.2.2.1)).bind g) (funext fun t => laws_heldInt64S_l0.outEq x.1.1 t R k)⟩
noncomputable def laws_heldInt64S.L : Lam := mkL [(0, laws_heldInt64S_l0.fr)]
def laws_heldInt64S.out (t : Int) : Out := ⟨[.cl .sh (.int .i64) t], []⟩
theorem laws_heldInt64S.eq (a : List Int) (k : Int) : ev tb laws_heldInt64S.hn 21 2 laws_heldInt64S.G laws_heldInt64S.L (bodyOf Go.Proofs.Try.f147) (.two (.no) (.two (.two (.no) (.one (.fr 0))) (.no))) (initSt [.cl .sh (.sl (.int .i64)) a, .cl .sh (.int .i64) k]) (kfin tb laws_heldInt64S.hn Go.Proofs.Try.f147 [.sh, .sh]) =
    (laws_heldInt64S a k).map laws_heldInt64S.out := by
  simp only [laws_heldInt64S, cond_map, bind_map, sel_map, Option.map_some, Option.map_none]
  kernel_rfl
def laws_heldInt64S.pts : List PT := [.cl .sh (.sl (.int .i64)), .cl .sh (.int .i64)]
noncomputable def laws_heldInt64S.FS : FS := mkFS [.sh, .sh] laws_heldInt64S.pts (fun x => laws_heldInt64S x.1 x.2.1) laws_heldInt64S.out
theorem laws_heldInt64S.ok : FsOk Go.Proofs.Try.prog 147 laws_heldInt64S.FS :=
  fs_ok (fn := Go.Proofs.Try.f147) tbok (by kernel_rfl) (body_some (by kernel_rfl)) (by kernel_rfl) (pts := laws_heldInt64S.pts) (ev_sound (nt := 21) (np := 2) (hn := laws_heldInt64S.hn) (G := laws_heldInt64S.G) (L := laws_heldInt64S.L) tbok laws_heldInt64S.Gok hmix _ (.two (.no) (.two (.two (.no) (.one (.fr 0))) (.no))) (hok_of (l := [(0, .loop (codeAt (bodyOf Go.Proofs.Try.f147) [1, 0, 1, 0, 0]))]) (by kernel_rfl) ⟨Lam.cons laws_heldInt64S_l0.ok, trivial⟩)) rfl rfl
    fun x => laws_heldInt64S.eq x.1 x.2.1
noncomputable def laws_heldInt64SS_l0.B (a : List (List Int)) (k_ : Int) (i_ : Int) : Option ((Int × Int) ⊕ (((Int) ⊕ (Int)))) :=
  cond (decide (i_ < (a.length : Int))) (cond (inB i_ a.length) ((laws_heldInt64S (a.getD i_.toNat []) k_).bind fun r => cond (decide (r < 0)) (some (.inr (.inl (-1)))) (some (.inl (r, w64 (i_ + 1))))) (none)) (some (.inr (.inr k_)))
noncomputable def laws_heldInt64SS_l0 (a : List (List Int)) : (Int × Int) → Option (((Int) ⊕ (Int))) :=
  loopL fun s => laws_heldInt64SS_l0.B a s.1 s.2
noncomputable def laws_heldInt64SS (a : List (List Int)) (k : Int) : Option (Int) :=
  (laws_heldInt64SS_l0 a (k, 0)).bind fun o => sel o (fun b => some b) (fun c => some c)
noncomputable def laws_heldInt64SS.G : Gam := mkG [(147, laws_heldInt64S.FS)]
theorem laws_heldInt64SS.Gok : GOk Go.Proofs.Try.prog laws_heldInt64SS.G := GOk.cons (laws_heldInt64S.ok) (GOk.nil)
def laws_heldInt64SS.hn : Hint := ⟨[], [], [], 0⟩
noncomputable def laws_heldInt64SS_l0.wit (a : List (List Int)) (o : ((Int) ⊕ (Int))) : Ex × St := sel o (fun b => (.rt, ⟨[(4, .cl .sh (.int .i64) b)], []⟩)) (fun c => (.ex 0, ⟨[(1, .cl .sh (.int .i64) c)], []⟩))
theorem laws_heldInt64SS_l0.eq (a : List (List Int)) (k_ : Int) (i_ : Int) : ev tb laws_heldInt64SS.hn 21 2 laws_heldInt64SS.G (mkL []) (codeAt (bodyOf Go.Proofs.Try.f139) [1, 0, 1, 0, 0]) (.no) ⟨[(0, .cl .sh (.sl (.sl (.int .i64))) a), (1, .cl .sh (.int .i64) k_), (5, .cl .sh (.int .i64) i_)], []⟩ (kLp (([0, 1, 5], [])) [(0, ([1], []))] ([4], [])) =
    (laws_heldInt64SS_l0.B a k_ i_).map (fun o => sel o (fun s => .inl ⟨[(0, .cl .sh (.sl (.sl (.int .i64))) a), (1, .cl .sh (.int .i64) s.1), (5, .cl .sh (.int .i64) s.2)], []⟩) (fun o => .inr (laws_heldInt64SS_l0.wit a o))) := by
  simp only [laws_heldInt64SS_l0.B, cond_map, bind_map, sel_map, Option.map_some, Option.map_none]
  kernel_rfl
def laws_heldInt64SS_l0.sp : SP := ⟨[(0, .cl .sh (.sl (.sl (.int .i64)))), (1, .cl .sh (.int .i64)), (5, .cl .sh (.int .i64))], []⟩
noncomputable def laws_heldInt64SS_l0.out (a : List (List Int)) : FOut (((Int) ⊕ (Int))) := fun o _ k => sel o (fun b => k (.rt) ⟨[(4, .cl .sh (.int .i64) b)], []⟩) (fun c => k (.ex 0) ⟨[(1, .cl .sh (.int .i64) c)], []⟩)
theorem laws_heldInt64SS_l0.outEq (a : List (List Int)) (o : ((Int) ⊕ (Int))) (R : Type) (k : Ex → St → Option R) : laws_heldInt64SS_l0.out a o R k = k (laws_heldInt64SS_l0.wit a o).1 (laws_heldInt64SS_l0.wit a o).2 := by
  rcases o with o | o <;> rfl
noncomputable def laws_heldInt64SS_l0.F (x : laws_heldInt64SS_l0.sp.El) (R : Type) (k : Ex → St → Option R) : Option R := (laws_heldInt64SS_l0 x.1.1 (x.1.2.1, x.1.2.2.1)).bind fun t => laws_heldInt64SS_l0.out x.1.1 t R k
noncomputable def laws_heldInt64SS_l0.fr : St → ∀ R : Type, (Ex → St → Option R) → Option R := mkFrag laws_heldInt64SS_l0.sp laws_heldInt64SS_l0.F
theorem laws_heldInt64SS_l0.ok : CodeOk Go.Proofs.Try.prog 21 2 (.loop (codeAt (bodyOf Go.Proofs.Try.f139) [1, 0, 1, 0, 0])) laws_heldInt64SS_l0.fr :=
  loop_sound (sp := laws_heldInt64SS_l0.sp) rfl (F := laws_heldInt64SS_l0.F) (ev_sound (hn := laws_heldInt64SS.hn) (G := laws_heldInt64SS.G) (L := mkL []) tbok laws_heldInt64SS.Gok hmix _ (.no) (hok_of (l := []) (by kernel_rfl) trivial)) 
    fun x => ⟨_, _, fun s => laws_heldInt64SS_l0.B x.1.1 s.1 s.2, fun s => ⟨[(0, .cl .sh (.sl (.sl (.int .i64))) x.1.1), (1, .cl .sh (.int .i64) s.1), (5, .cl .sh (.int .i64) s.2)], []⟩, laws_heldInt64SS_l0.wit x.1.1, (x.1.2.1, x.1.2.2.1), rfl, fun s => laws_heldInt64SS_l0.eq x.1.1 s.1 s.2, fun R k => congrArg (fun g => (laws_heldInt64SS_l0 x.1.1 (x.1.2.1, x.1.2.2.1)).bind g) (funext fun t => laws_heldInt64SS_l0.outEq x.1.1 t R k)⟩
noncomputable def laws_heldInt64SS.L : Lam := mkL [(0, laws_heldInt64SS_l0.fr)]
def laws_heldInt64SS.out (t : Int) : Out := ⟨[.cl .sh (.int .i64) t], []⟩
theorem laws_heldInt64SS.eq (a : List (List Int)) (k : Int) : ev tb laws_heldInt64SS.hn 21 2 laws_heldInt64SS.G laws_heldInt64SS.L (bodyOf Go.Proofs.Try.f139) (.two (.no) (.two (.two (.no) (.one (.fr 0))) (.no))) (initSt [.cl .sh (.sl (.sl (.int .i64))) a, .cl .sh (.int .i64) k]) (kfin tb laws_heldInt64SS.hn Go.Proofs.Try.f139 [.sh, .sh]) =
    (laws_heldInt64SS a k).map laws_heldInt64SS.out := by
  simp only [laws_heldInt64SS, cond_map, bind_map, sel_map, Option.map_some, Option.map_none]
  kernel_rfl
def laws_heldInt64SS.pts : List PT := [.cl .sh (.sl (.sl (.int .i64))), .cl .sh (.int .i64)]
noncomputable def laws_heldInt64SS.FS : FS := mkFS [.sh, .sh] laws_heldInt64SS.pts (fun x => laws_heldInt64SS x.1 x.2.1) laws_heldInt64SS.out
theorem laws_heldInt64SS.ok : FsOk Go.Proofs.Try.prog 139 laws_heldInt64SS.FS :=
  fs_ok (fn := Go.Proofs.Try.f139) tbok (by kernel_rfl) (body_some (by kernel_rfl)) (by kernel_rfl) (pts := laws_heldInt64SS.pts) (ev_sound (nt := 21) (np := 2) (hn := laws_heldInt64SS.hn) (G := laws_heldInt64SS.G) (L := laws_heldInt64SS.L) tbok laws_heldInt64SS.Gok hmix _ (.two (.no) (.two (.two (.no) (.one (.fr 0))) (.no))) (hok_of (l := [(0, .loop (codeAt (bodyOf Go.Proofs.Try.f139) [1, 0, 1, 0, 0]))]) (by kernel_rfl) ⟨Lam.cons laws_heldInt64SS_l0.ok, trivial⟩)) rfl rfl
    fun x => laws_heldInt64SS.eq x.1 x.2.1
noncomputable def laws_heldPutS_l0.B (a : List Put_) (k_ : Int) (i_ : Int) : Option ((Int × Int) ⊕ (((Int) ⊕ (Int)))) :=
  cond (decide (i_ < (a.length : Int))) (cond (inB i_ a.length) (cond (((a.getD i_.toNat zPut_).1) != k_) (some (.inr (.inl (-1)))) (cond (inB i_ a.length) ((laws_heldInt64S (((a.getD i_.toNat zPut_).2).1) (w64 (k_ + 1))).bind fun r => cond (decide (r < 0)) (some (.inr (.inl (-1)))) (some (.inl (r, w64 (i_ + 1))))) (none))) (none)) (some (.inr (.inr k_)))
noncomputable def laws_heldPutS_l0 (a : List Put_) : (Int × Int) → Option (((Int) ⊕ (Int))) :=
  loopL fun s => laws_heldPutS_l0.B a s.1 s.2
noncomputable def laws_heldPutS (a : List Put_) (k : Int) : Option (Int) :=
  (laws_heldPutS_l0 a (k, 0)).bind fun o => sel o (fun b => some b) (fun c => some c)
noncomputable def laws_heldPutS.G : Gam := mkG [(147, laws_heldInt64S.FS)]
theorem laws_heldPutS.Gok : GOk Go.Proofs.Try.prog laws_heldPutS.G := GOk.cons (laws_heldInt64S.ok) (GOk.nil)
def laws_heldPutS.hn : Hint := ⟨[], [], [], 0⟩
noncomputable def laws_heldPutS_l0.wit (a : List Put_) (o : ((Int) ⊕ (Int))) : Ex × St := sel o (fun b => (.rt, ⟨[(4, .cl .sh (.int .i64) b)], []⟩)) (fun c => (.ex 0, ⟨[(1, .cl .sh (.int .i64) c)], []⟩))
theorem laws_heldPutS_l0.eq (a : List Put_) (k_ : Int) (i_ : Int) : ev tb laws_heldPutS.hn 31 2 laws_heldPutS.G (mkL []) (codeAt (bodyOf Go.Proofs.Try.f115) [1, 0, 1, 0, 0]) (.no) ⟨[(0, .cl .sh (.sl tPut_) a), (1, .cl .sh (.int .i64) k_), (5, .cl .sh (.int .i64) i_)], []⟩ (kLp (([0, 1, 5], [])) [(0, ([1], []))] ([4], [])) =
    (laws_heldPutS_l0.B a k_ i_).map (fun o => sel o (fun s => .inl ⟨[(0, .cl .sh (.sl tPut_) a), (1, .cl .sh (.int .i64) s.1), (5, .cl .sh (.int .i64) s.2)], []⟩) (fun o => .inr (laws_heldPutS_l0.wit a o))) := by
  simp only [laws_heldPutS_l0.B, cond_map, bind_map, sel_map, Option.map_some, Option.map_none]
  kernel_rfl
def laws_heldPutS_l0.sp : SP := ⟨[(0, .cl .sh (.sl tPut_)), (1, .cl .sh (.int .i64)), (5, .cl .sh (.int .i64))], []⟩
noncomputable def laws_heldPutS_l0.out (a : List Put_) : FOut (((Int) ⊕ (Int))) := fun o _ k => sel o (fun b => k (.rt) ⟨[(4, .cl .sh (.int .i64) b)], []⟩) (fun c => k (.ex 0) ⟨[(1, .cl .sh (.int .i64) c)], []⟩)
theorem laws_heldPutS_l0.outEq (a : List Put_) (o : ((Int) ⊕ (Int))) (R : Type) (k : Ex → St → Option R) : laws_heldPutS_l0.out a o R k = k (laws_heldPutS_l0.wit a o).1 (laws_heldPutS_l0.wit a o).2 := by
  rcases o with o | o <;> rfl
noncomputable def laws_heldPutS_l0.F (x : laws_heldPutS_l0.sp.El) (R : Type) (k : Ex → St → Option R) : Option R := (laws_heldPutS_l0 x.1.1 (x.1.2.1, x.1.2.2.1)).bind fun t => laws_heldPutS_l0.out x.1.1 t R k
noncomputable def laws_heldPutS_l0.fr : St → ∀ R : Type, (Ex → St → Option R) → Option R := mkFrag laws_heldPutS_l0.sp laws_heldPutS_l0.F
theorem laws_heldPutS_l0.ok : CodeOk Go.Proofs.Try.prog 31 2 (.loop (codeAt (bodyOf Go.Proofs.Try.f115) [1, 0, 1, 0, 0])) laws_heldPutS_l0.fr :=
  loop_sound (sp := laws_heldPutS_l0.sp) rfl (F := laws_heldPutS_l0.F) (ev_sound (hn := laws_heldPutS.hn) (G := laws_heldPutS.G) (L := mkL []) tbok laws_heldPutS.Gok hmix _ (.no) (hok_of (l := []) (by kernel_rfl) trivial)) 
    fun x => ⟨_, _, fun s => laws_heldPutS_l0.B x.1.1 s.1 s.2, fun s => ⟨[(0, .cl .sh (.sl tPut_) x.1.1), (1, .cl .sh (.int .i64) s.1), (5, .cl .sh (.int .i64) s.2)], []⟩, laws_heldPutS_l0.wit x.1.1, (x.1.2.1, x.1.2.2.1), rfl, fun s => laws_heldPutS_l0.eq x.1.1 s.1 s.2, fun R k => congrArg (fun g => (laws_heldPutS_l0 x.1.1 (x.1.2.1, x.1.2.2.1)).bind g) (funext fun t => laws_heldPutS_l0.outEq x.1.1 t R k)⟩
noncomputable def laws_heldPutS.L : Lam := mkL [(0, laws_heldPutS_l0.fr)]
def laws_heldPutS.out (t : Int) : Out := ⟨[.cl .sh (.int .i64) t], []⟩
theorem laws_heldPutS.eq (a : List Put_) (k : Int) : ev tb laws_heldPutS.hn 31 2 laws_heldPutS.G laws_heldPutS.L (bodyOf Go.Proofs.Try.f115) (.two (.no) (.two (.two (.no) (.one (.fr 0))) (.no))) (initSt [.cl .sh (.sl tPut_) a, .cl .sh (.int .i64) k]) (kfin tb laws_heldPutS.hn Go.Proofs.Try.f115 [.sh, .sh]) =
    (laws_heldPutS a k).map laws_heldPutS.out := by
  simp only [laws_heldPutS, cond_map, bind_map, sel_map, Option.map_some, Option.map_none]
  kernel_rfl
def laws_heldPutS.pts : List PT := [.cl .sh (.sl tPut_), .cl .sh (.int .i64)]
noncomputable def laws_heldPutS.FS : FS := mkFS [.sh, .sh] laws_heldPutS.pts (fun x => laws_heldPutS x.1 x.2.1) laws_heldPutS.out
theorem laws_heldPutS.ok : FsOk Go.Proofs.Try.prog 115 laws_heldPutS.FS :=
  fs_ok (fn := Go.Proofs.Try.f115) tbok (by kernel_rfl) (body_some (by kernel_rfl)) (by kernel_rfl) (pts := laws_heldPutS.pts) (ev_sound (nt := 31) (np := 2) (hn := laws_heldPutS.hn) (G := laws_heldPutS.G) (L := laws_heldPutS.L) tbok laws_heldPutS.Gok hmix _ (.two (.no) (.two (.two (.no) (.one (.fr 0))) (.no))) (hok_of (l := [(0, .loop (codeAt (bodyOf Go.Proofs.Try.f115) [1, 0, 1, 0, 0]))]) (by kernel_rfl) ⟨Lam.cons laws_heldPutS_l0.ok, trivial⟩)) rfl rfl
    fun x => laws_heldPutS.eq x.1 x.2.1
noncomputable def laws_heldDisk (a : Disk_) (k : Int) : Option (Int) :=
  (laws_heldInt64SS a.1 k).bind fun r => cond (decide (r < 0)) (some (-1)) ((laws_heldPutS a.2.1 r).bind fun r2 => cond (decide (r2 < 0)) (some (-1)) (some r2))
noncomputable def laws_heldDisk.G : Gam := mkG [(139, laws_heldInt64SS.FS), (115, laws_heldPutS.FS)]
theorem laws_heldDisk.Gok : GOk Go.Proofs.Try.prog laws_heldDisk.G := GOk.cons (laws_heldInt64SS.ok) (GOk.cons (laws_heldPutS.ok) (GOk.nil))
def laws_heldDisk.hn : Hint := ⟨[2], [], [], 0⟩
noncomputable def laws_heldDisk.L : Lam := mkL []
def laws_heldDisk.out (t : Int) : Out := ⟨[.cl .sh (.int .i64) t], []⟩
theorem laws_heldDisk.eq (a : Disk_) (k : Int) : ev tb laws_heldDisk.hn 18 2 laws_heldDisk.G laws_heldDisk.L (bodyOf Go.Proofs.Try.f89) (.no) (initSt [.cl .sh tDisk_ a, .cl .sh (.int .i64) k]) (kfin tb laws_heldDisk.hn Go.Proofs.Try.f89 [.sh, .sh]) =
    (laws_heldDisk a k).map laws_heldDisk.out := by
  simp only [laws_heldDisk, cond_map, bind_map, sel_map, Option.map_some, Option.map_none]
  kernel_rfl
def laws_heldDisk.pts : List PT := [.cl .sh tDisk_, .cl .sh (.int .i64)]
noncomputable def laws_heldDisk.FS : FS := mkFS [.sh, .sh] laws_heldDisk.pts (fun x => laws_heldDisk x.1 x.2.1) laws_heldDisk.out
theorem laws_heldDisk.ok : FsOk Go.Proofs.Try.prog 89 laws_heldDisk.FS :=
  fs_ok (fn := Go.Proofs.Try.f89) tbok (by kernel_rfl) (body_some (by kernel_rfl)) (by kernel_rfl) (pts := laws_heldDisk.pts) (ev_sound (nt := 18) (np := 2) (hn := laws_heldDisk.hn) (G := laws_heldDisk.G) (L := laws_heldDisk.L) tbok laws_heldDisk.Gok hmix _ (.no) (hok_of (l := []) (by kernel_rfl) trivial)) rfl rfl
    fun x => laws_heldDisk.eq x.1 x.2.1
noncomputable def laws_heldDiskResult (a : DiskResult_) (k : Int) : Option (Int) :=
  (laws_heldDisk a.2.1 k).bind fun r => cond (decide (r < 0)) (some (-1)) (some r)
noncomputable def laws_heldDiskResult.G : Gam := mkG [(89, laws_heldDisk.FS)]
theorem laws_heldDiskResult.Gok : GOk Go.Proofs.Try.prog laws_heldDiskResult.G := GOk.cons (laws_heldDisk.ok) (GOk.nil)
def laws_heldDiskResult.hn : Hint := ⟨[2], [], [], 0⟩
noncomputable def laws_heldDiskResult.L : Lam := mkL []
def laws_heldDiskResult.out (t : Int) : Out := ⟨[.cl .sh (.int .i64) t], []⟩
theorem laws_heldDiskResult.eq (a : DiskResult_) (k : Int) : ev tb laws_heldDiskResult.hn 12 2 laws_heldDiskResult.G laws_heldDiskResult.L (bodyOf Go.Proofs.Try.f28) (.no) (initSt [.cl .sh tDiskResult_ a, .cl .sh (.int .i64) k]) (kfin tb laws_heldDiskResult.hn Go.Proofs.Try.f28 [.sh, .sh]) =
    (laws_heldDiskResult a k).map laws_heldDiskResult.out := by
  simp only [laws_heldDiskResult, cond_map, bind_map, sel_map, Option.map_some, Option.map_none]
  kernel_rfl
def laws_heldDiskResult.pts : List PT := [.cl .sh tDiskResult_, .cl .sh (.int .i64)]
noncomputable def laws_heldDiskResult.FS : FS := mkFS [.sh, .sh] laws_heldDiskResult.pts (fun x => laws_heldDiskResult x.1 x.2.1) laws_heldDiskResult.out
theorem laws_heldDiskResult.ok : FsOk Go.Proofs.Try.prog 28 laws_heldDiskResult.FS :=
  fs_ok (fn := Go.Proofs.Try.f28) tbok (by kernel_rfl) (body_some (by kernel_rfl)) (by kernel_rfl) (pts := laws_heldDiskResult.pts) (ev_sound (nt := 12) (np := 2) (hn := laws_heldDiskResult.hn) (G := laws_heldDiskResult.G) (L := laws_heldDiskResult.L) tbok laws_heldDiskResult.Gok hmix _ (.no) (hok_of (l := []) (by kernel_rfl) trivial)) rfl rfl
    fun x => laws_heldDiskResult.eq x.1 x.2.1
noncomputable def laws_FnExactFormatDisk (aSeq : Int) : Option (Bool) :=
  (spec_FormatDisk aSeq).bind fun r => (impl_FormatDisk aSeq).bind fun r2 => (laws_eqDiskResult (r2.1, (r2.2.1.1, r2.2.1.2.1, r2.2.1.2.2), r2.2.2) (r.1, (r.2.1.1, r.2.1.2.1, r.2.1.2.2), r.2.2)).bind fun r3 => cond (!r3) (some false) ((laws_markDiskResult (r2.1, (r2.2.1.1, r2.2.1.2.1, r2.2.1.2.2), r2.2.2) 1).bind fun r4 => (laws_heldDiskResult (r2.1, (r4.2.2.1.1, r4.2.2.1.2.1, r2.2.1.2.2), r2.2.2) 1).bind fun r5 => cond (decide (r5 < 0)) (some false) (cond (r5 != r4.1) (some false) ((impl_FormatDisk aSeq).bind fun r6 => (laws_eqDiskResult (r6.1, (r6.2.1.1, r6.2.1.2.1, r6.2.1.2.2), r6.2.2) (r.1, (r.2.1.1, r.2.1.2.1, r.2.1.2.2), r.2.2)).bind fun r7 => cond (!r7) (some false) ((laws_heldDiskResult (r2.1, (r4.2.2.1.1, r4.2.2.1.2.1, r2.2.1.2.2), r2.2.2) 1).bind fun r8 => cond (decide (r8 < 0)) (some false) (cond (r8 != r4.1) (some false) (some true))))))
noncomputable def laws_FnExactFormatDisk.G : Gam := mkG [(24, spec_FormatDisk.FS), (25, impl_FormatDisk.FS), (26, laws_eqDiskResult.FS), (27, laws_markDiskResult.FS), (28, laws_heldDiskResult.FS)]
theorem laws_FnExactFormatDisk.Gok : GOk Go.Proofs.Try.prog laws_FnExactFormatDisk.G := GOk.cons (spec_FormatDisk.ok) (GOk.cons (impl_FormatDisk.ok) (GOk.cons (laws_eqDiskResult.ok) (GOk.cons (laws_markDiskResult.ok) (GOk.cons (laws_heldDiskResult.ok) (GOk.nil)))))
def laws_FnExactFormatDisk.hn : Hint := ⟨[], [], [], 0⟩
noncomputable def laws_FnExactFormatDisk.L : Lam := mkL []
def laws_FnExactFormatDisk.out (t : Bool) : Out := ⟨[.cl .sh .bool t], []⟩
theorem laws_FnExactFormatDisk.eq (aSeq : Int) : ev tb laws_FnExactFormatDisk.hn 41 1 laws_FnExactFormatDisk.G laws_FnExactFormatDisk.L (bodyOf Go.Proofs.Try.f5) (.no) (initSt [.cl .sh (.int .i64) aSeq]) (kfin tb laws_FnExactFormatDisk.hn Go.Proofs.Try.f5 [.sh]) =
    (laws_FnExactFormatDisk aSeq).map laws_FnExactFormatDisk.out := by
  simp only [laws_FnExactFormatDisk, cond_map, bind_map, sel_map, Option.map_some, Option.map_none]
  kernel_rfl
def laws_FnExactFormatDisk.pts : List PT := [.cl .sh (.int .i64)]
noncomputable def laws_FnExactFormatDisk.FS : FS := mkFS [.sh] laws_FnExactFormatDisk.pts (fun x => laws_FnExactFormatDisk x.1) laws_FnExactFormatDisk.out
theorem laws_FnExactFormatDisk.ok : FsOk Go.Proofs.Try.prog 5 laws_FnExactFormatDisk.FS :=
  fs_ok (fn := Go.Proofs.Try.f5) tbok (by kernel_rfl) (body_some (by kernel_rfl)) (by kernel_rfl) (pts := laws_FnExactFormatDisk.pts) (ev_sound (nt := 41) (np := 1) (hn := laws_FnExactFormatDisk.hn) (G := laws_FnExactFormatDisk.G) (L := laws_FnExactFormatDisk.L) tbok laws_FnExactFormatDisk.Gok hmix _ (.no) (hok_of (l := []) (by kernel_rfl) trivial)) rfl rfl
    fun x => laws_FnExactFormatDisk.eq x.1
end Mf
