import Derived.Test.YtlbggfhokijobaaGreatLoadImageH
import Derived.Test.YtlbggfhokijobaaGreatMf8
import Derived.Test.YtlbggfhokijobaaGreatProg
import Derived.KernelRfl
import Derived.Shelf.SortM.Plain
import Derived.Shelf.SortM.SortNone
import Derived.Shelf.SlGeneric
import Derived.Ground.SlgmProg
namespace Go.Proofs
open Go.Shelf
def Tryz.sortLay_ren:Go.Shelf.Ren:=⟨fun | 5=>110 | 8=>122 | 7=>121 | 19=>134 | 20=>135 | 10=>125 | 11=>126 | 12=>127 | 13=>128 | 14=>129 | 15=>130 | 16=>131 | 17=>132 | 18=>133 | 30=>136 | 31=>137 | 32=>138 | 33=>139 | 34=>140 | 35=>141 | 40=>142 | n=>n,fun | 23=>48 | 25=>2 | 3=>3 | 32=>136 | 22=>48 | 0=>0 | 44=>149 | 46=>151 | 4=>4 | 36=>141 | 35=>140 | 41=>146 | 5=>5 | 9=>9 | 53=>152 | 57=>156 | 63=>158 | 64=>159 | n=>n,fun | n=>n⟩
theorem Tryz.sortLay:Go.Proofs.SlLaysM.n5 Tryz.prog Tryz.sortLay_ren:={
 mixed:=by kernel_rfl
 f5:=⟨Tryz.f110.name,by decide,Tryz.func110.trans (congrArg some (by kernel_rfl))⟩
 f7:=⟨Tryz.f121.name,by decide,Tryz.func121.trans (congrArg some (by kernel_rfl))⟩
 f8:=Tryz.func122.trans (congrArg some (by kernel_rfl))
 f10:=⟨Tryz.f125.name,by decide,Tryz.func125.trans (congrArg some (by kernel_rfl))⟩
 f11:=⟨Tryz.f126.name,by decide,Tryz.func126.trans (congrArg some (by kernel_rfl))⟩
 f12:=⟨Tryz.f127.name,by decide,Tryz.func127.trans (congrArg some (by kernel_rfl))⟩
 f13:=⟨Tryz.f128.name,by decide,Tryz.func128.trans (congrArg some (by kernel_rfl))⟩
 f14:=⟨Tryz.f129.name,by decide,Tryz.func129.trans (congrArg some (by kernel_rfl))⟩
 f15:=⟨Tryz.f130.name,by decide,Tryz.func130.trans (congrArg some (by kernel_rfl))⟩
 f16:=⟨Tryz.f131.name,by decide,Tryz.func131.trans (congrArg some (by kernel_rfl))⟩
 f17:=⟨Tryz.f132.name,by decide,Tryz.func132.trans (congrArg some (by kernel_rfl))⟩
 f18:=⟨Tryz.f133.name,by decide,Tryz.func133.trans (congrArg some (by kernel_rfl))⟩
 f19:=Tryz.func134.trans (congrArg some (by kernel_rfl))
 f20:=Tryz.func135.trans (congrArg some (by kernel_rfl))
 f30:=⟨Tryz.f136.name,by decide,Tryz.func136.trans (congrArg some (by kernel_rfl))⟩
 f31:=Tryz.func137.trans (congrArg some (by kernel_rfl))
 f32:=Tryz.func138.trans (congrArg some (by kernel_rfl))
 f33:=⟨Tryz.f139.name,by decide,Tryz.func139.trans (congrArg some (by kernel_rfl))⟩
 f34:=⟨Tryz.f140.name,by decide,Tryz.func140.trans (congrArg some (by kernel_rfl))⟩
 f35:=⟨Tryz.f141.name,by decide,Tryz.func141.trans (congrArg some (by kernel_rfl))⟩
 f40:=⟨Tryz.f142.name,by decide,Tryz.func142.trans (congrArg some (by kernel_rfl))⟩
 t0:=Tryz.underlying0
 a0:=Tryz.isAgg0
 z0:=Tryz.sizeOf0
 v0:=Tryz.zeroValue0
 t3:=Tryz.underlying3
 a3:=Tryz.isAgg3
 z3:=Tryz.sizeOf3
 v3:=Tryz.zeroValue3
 t4:=Tryz.underlying4
 a4:=Tryz.isAgg4
 z4:=Tryz.sizeOf4
 v4:=Tryz.zeroValue4
 t5:=Tryz.underlying5
 a5:=Tryz.isAgg5
 z5:=Tryz.sizeOf5
 v5:=Tryz.zeroValue5
 t9:=Tryz.underlying9
 a9:=Tryz.isAgg9
 z9:=Tryz.sizeOf9
 v9:=Tryz.zeroValue9
 t22:=Tryz.underlying48
 a22:=Tryz.isAgg48
 z22:=Tryz.sizeOf48
 v22:=Tryz.zeroValue48
 t23:=Tryz.underlying48
 a23:=Tryz.isAgg48
 z23:=Tryz.sizeOf48
 v23:=Tryz.zeroValue48
 t25:=Tryz.underlying2
 a25:=Tryz.isAgg2
 z25:=Tryz.sizeOf2
 v25:=Tryz.zeroValue2
 t32:=Tryz.underlying136
 a32:=Tryz.isAgg136
 z32:=Tryz.sizeOf136
 v32:=Tryz.zeroValue136
 t35:=Tryz.underlying140
 a35:=Tryz.isAgg140
 z35:=Tryz.sizeOf140
 v35:=Tryz.zeroValue140
 t36:=Tryz.underlying141
 a36:=Tryz.isAgg141
 z36:=Tryz.sizeOf141
 v36:=Tryz.zeroValue141
 t41:=Tryz.underlying146
 a41:=Tryz.isAgg146
 z41:=Tryz.sizeOf146
 v41:=Tryz.zeroValue146
 t44:=Tryz.underlying149
 a44:=Tryz.isAgg149
 z44:=Tryz.sizeOf149
 v44:=Tryz.zeroValue149
 t46:=Tryz.underlying151
 a46:=Tryz.isAgg151
 z46:=Tryz.sizeOf151
 v46:=Tryz.zeroValue151
 t53:=Tryz.underlying152
 a53:=Tryz.isAgg152
 z53:=Tryz.sizeOf152
 v53:=Tryz.zeroValue152
 t57:=Tryz.underlying156
 a57:=Tryz.isAgg156
 z57:=Tryz.sizeOf156
 v57:=Tryz.zeroValue156
 t63:=Tryz.underlying158
 a63:=Tryz.isAgg158
 z63:=Tryz.sizeOf158
 v63:=Tryz.zeroValue158
 t64:=Tryz.underlying159
 a64:=Tryz.isAgg159
 z64:=Tryz.sizeOf159
 v64:=Tryz.zeroValue159 }
end Go.Proofs
noncomputable section
namespace Mf
open Go
set_option linter.unusedVariables false
set_option linter.unusedSimpArgs false
set_option maxRecDepth 100000
abbrev tPut_:Ty:=(.pair (.int .i64) (.pair (.sl (.int .i64)) .unit))
abbrev Put_:Type:=Int×(List Int)×Unit
def zPut_:Put_:=(0,[],())
abbrev tDisk_:Ty:=(.pair (.sl (.sl (.int .i64))) (.pair (.sl tPut_) .unit))
abbrev Disk_:Type:=(List (List Int))×(List Put_)×Unit
def zDisk_:Disk_:=([],[],())
abbrev tEntry_:Ty:=(.pair .str (.pair (.int .i64) .unit))
abbrev Entry_:Type:=(List UInt8)×Int×Unit
def zEntry_:Entry_:=([],0,())
abbrev tInode_:Ty:=(.pair (.int .i64) (.pair (.int .i64) (.pair (.int .i64) (.pair (.sl (.int .i64)) (.pair (.sl tEntry_) .unit)))))
abbrev Inode_:Type:=Int×Int×Int×(List Int)×(List Entry_)×Unit
def zInode_:Inode_:=(0,0,0,[],[],())
abbrev tFs_:Ty:=(.pair (.sl tInode_) (.pair (.sl (.sl (.int .u8))) .unit))
abbrev Fs_:Type:=(List Inode_)×(List (List Int))×Unit
def zFs_:Fs_:=([],[],())
abbrev tFsResult_:Ty:=(.pair (.int .i64) (.pair tFs_ .unit))
abbrev FsResult_:Type:=Int×Fs_×Unit
def zFsResult_:FsResult_:=(0,([],[],()),())
abbrev tIntResult_:Ty:=(.pair (.int .i64) (.pair (.int .i64) .unit))
abbrev IntResult_:Type:=Int×Int×Unit
def zIntResult_:IntResult_:=(0,0,())
abbrev tBoundsError_:Ty:=(.pair (.int .i64) (.pair (.int .i64) (.pair .bool (.pair (.int .u8) .unit))))
abbrev BoundsError_:Type:=Int×Int×Bool×Int×Unit
def zBoundsError_:BoundsError_:=(0,0,false,0,())
abbrev tErrorAddressString_:Ty:=(.pair .str (.pair (.int .u64) .unit))
abbrev ErrorAddressString_:Type:=(List UInt8)×Int×Unit
def zErrorAddressString_:ErrorAddressString_:=([],0,())
abbrev PR:Program:=Go.Proofs.Tryz.prog
def tb:Tb:=[(2,⟨.int .i64,(.int .i64),8⟩),(3,⟨.int .i64,(.int .i64),8⟩),(4,⟨.bool,.bool,1⟩),(5,⟨.int .u8,(.int .u8),1⟩),(6,⟨.int .u8,(.int .u8),1⟩),(7,⟨.st [0,1,2,3],tBoundsError_,24⟩),(8,⟨.st [0,1,2,3],tBoundsError_,24⟩),(9,⟨.str,.str,16⟩),(10,⟨.str,.str,16⟩),(11,⟨.str,.str,16⟩),(12,⟨.int .u64,(.int .u64),8⟩),(13,⟨.st [0,1],tErrorAddressString_,24⟩),(14,⟨.st [0,1],tErrorAddressString_,24⟩),(21,⟨.int .i32,(.int .i32),4⟩),(22,⟨.sl 48,(.sl (.sl (.int .i64))),24⟩),(23,⟨.sl 74,(.sl tPut_),24⟩),(24,⟨.st [0,1],tDisk_,48⟩),(25,⟨.st [0,1],tDisk_,48⟩),(27,⟨.sl 53,(.sl tInode_),24⟩),(28,⟨.sl 82,(.sl (.sl (.int .u8))),24⟩),(29,⟨.st [0,1],tFs_,48⟩),(30,⟨.st [0,1],tFs_,48⟩),(31,⟨.st [0,1],tFsResult_,56⟩),(32,⟨.st [0,1],tFsResult_,56⟩),(34,⟨.sl 77,(.sl tPut_),24⟩),(35,⟨.st [0,1],tDisk_,48⟩),(36,⟨.st [0,1],tDisk_,48⟩),(45,⟨.st [0,1],tIntResult_,16⟩),(46,⟨.st [0,1],tIntResult_,16⟩),(48,⟨.sl 2,(.sl (.int .i64)),24⟩),(51,⟨.sl 81,(.sl tEntry_),24⟩),(52,⟨.st [0,1,2,3,4],tInode_,72⟩),(53,⟨.st [0,1,2,3,4],tInode_,72⟩),(73,⟨.st [0,1],tPut_,32⟩),(74,⟨.st [0,1],tPut_,32⟩),(77,⟨.st [0,1],tPut_,32⟩),(80,⟨.st [0,1],tEntry_,24⟩),(81,⟨.st [0,1],tEntry_,24⟩),(82,⟨.sl 5,(.sl (.int .u8)),24⟩),(98,⟨.arr 20 2,(.arr 20 (.int .i64)),160⟩),(125,⟨.sl 4,(.sl .bool),24⟩),(136,⟨.int .u64,(.int .u64),8⟩),(140,⟨.int .i64,(.int .i64),8⟩),(149,⟨.int .u32,(.int .u32),4⟩),(151,⟨.int .u64,(.int .u64),8⟩),(152,⟨.int .u64,(.int .u64),8⟩),(168,⟨.int .u8,(.int .u8),1⟩),(169,⟨.int .u8,(.int .u8),1⟩),(172,⟨.int .i32,(.int .i32),4⟩),(173,⟨.int .i32,(.int .i32),4⟩)]
theorem tbok:TbOk Go.Proofs.Tryz.prog tb:=tbB_ok (by kernel_rfl)
theorem hmix:Go.Proofs.Tryz.prog.follows .mixedOrders=true:=by kernel_rfl
def Zq0 (a:List Int) (left:Int):Option Int:=
 cond (decide ((w64 (left-(a.length:Int)))<0)) (some (-1)) (some (w64 (left-(a.length:Int))))
namespace Zq0
def pts:List PT:=[.cs SI,.cs I64]
def FS:FS:=mkFS [.sh,.sh] pts (fun x=>Zq0 x.1 x.2.1) fun t=>⟨[.cs I64 t],[]⟩
theorem ok:FsOk PR 33 FS:=
 fn_ok tbok hmix Proofs.Tryz.f33 h0 .no (G:=(mkG [])) .nil (L:=mkL []) (l:=[]) hT
  (fun x=>by simp only[Zq0,mC,mB,mS,mO,mN];kernel_rfl)
end Zq0
def Zq1.B (a:List (List Int)) (left_:Int) (i_:Int):Option ((Int×Int)⊕((Int⊕Int))):=
 cond (decide (i_<(a.length:Int))) (cond (inB i_ a.length) ((Zq0 (a.getD i_.toNat []) left_).bind fun r=>cond (decide (r<0)) (some (.inr (.inl (-1)))) (some (.inl (r,w64 (i_+1))))) none) (some (.inr (.inr left_)))
def Zq1 (a:List (List Int)):(Int×Int)→Option ((Int⊕Int)):=
 loopL fun s=>Zq1.B a s.1 s.2
def Zq2 (a:List (List Int)) (left:Int):Option Int:=
 cond (decide ((w64 (left-(a.length:Int)))<0)) (some (-1)) ((Zq1 a (w64 (left-(a.length:Int)),0)).bind fun o=>sel o (fun b=>some b) (fun c=>some c))
namespace Zq2
def G:Gam:=mkG [(33,Zq0.FS)]
theorem Gok:GOk PR G:=.cons Zq0.ok .nil
end Zq2
namespace Zq1
def c:=codeAt (bodyOf Proofs.Tryz.f13) [1,1,1,0,1,0,0]
def sp:SP:=⟨[(0,.cs (.sl SI)),(1,.cs I64),(5,.cs I64)],[]⟩
def out (a:List (List Int)):FOut ((Int⊕Int)):=fun oo0 _ kk0=>sel oo0 (fun bb0=>kk0 (.rt) ⟨[(4,.cs I64 bb0)],[]⟩) (fun cc0=>kk0 (.ex 0) ⟨[(1,.cs I64 cc0)],[]⟩)
def fr:=lfrag sp (fun x=>Zq1 x.1.1 (x.1.2.1,x.1.2.2.1)) fun x=>out x.1.1
theorem ok:CodeOk PR 27 2 (.loop c) fr:=
 lp_ok tbok hmix h0 .no (G:=Zq2.G) Zq2.Gok (L:=mkL []) (l:=[]) hT [0,1,5] [] [(0,([1],[]))] ([4],[]) (fun x s=>B x.1.1 s.1 s.2) (fun x s=>⟨[(0,.cs (.sl SI) x.1.1),(1,.cs I64 s.1),(5,.cs I64 s.2)],[]⟩) (fun x=>(x.1.2.1,x.1.2.2.1))
  (fun x s=>by simp only[B,mC,mB,mS,mO,mN];kernel_rfl)
end Zq1
namespace Zq2
def pts:List PT:=[.cs (.sl SI),.cs I64]
def FS:FS:=mkFS [.sh,.sh] pts (fun x=>Zq2 x.1 x.2.1) fun t=>⟨[.cs I64 t],[]⟩
theorem ok:FsOk PR 13 FS:=
 fn_ok tbok hmix Proofs.Tryz.f13 h0 (.R (.R (.R (.L (.R (.one (.fr 0))))))) (G:=G) Gok (L:=mkL [(0,Zq1.fr)]) (l:=[(0,.loop Zq1.c)]) ⟨Lam.cons Zq1.ok,trivial⟩
  (fun x=>by simp only[Zq2,mC,mB,mS,mO,mN];kernel_rfl)
end Zq2
def Zq3 (a:Put_) (left:Int):Option Int:=
 (Zq0 a.2.1 left).bind fun r=>cond (decide (r<0)) (some (-1)) (some r)
namespace Zq3
def G:Gam:=mkG [(33,Zq0.FS)]
def pts:List PT:=[.cs tPut_,.cs I64]
def FS:FS:=mkFS [.sh,.sh] pts (fun x=>Zq3 x.1 x.2.1) fun t=>⟨[.cs I64 t],[]⟩
theorem ok:FsOk PR 34 FS:=
 fn_ok tbok hmix Proofs.Tryz.f34 ⟨[2],[],[],0⟩ .no (G:=G) (show GOk PR G from .cons Zq0.ok .nil) (L:=mkL []) (l:=[]) hT
  (fun x=>by simp only[Zq3,mC,mB,mS,mO,mN];kernel_rfl)
end Zq3
def Zq4.B (a:List Put_) (left_:Int) (i_:Int):Option ((Int×Int)⊕((Int⊕Int))):=
 cond (decide (i_<(a.length:Int))) (cond (inB i_ a.length) ((Zq3 (a.getD i_.toNat zPut_) left_).bind fun r=>cond (decide (r<0)) (some (.inr (.inl (-1)))) (some (.inl (r,w64 (i_+1))))) none) (some (.inr (.inr left_)))
def Zq4 (a:List Put_):(Int×Int)→Option ((Int⊕Int)):=
 loopL fun s=>Zq4.B a s.1 s.2
def Zq5 (a:List Put_) (left:Int):Option Int:=
 cond (decide ((w64 (left-(a.length:Int)))<0)) (some (-1)) ((Zq4 a (w64 (left-(a.length:Int)),0)).bind fun o=>sel o (fun b=>some b) (fun c=>some c))
namespace Zq5
def G:Gam:=mkG [(34,Zq3.FS)]
theorem Gok:GOk PR G:=.cons Zq3.ok .nil
end Zq5
namespace Zq4
def c:=codeAt (bodyOf Proofs.Tryz.f14) [1,1,1,0,1,0,0]
def sp:SP:=⟨[(0,.cs (.sl tPut_)),(1,.cs I64),(5,.cs I64)],[]⟩
def out (a:List Put_):FOut ((Int⊕Int)):=fun oo0 _ kk0=>sel oo0 (fun bb0=>kk0 (.rt) ⟨[(4,.cs I64 bb0)],[]⟩) (fun cc0=>kk0 (.ex 0) ⟨[(1,.cs I64 cc0)],[]⟩)
def fr:=lfrag sp (fun x=>Zq4 x.1.1 (x.1.2.1,x.1.2.2.1)) fun x=>out x.1.1
theorem ok:CodeOk PR 27 2 (.loop c) fr:=
 lp_ok tbok hmix h0 .no (G:=Zq5.G) Zq5.Gok (L:=mkL []) (l:=[]) hT [0,1,5] [] [(0,([1],[]))] ([4],[]) (fun x s=>B x.1.1 s.1 s.2) (fun x s=>⟨[(0,.cs (.sl tPut_) x.1.1),(1,.cs I64 s.1),(5,.cs I64 s.2)],[]⟩) (fun x=>(x.1.2.1,x.1.2.2.1))
  (fun x s=>by simp only[B,mC,mB,mS,mO,mN];kernel_rfl)
end Zq4
namespace Zq5
def pts:List PT:=[.cs (.sl tPut_),.cs I64]
def FS:FS:=mkFS [.sh,.sh] pts (fun x=>Zq5 x.1 x.2.1) fun t=>⟨[.cs I64 t],[]⟩
theorem ok:FsOk PR 14 FS:=
 fn_ok tbok hmix Proofs.Tryz.f14 h0 (.R (.R (.R (.L (.R (.one (.fr 0))))))) (G:=G) Gok (L:=mkL [(0,Zq4.fr)]) (l:=[(0,.loop Zq4.c)]) ⟨Lam.cons Zq4.ok,trivial⟩
  (fun x=>by simp only[Zq5,mC,mB,mS,mO,mN];kernel_rfl)
end Zq5
def Zq6 (a:Disk_) (left:Int):Option Int:=
 (Zq2 a.1 left).bind fun r=>cond (decide (r<0)) (some (-1)) ((Zq5 a.2.1 r).bind fun r2=>cond (decide (r2<0)) (some (-1)) (some r2))
namespace Zq6
def G:Gam:=mkG [(13,Zq2.FS),(14,Zq5.FS)]
def pts:List PT:=[.cs tDisk_,.cs I64]
def FS:FS:=mkFS [.sh,.sh] pts (fun x=>Zq6 x.1 x.2.1) fun t=>⟨[.cs I64 t],[]⟩
theorem ok:FsOk PR 4 FS:=
 fn_ok tbok hmix Proofs.Tryz.f4 ⟨[2],[],[],0⟩ .no (G:=G) (show GOk PR G from .cons Zq2.ok (.cons Zq5.ok .nil)) (L:=mkL []) (l:=[]) hT
  (fun x=>by simp only[Zq6,mC,mB,mS,mO,mN];kernel_rfl)
end Zq6
def Zq7.B (a:List Int) (i_:Int) (out_:List Int):Option ((Int×List Int)⊕(List Int)):=
 cond (decide (i_<(a.length:Int))) (cond (inB i_ a.length) (cond (inB i_ out_.length) (some (.inl (w64 (i_+1),out_.set i_.toNat (a.getD i_.toNat 0)))) none) none) (some (.inr out_))
def Zq7 (a:List Int):(Int×List Int)→Option (List Int):=
 loopL fun s=>Zq7.B a s.1 s.2
def Zq8 (a:List Int):Option (List Int):=
 cond (decide ((0:Int)≤(a.length:Int))&&(decide ((a.length:Int)≤(a.length:Int))&&decide ((a.length:Int)≤2147483648))) ((Zq7 a (0,List.replicate (a.length:Int).toNat 0)).bind fun o=>some o) none
namespace Zq7
def c:=codeAt (bodyOf Proofs.Tryz.f47) [1,1,0,1,0,0]
def sp:SP:=⟨[(0,.cs SI),(3,.seg 3 []),(4,.cs I64)],[(3,.reg,.cd SI)]⟩
def out (a:List Int):FOut (List Int):=fun bb0 _ kk0=>kk0 (.ex 0) ⟨[(3,.seg 3 [])],[sr 3 (.cd SI bb0)]⟩
def fr:=lfrag sp (fun x=>Zq7 x.1.1 (x.1.2.2.1,x.2.1)) fun x=>out x.1.1
theorem ok:CodeOk PR 22 1 (.loop c) fr:=
 lp_ok tbok hmix h0 .no (G:=(mkG [])) .nil (L:=mkL []) (l:=[]) hT [0,3,4] [3] [(0,([3],[3]))] ([],[]) (fun x s=>B x.1.1 s.1 s.2) (fun x s=>⟨[(0,.cs SI x.1.1),(3,.seg 3 []),(4,.cs I64 s.1)],[sr 3 (.cd SI s.2)]⟩) (fun x=>(x.1.2.2.1,x.2.1))
  (fun x s=>by simp only[B,mC,mB,mS,mO,mN];kernel_rfl)
end Zq7
namespace Zq8
def pts:List PT:=[.cs SI]
def FS:FS:=mkFS [.sh] pts (fun x=>Zq8 x.1) fun t=>⟨[.cd SI t],[]⟩
theorem ok:FsOk PR 47 FS:=
 fn_ok tbok hmix Proofs.Tryz.f47 h0 (.R (.R (.L (.R (.one (.fr 0)))))) (G:=(mkG [])) .nil (L:=mkL [(0,Zq7.fr)]) (l:=[(0,.loop Zq7.c)]) ⟨Lam.cons Zq7.ok,trivial⟩
  (fun x=>by simp only[Zq8,mC,mB,mS,mO,mN];kernel_rfl)
end Zq8
def Zq9.B (a:List (List Int)) (i_:Int) (out_:List (List Int)):Option ((Int×List (List Int))⊕(List (List Int))):=
 cond (decide (i_<(a.length:Int))) (cond (inB i_ a.length) ((Zq8 (a.getD i_.toNat [])).bind fun r=>cond (inB i_ out_.length) (some (.inl (w64 (i_+1),out_.set i_.toNat r))) none) none) (some (.inr out_))
def Zq9 (a:List (List Int)):(Int×List (List Int))→Option (List (List Int)):=
 loopL fun s=>Zq9.B a s.1 s.2
def Zq10 (a:List (List Int)):Option (List (List Int)):=
 cond (decide ((0:Int)≤(a.length:Int))&&(decide ((a.length:Int)≤(a.length:Int))&&decide ((a.length:Int)≤2147483648))) ((some (List.replicate (a.length:Int).toNat ([]:List Int))).bind fun v=>(Zq9 a (0,v)).bind fun o=>some o) none
namespace Zq10
def G:Gam:=mkG [(47,Zq8.FS)]
theorem Gok:GOk PR G:=.cons Zq8.ok .nil
end Zq10
namespace Zq9
def c:=codeAt (bodyOf Proofs.Tryz.f21) [1,1,0,1,0,0]
def sp:SP:=⟨[(0,.cs (.sl SI)),(3,.seg 3 []),(4,.cs I64)],[(3,.reg,.cd (.sl SI))]⟩
def out (a:List (List Int)):FOut (List (List Int)):=fun bb0 _ kk0=>kk0 (.ex 0) ⟨[(3,.seg 3 [])],[sr 3 (.cd (.sl SI) bb0)]⟩
def fr:=lfrag sp (fun x=>Zq9 x.1.1 (x.1.2.2.1,x.2.1)) fun x=>out x.1.1
theorem ok:CodeOk PR 23 1 (.loop c) fr:=
 lp_ok tbok hmix h0 .no (G:=Zq10.G) Zq10.Gok (L:=mkL []) (l:=[]) hT [0,3,4] [3] [(0,([3],[3]))] ([],[]) (fun x s=>B x.1.1 s.1 s.2) (fun x s=>⟨[(0,.cs (.sl SI) x.1.1),(3,.seg 3 []),(4,.cs I64 s.1)],[sr 3 (.cd (.sl SI) s.2)]⟩) (fun x=>(x.1.2.2.1,x.2.1))
  (fun x s=>by simp only[B,mC,mB,mS,mO,mN];kernel_rfl)
end Zq9
namespace Zq10
def pts:List PT:=[.cs (.sl SI)]
def FS:FS:=mkFS [.sh] pts (fun x=>Zq10 x.1) fun t=>⟨[.cd (.sl SI) t],[]⟩
theorem ok:FsOk PR 21 FS:=
 fn_ok tbok hmix Proofs.Tryz.f21 h0 (.R (.R (.L (.R (.one (.fr 0)))))) (G:=G) Gok (L:=mkL [(0,Zq9.fr)]) (l:=[(0,.loop Zq9.c)]) ⟨Lam.cons Zq9.ok,trivial⟩
  (fun x=>by simp only[Zq10,mC,mB,mS,mO,mN];kernel_rfl)
end Zq10
def Zq11 (a:Put_):Option Put_:=
 (Zq8 a.2.1).bind fun r=>some (a.1,r,())
namespace Zq11
def G:Gam:=mkG [(47,Zq8.FS)]
def pts:List PT:=[.cs tPut_]
def FS:FS:=mkFS [.sh] pts (fun x=>Zq11 x.1) fun t=>⟨[.cd tPut_ t],[]⟩
theorem ok:FsOk PR 48 FS:=
 fn_ok tbok hmix Proofs.Tryz.f48 ⟨[1],[],[],0⟩ .no (G:=G) (show GOk PR G from .cons Zq8.ok .nil) (L:=mkL []) (l:=[]) hT
  (fun x=>by simp only[Zq11,mC,mB,mS,mO,mN];kernel_rfl)
end Zq11
def Zq12.B (a:List Put_) (i_:Int) (out_:List Put_):Option ((Int×List Put_)⊕(List Put_)):=
 cond (decide (i_<(a.length:Int))) (cond (inB i_ a.length) ((Zq11 (a.getD i_.toNat zPut_)).bind fun r=>cond (inB i_ out_.length) (some (.inl (w64 (i_+1),out_.set i_.toNat (r.1,r.2.1,r.2.2)))) none) none) (some (.inr out_))
def Zq12 (a:List Put_):(Int×List Put_)→Option (List Put_):=
 loopL fun s=>Zq12.B a s.1 s.2
def Zq13 (a:List Put_):Option (List Put_):=
 cond (decide ((0:Int)≤(a.length:Int))&&(decide ((a.length:Int)≤(a.length:Int))&&decide ((a.length:Int)≤2147483648))) ((Zq12 a (0,List.replicate (a.length:Int).toNat zPut_)).bind fun o=>some o) none
namespace Zq13
def G:Gam:=mkG [(48,Zq11.FS)]
theorem Gok:GOk PR G:=.cons Zq11.ok .nil
end Zq13
namespace Zq12
def c:=codeAt (bodyOf Proofs.Tryz.f22) [1,1,0,1,0,0]
def sp:SP:=⟨[(0,.cs (.sl tPut_)),(3,.seg 3 []),(4,.cs I64)],[(3,.reg,.cd (.sl tPut_))]⟩
def out (a:List Put_):FOut (List Put_):=fun bb0 _ kk0=>kk0 (.ex 0) ⟨[(3,.seg 3 [])],[sr 3 (.cd (.sl tPut_) bb0)]⟩
def fr:=lfrag sp (fun x=>Zq12 x.1.1 (x.1.2.2.1,x.2.1)) fun x=>out x.1.1
theorem ok:CodeOk PR 23 1 (.loop c) fr:=
 lp_ok tbok hmix h0 .no (G:=Zq13.G) Zq13.Gok (L:=mkL []) (l:=[]) hT [0,3,4] [3] [(0,([3],[3]))] ([],[]) (fun x s=>B x.1.1 s.1 s.2) (fun x s=>⟨[(0,.cs (.sl tPut_) x.1.1),(3,.seg 3 []),(4,.cs I64 s.1)],[sr 3 (.cd (.sl tPut_) s.2)]⟩) (fun x=>(x.1.2.2.1,x.2.1))
  (fun x s=>by simp only[B,mC,mB,mS,mO,mN];kernel_rfl)
end Zq12
namespace Zq13
def pts:List PT:=[.cs (.sl tPut_)]
def FS:FS:=mkFS [.sh] pts (fun x=>Zq13 x.1) fun t=>⟨[.cd (.sl tPut_) t],[]⟩
theorem ok:FsOk PR 22 FS:=
 fn_ok tbok hmix Proofs.Tryz.f22 h0 (.R (.R (.L (.R (.one (.fr 0)))))) (G:=G) Gok (L:=mkL [(0,Zq12.fr)]) (l:=[(0,.loop Zq12.c)]) ⟨Lam.cons Zq12.ok,trivial⟩
  (fun x=>by simp only[Zq13,mC,mB,mS,mO,mN];kernel_rfl)
end Zq13
def Zq14 (a:Disk_):Option Disk_:=
 (Zq10 a.1).bind fun r=>(Zq13 a.2.1).bind fun r2=>some (r,r2,())
namespace Zq14
def G:Gam:=mkG [(21,Zq10.FS),(22,Zq13.FS)]
def pts:List PT:=[.cs tDisk_]
def FS:FS:=mkFS [.sh] pts (fun x=>Zq14 x.1) fun t=>⟨[.cd tDisk_ t],[]⟩
theorem ok:FsOk PR 6 FS:=
 fn_ok tbok hmix Proofs.Tryz.f6 ⟨[1],[],[],0⟩ .no (G:=G) (show GOk PR G from .cons Zq10.ok (.cons Zq13.ok .nil)) (L:=mkL []) (l:=[]) hT
  (fun x=>by simp only[Zq14,mC,mB,mS,mO,mN];kernel_rfl)
end Zq14
def Zq15 (v:Int) (low:Int) (high:Int):Option Bool:=
 (some (cond (decide (v≥low)) (decide (v≤high)) false)).bind fun v2=>some v2
namespace Zq15
def pts:List PT:=[.cs I64,.cs I64,.cs I64]
def FS:FS:=mkFS [.sh,.sh,.sh] pts (fun x=>Zq15 x.1 x.2.1 x.2.2.1) fun t=>⟨[.cs .bool t],[]⟩
theorem ok:FsOk PR 69 FS:=
 fn_ok tbok hmix Proofs.Tryz.f69 h0 .no (G:=(mkG [])) .nil (L:=mkL []) (l:=[]) hT
  (fun x=>by simp only[Zq15,mC,mB,mS,mO,mN];kernel_rfl)
end Zq15
def Zq16.B (w:List Int) (i_:Int):Option (Int⊕((Int⊕Unit))):=
 cond (decide (i_<(w.length:Int))) (cond (inB i_ w.length) ((Zq15 (w.getD i_.toNat 0) 0 65535).bind fun r=>cond (!r) (some (.inr (.inl 3))) (some (.inl (w64 (i_+1))))) none) (some (.inr (.inr ())))
def Zq16 (w:List Int):Int→Option ((Int⊕Unit)):=
 loopL fun s=>Zq16.B w s
def Zq17 (w:List Int):Option Int:=
 cond (decide ((w.length:Int)>64)) (some 2) ((Zq16 w 0).bind fun o=>sel o (fun b=>some b) (fun c=>some 0))
namespace Zq17
def G:Gam:=mkG [(69,Zq15.FS)]
theorem Gok:GOk PR G:=.cons Zq15.ok .nil
end Zq17
namespace Zq16
def c:=codeAt (bodyOf Proofs.Tryz.f68) [1,1,0,1,0,0]
def sp:SP:=⟨[(0,.cs SI),(3,.cs I64)],[]⟩
def out (w:List Int):FOut ((Int⊕Unit)):=fun oo0 _ kk0=>sel oo0 (fun bb0=>kk0 (.rt) ⟨[(2,.cs I64 bb0)],[]⟩) (fun cc0=>kk0 (.ex 0) ⟨[],[]⟩)
def fr:=lfrag sp (fun x=>Zq16 x.1.1 x.1.2.1) fun x=>out x.1.1
theorem ok:CodeOk PR 19 1 (.loop c) fr:=
 lp_ok tbok hmix h0 .no (G:=Zq17.G) Zq17.Gok (L:=mkL []) (l:=[]) hT [0,3] [] [(0,([],[]))] ([2],[]) (fun x s=>B x.1.1 s) (fun x s=>⟨[(0,.cs SI x.1.1),(3,.cs I64 s)],[]⟩) (fun x=>x.1.2.1)
  (fun x s=>by simp only[B,mC,mB,mS,mO,mN];kernel_rfl)
end Zq16
namespace Zq17
def pts:List PT:=[.cs SI]
def FS:FS:=mkFS [.sh] pts (fun x=>Zq17 x.1) fun t=>⟨[.cs I64 t],[]⟩
theorem ok:FsOk PR 68 FS:=
 fn_ok tbok hmix Proofs.Tryz.f68 h0 (.R (.R (.L (.R (.one (.fr 0)))))) (G:=G) Gok (L:=mkL [(0,Zq16.fr)]) (l:=[(0,.loop Zq16.c)]) ⟨Lam.cons Zq16.ok,trivial⟩
  (fun x=>by simp only[Zq17,mC,mB,mS,mO,mN];kernel_rfl)
end Zq17
def Zq18.B (d:Disk_) (i_:Int):Option (Int⊕((Int⊕Unit))):=
 cond (decide (i_<(d.1.length:Int))) (cond (inB i_ d.1.length) ((Zq17 (d.1.getD i_.toNat [])).bind fun r=>cond (r != 0) (some (.inr (.inl r))) (some (.inl (w64 (i_+1))))) none) (some (.inr (.inr ())))
def Zq18 (d:Disk_):Int→Option ((Int⊕Unit)):=
 loopL fun s=>Zq18.B d s
def Zq19.B (d:Disk_) (i_2:Int):Option (Int⊕((Int⊕Unit))):=
 cond (decide (i_2<(d.2.1.length:Int))) (cond (inB i_2 d.2.1.length) ((Zq15 (d.2.1.getD i_2.toNat zPut_).1 0 (w64 ((d.1.length:Int)-1))).bind fun r2=>cond (!r2) (some (.inr (.inl 3))) (cond (inB i_2 d.2.1.length) ((Zq17 (d.2.1.getD i_2.toNat zPut_).2.1).bind fun r3=>cond (r3 != 0) (some (.inr (.inl r3))) (some (.inl (w64 (i_2+1))))) none)) none) (some (.inr (.inr ())))
def Zq19 (d:Disk_):Int→Option ((Int⊕Unit)):=
 loopL fun s=>Zq19.B d s
def Zq20 (d:Disk_):Option Int:=
 (some (cond (decide ((d.1.length:Int)>60)) true (decide ((d.2.1.length:Int)>200)))).bind fun v=>cond v (some 2) ((Zq18 d 0).bind fun o=>sel o (fun b=>some b) (fun c=>(Zq19 d 0).bind fun o2=>sel o2 (fun b2=>some b2) (fun c2=>some 0)))
namespace Zq20
def G:Gam:=mkG [(68,Zq17.FS),(69,Zq15.FS)]
theorem Gok:GOk PR G:=.cons Zq17.ok (.cons Zq15.ok .nil)
end Zq20
namespace Zq18
def c:=codeAt (bodyOf Proofs.Tryz.f35) [1,1,0,1,0,0]
def sp:SP:=⟨[(0,.pt tDisk_),(3,.cs I64)],[]⟩
def out (d:Disk_):FOut ((Int⊕Unit)):=fun oo0 _ kk0=>sel oo0 (fun bb0=>kk0 (.rt) ⟨[(2,.cs I64 bb0)],[]⟩) (fun cc0=>kk0 (.ex 0) ⟨[(0,.pt tDisk_ d)],[]⟩)
def fr:=lfrag sp (fun x=>Zq18 x.1.1 x.1.2.1) fun x=>out x.1.1
theorem ok:CodeOk PR 78 1 (.loop c) fr:=
 lp_ok tbok hmix h0 .no (G:=Zq20.G) Zq20.Gok (L:=mkL []) (l:=[]) hT [0,3] [] [(0,([0],[]))] ([2],[]) (fun x s=>B x.1.1 s) (fun x s=>⟨[(0,.pt tDisk_ x.1.1),(3,.cs I64 s)],[]⟩) (fun x=>x.1.2.1)
  (fun x s=>by simp only[B,mC,mB,mS,mO,mN];kernel_rfl)
end Zq18
namespace Zq19
def c:=codeAt (bodyOf Proofs.Tryz.f35) [1,1,1,0,1,0,0]
def sp:SP:=⟨[(0,.pt tDisk_),(5,.cs I64)],[]⟩
def out (d:Disk_):FOut ((Int⊕Unit)):=fun oo0 _ kk0=>sel oo0 (fun bb0=>kk0 (.rt) ⟨[(2,.cs I64 bb0)],[]⟩) (fun cc0=>kk0 (.ex 2) ⟨[],[]⟩)
def fr:=lfrag sp (fun x=>Zq19 x.1.1 x.1.2.1) fun x=>out x.1.1
theorem ok:CodeOk PR 78 1 (.loop c) fr:=
 lp_ok tbok hmix h0 .no (G:=Zq20.G) Zq20.Gok (L:=mkL []) (l:=[]) hT [0,5] [] [(2,([],[]))] ([2],[]) (fun x s=>B x.1.1 s) (fun x s=>⟨[(0,.pt tDisk_ x.1.1),(5,.cs I64 s)],[]⟩) (fun x=>x.1.2.1)
  (fun x s=>by simp only[B,mC,mB,mS,mO,mN];kernel_rfl)
end Zq19
namespace Zq20
def pts:List PT:=[.pt tDisk_]
def FS:FS:=mkFS [.sh] pts (fun x=>Zq20 x.1) fun t=>⟨[.cs I64 t],[]⟩
theorem ok:FsOk PR 35 FS:=
 fn_ok tbok hmix Proofs.Tryz.f35 h0 (.R (.R (.two (.R (.one (.fr 0))) (.L (.R (.one (.fr 1))))))) (G:=G) Gok (L:=mkL [(0,Zq18.fr),(1,Zq19.fr)]) (l:=[(0,.loop Zq18.c),(1,.loop Zq19.c)]) ⟨Lam.cons Zq18.ok,Lam.skip rfl (Lam.cons Zq19.ok),trivial⟩
  (fun x=>by simp only[Zq20,mC,mB,mS,mO,mN];kernel_rfl)
end Zq20
def Zq21.B (d:Disk_) (at_:Int) (i_:Int):Option (Int⊕(((List Int)⊕Unit))):=
 cond (decide (i_≥0)) (cond (inB i_ d.2.1.length) (cond ((d.2.1.getD i_.toNat zPut_).1 == at_) (cond (inB i_ d.2.1.length) (some (.inr (.inl (d.2.1.getD i_.toNat zPut_).2.1))) none) (some (.inl (w64 (i_-1))))) none) (some (.inr (.inr ())))
def Zq21 (d:Disk_) (at_:Int):Int→Option (((List Int)⊕Unit)):=
 loopL fun s=>Zq21.B d at_ s
def Zq22 (d:Disk_) (at_:Int):Option (List Int):=
 (Zq21 d at_ (w64 ((d.2.1.length:Int)-1))).bind fun o=>sel o (fun b=>some b) (fun c=>cond (inB at_ d.1.length) (some (d.1.getD at_.toNat [])) none)
namespace Zq21
def c:=codeAt (bodyOf Proofs.Tryz.f16) [1,0,1,0,0]
def sp:SP:=⟨[(0,.pt tDisk_),(1,.cs I64),(5,.cs I64)],[]⟩
def out (d:Disk_) (at_:Int):FOut (((List Int)⊕Unit)):=fun oo0 _ kk0=>sel oo0 (fun bb0=>kk0 (.rt) ⟨[(4,.cs SI bb0)],[]⟩) (fun cc0=>kk0 (.ex 0) ⟨[(0,.pt tDisk_ d),(1,.cs I64 at_)],[]⟩)
def fr:=lfrag sp (fun x=>Zq21 x.1.1 x.1.2.1 x.1.2.2.1) fun x=>out x.1.1 x.1.2.1
theorem ok:CodeOk PR 41 2 (.loop c) fr:=
 lp_ok tbok hmix h0 .no (G:=(mkG [])) .nil (L:=mkL []) (l:=[]) hT [0,1,5] [] [(0,([0,1],[]))] ([4],[]) (fun x s=>B x.1.1 x.1.2.1 s) (fun x s=>⟨[(0,.pt tDisk_ x.1.1),(1,.cs I64 x.1.2.1),(5,.cs I64 s)],[]⟩) (fun x=>x.1.2.2.1)
  (fun x s=>by simp only[B,mC,mB,mS,mO,mN];kernel_rfl)
end Zq21
namespace Zq22
def pts:List PT:=[.pt tDisk_,.cs I64]
def FS:FS:=mkFS [.sh,.sh] pts (fun x=>Zq22 x.1 x.2.1) fun t=>⟨[.cs SI t],[]⟩
theorem ok:FsOk PR 16 FS:=
 fn_ok tbok hmix Proofs.Tryz.f16 h0 (.R (.L (.R (.one (.fr 0))))) (G:=(mkG [])) .nil (L:=mkL [(0,Zq21.fr)]) (l:=[(0,.loop Zq21.c)]) ⟨Lam.cons Zq21.ok,trivial⟩
  (fun x=>by simp only[Zq22,mC,mB,mS,mO,mN];kernel_rfl)
end Zq22
def Zq23 (n:Int):Option Bool:=
 (Zq15 n 1 60000).bind fun r=>some r
namespace Zq23
def G:Gam:=mkG [(69,Zq15.FS)]
def pts:List PT:=[.cs I64]
def FS:FS:=mkFS [.sh] pts (fun x=>Zq23 x.1) fun t=>⟨[.cs .bool t],[]⟩
theorem ok:FsOk PR 36 FS:=
 fn_ok tbok hmix Proofs.Tryz.f36 h0 .no (G:=G) (show GOk PR G from .cons Zq15.ok .nil) (L:=mkL []) (l:=[]) hT
  (fun x=>by simp only[Zq23,mC,mB,mS,mO,mN];kernel_rfl)
end Zq23
def Zq24 (d:Disk_):Option IntResult_:=
 (Zq20 d).bind fun r=>cond (r != 0) (some (r,0,())) (cond ((d.1.length:Int) != 47) (some (1,0,())) ((Zq22 d 0).bind fun r2=>cond (cond (!((r2.length:Int) != 2)) (inB 0 r2.length) true) ((some (cond ((r2.length:Int) != 2) true ((r2.getD (0:Int).toNat 0) != 7))).bind fun v=>cond v (some (5,0,())) (cond (inB 1 r2.length) ((Zq23 (r2.getD (1:Int).toNat 0)).bind fun r3=>cond (!r3) (some (5,0,())) (cond (inB 1 r2.length) (some (0,r2.getD (1:Int).toNat 0,())) none)) none)) none))
namespace Zq24
def G:Gam:=mkG [(35,Zq20.FS),(16,Zq22.FS),(36,Zq23.FS)]
def pts:List PT:=[.cs tDisk_]
def FS:FS:=mkFS [.sh] pts (fun x=>Zq24 x.1) fun t=>⟨[.cs tIntResult_ t],[]⟩
theorem ok:FsOk PR 15 FS:=
 fn_ok tbok hmix Proofs.Tryz.f15 ⟨[1],[],[],0⟩ .no (G:=G) (show GOk PR G from .cons Zq20.ok (.cons Zq22.ok (.cons Zq23.ok .nil))) (L:=mkL []) (l:=[]) hT
  (fun x=>by simp only[Zq24,mC,mB,mS,mO,mN];kernel_rfl)
end Zq24
def Zq25 (words:List Int) (at_:Int):Option Int:=
 cond (decide (at_<(words.length:Int))) (cond (inB at_ words.length) (some (words.getD at_.toNat 0)) none) (some 0)
namespace Zq25
def pts:List PT:=[.cs SI,.cs I64]
def FS:FS:=mkFS [.sh,.sh] pts (fun x=>Zq25 x.1 x.2.1) fun t=>⟨[.cs I64 t],[]⟩
theorem ok:FsOk PR 37 FS:=
 fn_ok tbok hmix Proofs.Tryz.f37 h0 .no (G:=(mkG [])) .nil (L:=mkL []) (l:=[]) hT
  (fun x=>by simp only[Zq25,mC,mB,mS,mO,mN];kernel_rfl)
end Zq25
def Zq26 (w:List Int):Option (List Int):=
 cond (decide (([]++w).length≤2147483648)) (some ([]++w)) none
namespace Zq26
def pts:List PT:=[.cs SI]
def FS:FS:=mkFS [.sh] pts (fun x=>Zq26 x.1) fun t=>⟨[.cd SI t],[]⟩
theorem ok:FsOk PR 38 FS:=
 fn_ok tbok hmix Proofs.Tryz.f38 h0 .no (G:=(mkG [])) .nil (L:=mkL []) (l:=[]) hT
  (fun x=>by simp only[Zq26,mC,mB,mS,mO,mN];kernel_rfl)
end Zq26
def Zq27 (n:Int):Option Bool:=
 (Zq15 n 0 32).bind fun r=>some r
namespace Zq27
def G:Gam:=mkG [(69,Zq15.FS)]
def pts:List PT:=[.cs I64]
def FS:FS:=mkFS [.sh] pts (fun x=>Zq27 x.1) fun t=>⟨[.cs .bool t],[]⟩
theorem ok:FsOk PR 99 FS:=
 fn_ok tbok hmix Proofs.Tryz.f99 h0 .no (G:=G) (show GOk PR G from .cons Zq15.ok .nil) (L:=mkL []) (l:=[]) hT
  (fun x=>by simp only[Zq27,mC,mB,mS,mO,mN];kernel_rfl)
end Zq27
def Zq28 (size:Int):Option Int:=
 cond (!((8:Int) == 0)) (some (w64 ((w64 ((w64 (size+8))-1)).tdiv 8))) none
namespace Zq28
def pts:List PT:=[.cs I64]
def FS:FS:=mkFS [.sh] pts (fun x=>Zq28 x.1) fun t=>⟨[.cs I64 t],[]⟩
theorem ok:FsOk PR 100 FS:=
 fn_ok tbok hmix Proofs.Tryz.f100 h0 .no (G:=(mkG [])) .nil (L:=mkL []) (l:=[]) hT
  (fun x=>by simp only[Zq28,mC,mB,mS,mO,mN];kernel_rfl)
end Zq28
def Zq29.B (x:Inode_) (i_:Int):Option (Int⊕((Int⊕Unit))):=
 cond (decide (i_<(x.2.2.2.1.length:Int))) (cond (inB i_ x.2.2.2.1.length) ((Zq15 (x.2.2.2.1.getD i_.toNat 0) 0 19).bind fun r4=>cond (!r4) (some (.inr (.inl 3))) (some (.inl (w64 (i_+1))))) none) (some (.inr (.inr ())))
def Zq29 (x:Inode_):Int→Option ((Int⊕Unit)):=
 loopL fun s=>Zq29.B x s
def Zq30.B (x:Inode_) (i_2:Int) (k_:Int):Option (Int⊕((Int⊕Unit))):=
 cond (decide (k_<i_2)) (cond (inB k_ x.2.2.2.1.length) (cond (inB i_2 x.2.2.2.1.length) ((some ((x.2.2.2.1.getD k_.toNat 0) == (x.2.2.2.1.getD i_2.toNat 0))).bind fun v=>cond v (some (.inr (.inl 7))) (some (.inl (w64 (k_+1))))) none) none) (some (.inr (.inr ())))
def Zq30 (x:Inode_) (i_2:Int):Int→Option ((Int⊕Unit)):=
 loopL fun s=>Zq30.B x i_2 s
def Zq31.B (x:Inode_) (i_2:Int):Option (Int⊕((Int⊕Unit))):=
 cond (decide (i_2<(x.2.2.2.1.length:Int))) ((Zq30 x i_2 0).bind fun o2=>sel o2 (fun b2=>some (.inr (.inl b2))) (fun c2=>some (.inl (w64 (i_2+1))))) (some (.inr (.inr ())))
def Zq31 (x:Inode_):Int→Option ((Int⊕Unit)):=
 loopL fun s=>Zq31.B x s
def Zq32 (x:Inode_):Option Int:=
 (Zq15 x.2.1 1 60).bind fun r=>cond (!r) (some 3) ((Zq27 x.2.2.1).bind fun r2=>cond (!r2) (some 3) ((Zq28 x.2.2.1).bind fun r3=>cond ((x.2.2.2.1.length:Int) != r3) (some 1) ((Zq29 x 0).bind fun o=>sel o (fun b=>some b) (fun c=>(Zq31 x 0).bind fun o3=>sel o3 (fun b3=>some b3) (fun c3=>some 0)))))
namespace Zq32
def G:Gam:=mkG [(69,Zq15.FS),(99,Zq27.FS),(100,Zq28.FS)]
theorem Gok:GOk PR G:=.cons Zq15.ok (.cons Zq27.ok (.cons Zq28.ok .nil))
end Zq32
namespace Zq29
def c:=codeAt (bodyOf Proofs.Tryz.f70) [1,1,1,0,1,0,0]
def sp:SP:=⟨[(0,.pt tInode_),(3,.cs I64)],[]⟩
def out (x:Inode_):FOut ((Int⊕Unit)):=fun oo0 _ kk0=>sel oo0 (fun bb0=>kk0 (.rt) ⟨[(2,.cs I64 bb0)],[]⟩) (fun cc0=>kk0 (.ex 0) ⟨[(0,.pt tInode_ x)],[]⟩)
def fr:=lfrag sp (fun x=>Zq29 x.1.1 x.1.2.1) fun x=>out x.1.1
theorem ok:CodeOk PR 78 1 (.loop c) fr:=
 lp_ok tbok hmix h0 .no (G:=Zq32.G) Zq32.Gok (L:=mkL []) (l:=[]) hT [0,3] [] [(0,([0],[]))] ([2],[]) (fun x s=>B x.1.1 s) (fun x s=>⟨[(0,.pt tInode_ x.1.1),(3,.cs I64 s)],[]⟩) (fun x=>x.1.2.1)
  (fun x s=>by simp only[B,mC,mB,mS,mO,mN];kernel_rfl)
end Zq29
namespace Zq30
def c:=codeAt (bodyOf Proofs.Tryz.f70) [1,1,1,1,0,1,0,0,1,0,0,1,0,0]
def sp:SP:=⟨[(0,.pt tInode_),(4,.cs I64),(5,.cs I64)],[]⟩
def out (x:Inode_) (i_2:Int):FOut ((Int⊕Unit)):=fun oo0 _ kk0=>sel oo0 (fun bb0=>kk0 (.rt) ⟨[(2,.cs I64 bb0)],[]⟩) (fun cc0=>kk0 (.ex 4) ⟨[(0,.pt tInode_ x),(4,.cs I64 i_2)],[]⟩)
def fr:=lfrag sp (fun x=>Zq30 x.1.1 x.1.2.1 x.1.2.2.1) fun x=>out x.1.1 x.1.2.1
theorem ok:CodeOk PR 78 1 (.loop c) fr:=
 lp_ok tbok hmix h0 .no (G:=Zq32.G) Zq32.Gok (L:=mkL []) (l:=[]) hT [0,4,5] [] [(4,([0,4],[]))] ([2],[]) (fun x s=>B x.1.1 x.1.2.1 s) (fun x s=>⟨[(0,.pt tInode_ x.1.1),(4,.cs I64 x.1.2.1),(5,.cs I64 s)],[]⟩) (fun x=>x.1.2.2.1)
  (fun x s=>by simp only[B,mC,mB,mS,mO,mN];kernel_rfl)
end Zq30
namespace Zq31
def c:=codeAt (bodyOf Proofs.Tryz.f70) [1,1,1,1,0,1,0,0]
def sp:SP:=⟨[(0,.pt tInode_),(4,.cs I64)],[]⟩
def out (x:Inode_):FOut ((Int⊕Unit)):=fun oo0 _ kk0=>sel oo0 (fun bb0=>kk0 (.rt) ⟨[(2,.cs I64 bb0)],[]⟩) (fun cc0=>kk0 (.ex 2) ⟨[],[]⟩)
def fr:=lfrag sp (fun x=>Zq31 x.1.1 x.1.2.1) fun x=>out x.1.1
theorem ok:CodeOk PR 78 1 (.loop c) fr:=
 lp_ok tbok hmix h0 (.R (.L (.one (.R (.one (.fr 2)))))) (G:=Zq32.G) Zq32.Gok (L:=mkL [(2,Zq30.fr)]) (l:=[(2,.loop Zq30.c)]) ⟨Lam.cons Zq30.ok,trivial⟩ [0,4] [] [(2,([],[]))] ([2],[]) (fun x s=>B x.1.1 s) (fun x s=>⟨[(0,.pt tInode_ x.1.1),(4,.cs I64 s)],[]⟩) (fun x=>x.1.2.1)
  (fun x s=>by simp only[B,mC,mB,mS,mO,mN];kernel_rfl)
end Zq31
namespace Zq32
def pts:List PT:=[.pt tInode_]
def FS:FS:=mkFS [.sh] pts (fun x=>Zq32 x.1) fun t=>⟨[.cs I64 t],[]⟩
theorem ok:FsOk PR 70 FS:=
 fn_ok tbok hmix Proofs.Tryz.f70 h0 (.R (.R (.R (.two (.R (.one (.fr 0))) (.L (.R (.one (.fr 1)))))))) (G:=G) Gok (L:=mkL [(0,Zq29.fr),(2,Zq30.fr),(1,Zq31.fr)]) (l:=[(0,.loop Zq29.c),(1,.loop Zq31.c)]) ⟨Lam.cons Zq29.ok,Lam.skip rfl (Lam.skip rfl (Lam.cons Zq31.ok)),trivial⟩
  (fun x=>by simp only[Zq32,mC,mB,mS,mO,mN];kernel_rfl)
end Zq32
def Zq33.B (name:List UInt8) (i_:Int):Option (Int⊕((Int⊕Unit))):=
 cond (decide (i_<(name.length:Int))) (cond (inB i_ name.length) ((some (decide (((name.getD i_.toNat 0).toNat:Int)<97))).bind fun v=>cond (cond (!v) (inB i_ name.length) true) ((some (cond v true (decide (((name.getD i_.toNat 0).toNat:Int)>122)))).bind fun v2=>cond v2 (some (.inr (.inl 5))) (some (.inl (w64 (i_+1))))) none) none) (some (.inr (.inr ())))
def Zq33 (name:List UInt8):Int→Option ((Int⊕Unit)):=
 loopL fun s=>Zq33.B name s
def Zq34 (name:List UInt8):Option Int:=
 (Zq33 name 0).bind fun o=>sel o (fun b=>some b) (fun c=>cond (name == ([]:List UInt8)) (some 5) (cond (decide ((name.length:Int)>4)) (some 2) (some 0)))
namespace Zq33
def c:=codeAt (bodyOf Proofs.Tryz.f101) [1,0,1,0,0]
def sp:SP:=⟨[(0,.cs .str),(3,.cs I64)],[]⟩
def out (name:List UInt8):FOut ((Int⊕Unit)):=fun oo0 _ kk0=>sel oo0 (fun bb0=>kk0 (.rt) ⟨[(2,.cs I64 bb0)],[]⟩) (fun cc0=>kk0 (.ex 0) ⟨[(0,.cs .str name)],[]⟩)
def fr:=lfrag sp (fun x=>Zq33 x.1.1 x.1.2.1) fun x=>out x.1.1
theorem ok:CodeOk PR 25 1 (.loop c) fr:=
 lp_ok tbok hmix h0 .no (G:=(mkG [])) .nil (L:=mkL []) (l:=[]) hT [0,3] [] [(0,([0],[]))] ([2],[]) (fun x s=>B x.1.1 s) (fun x s=>⟨[(0,.cs .str x.1.1),(3,.cs I64 s)],[]⟩) (fun x=>x.1.2.1)
  (fun x s=>by simp only[B,mC,mB,mS,mO,mN];kernel_rfl)
end Zq33
namespace Zq34
def pts:List PT:=[.cs .str]
def FS:FS:=mkFS [.sh] pts (fun x=>Zq34 x.1) fun t=>⟨[.cs I64 t],[]⟩
theorem ok:FsOk PR 101 FS:=
 fn_ok tbok hmix Proofs.Tryz.f101 h0 (.R (.L (.R (.one (.fr 0))))) (G:=(mkG [])) .nil (L:=mkL [(0,Zq33.fr)]) (l:=[(0,.loop Zq33.c)]) ⟨Lam.cons Zq33.ok,trivial⟩
  (fun x=>by simp only[Zq34,mC,mB,mS,mO,mN];kernel_rfl)
end Zq34
def Zq35.B (x:Inode_) (i_:Int):Option (Int⊕((Int⊕Unit))):=
 cond (decide (i_<(x.2.2.2.2.1.length:Int))) (cond (inB i_ x.2.2.2.2.1.length) ((Zq34 (x.2.2.2.2.1.getD i_.toNat zEntry_).1).bind fun r=>cond (r != 0) (some (.inr (.inl r))) (cond (inB i_ x.2.2.2.2.1.length) ((Zq15 (x.2.2.2.2.1.getD i_.toNat zEntry_).2.1 0 9).bind fun r2=>cond (!r2) (some (.inr (.inl 3))) (cond (cond (decide (i_>0)) (inB i_ x.2.2.2.2.1.length) true) (cond (cond (decide (i_>0)) (inB (w64 (i_-1)) x.2.2.2.2.1.length) true) ((some (cond (decide (i_>0)) (leB (x.2.2.2.2.1.getD i_.toNat zEntry_).1 (x.2.2.2.2.1.getD (w64 (i_-1)).toNat zEntry_).1 || (x.2.2.2.2.1.getD i_.toNat zEntry_).1 == (x.2.2.2.2.1.getD (w64 (i_-1)).toNat zEntry_).1) false)).bind fun v=>cond v (some (.inr (.inl 1))) (some (.inl (w64 (i_+1))))) none) none)) none)) none) (some (.inr (.inr ())))
def Zq35 (x:Inode_):Int→Option ((Int⊕Unit)):=
 loopL fun s=>Zq35.B x s
def Zq36 (x:Inode_):Option Int:=
 cond (decide ((x.2.2.2.2.1.length:Int)>6)) (some 2) ((Zq35 x 0).bind fun o=>sel o (fun b=>some b) (fun c=>some 0))
namespace Zq36
def G:Gam:=mkG [(101,Zq34.FS),(69,Zq15.FS)]
theorem Gok:GOk PR G:=.cons Zq34.ok (.cons Zq15.ok .nil)
end Zq36
namespace Zq35
def c:=codeAt (bodyOf Proofs.Tryz.f71) [1,1,0,1,0,0]
def sp:SP:=⟨[(0,.pt tInode_),(3,.cs I64)],[]⟩
def out (x:Inode_):FOut ((Int⊕Unit)):=fun oo0 _ kk0=>sel oo0 (fun bb0=>kk0 (.rt) ⟨[(2,.cs I64 bb0)],[]⟩) (fun cc0=>kk0 (.ex 0) ⟨[],[]⟩)
def fr:=lfrag sp (fun x=>Zq35 x.1.1 x.1.2.1) fun x=>out x.1.1
theorem ok:CodeOk PR 64 1 (.loop c) fr:=
 lp_ok tbok hmix h0 .no (G:=Zq36.G) Zq36.Gok (L:=mkL []) (l:=[]) hT [0,3] [] [(0,([],[]))] ([2],[]) (fun x s=>B x.1.1 s) (fun x s=>⟨[(0,.pt tInode_ x.1.1),(3,.cs I64 s)],[]⟩) (fun x=>x.1.2.1)
  (fun x s=>by simp only[B,mC,mB,mS,mO,mN];kernel_rfl)
end Zq35
namespace Zq36
def pts:List PT:=[.pt tInode_]
def FS:FS:=mkFS [.sh] pts (fun x=>Zq36 x.1) fun t=>⟨[.cs I64 t],[]⟩
theorem ok:FsOk PR 71 FS:=
 fn_ok tbok hmix Proofs.Tryz.f71 h0 (.R (.R (.L (.R (.one (.fr 0)))))) (G:=G) Gok (L:=mkL [(0,Zq35.fr)]) (l:=[(0,.loop Zq35.c)]) ⟨Lam.cons Zq35.ok,trivial⟩
  (fun x=>by simp only[Zq36,mC,mB,mS,mO,mN];kernel_rfl)
end Zq36
def Zq37 (x:Inode_):Option Int:=
 (Zq15 x.1 0 2).bind fun r=>cond (!r) (some 1) ((some (cond (x.1 != 1) (cond (cond (x.2.1 != 0) true (x.2.2.1 != 0)) true (decide ((x.2.2.2.1.length:Int)>0))) false)).bind fun v=>(some (cond v true (cond (x.1 != 2) (decide ((x.2.2.2.2.1.length:Int)>0)) false))).bind fun v2=>cond v2 (some 1) (cond (x.1 == 1) ((Zq32 x).bind fun r2=>some r2) (cond (x.1 == 2) ((Zq36 x).bind fun r3=>some r3) (some 0))))
namespace Zq37
def G:Gam:=mkG [(69,Zq15.FS),(70,Zq32.FS),(71,Zq36.FS)]
def pts:List PT:=[.pt tInode_]
def FS:FS:=mkFS [.sh] pts (fun x=>Zq37 x.1) fun t=>⟨[.cs I64 t],[]⟩
theorem ok:FsOk PR 39 FS:=
 fn_ok tbok hmix Proofs.Tryz.f39 h0 .no (G:=G) (show GOk PR G from .cons Zq15.ok (.cons Zq32.ok (.cons Zq36.ok .nil))) (L:=mkL []) (l:=[]) hT
  (fun x=>by simp only[Zq37,mC,mB,mS,mO,mN];kernel_rfl)
end Zq37
def Zq38.B (x:Inode_) (i_:Int) (e_:Entry_) (k_:Int) (out_2:List Int):Option ((Int×List Int)⊕(List Int)):=
 cond (decide (k_<(e_.1.length:Int))) (cond (inB k_ e_.1.length) ((some (out_2++([w64 (((e_.1.getD k_.toNat 0).toNat:Int))]))).bind fun v4=>cond (decide (v4.length≤2147483648)) (some (.inl (w64 (k_+1),v4))) none) none) (some (.inr out_2))
def Zq38 (x:Inode_) (i_:Int) (e_:Entry_):(Int×List Int)→Option (List Int):=
 loopL fun s=>Zq38.B x i_ e_ s.1 s.2
def Zq39.B (x:Inode_) (i_:Int) (out_:List Int):Option ((Int×List Int)⊕(List Int)):=
 cond (decide (i_<(x.2.2.2.2.1.length:Int))) (cond (inB i_ x.2.2.2.2.1.length) ((some ((x.2.2.2.2.1.getD i_.toNat zEntry_).1.length:Int)).bind fun v2=>(some (out_++([(x.2.2.2.2.1.getD i_.toNat zEntry_).2.1,v2]))).bind fun v3=>cond (decide (v3.length≤2147483648)) ((Zq38 x i_ (x.2.2.2.2.1.getD i_.toNat zEntry_) (0,v3)).bind fun o=>some (.inl (w64 (i_+1),o))) none) none) (some (.inr out_))
def Zq39 (x:Inode_):(Int×List Int)→Option (List Int):=
 loopL fun s=>Zq39.B x s.1 s.2
def Zq40 (x:Inode_):Option (List Int):=
 cond (decide ((([x.1,x.2.1,x.2.2.1])++x.2.2.2.1).length≤2147483648)) (cond (x.1 != 2) (some (([x.1,x.2.1,x.2.2.1])++x.2.2.2.1)) ((some ((([x.1,x.2.1,x.2.2.1])++x.2.2.2.1)++([(x.2.2.2.2.1.length:Int)]))).bind fun v=>cond (decide (v.length≤2147483648)) ((Zq39 x (0,v)).bind fun o2=>some o2) none)) none
namespace Zq38
def c:=codeAt (bodyOf Proofs.Tryz.f41) [1,1,1,1,0,1,0,0,1,0,0,1,1,1,0,0]
def sp:SP:=⟨[(1,.pt tInode_),(3,.seg 3 []),(4,.cs I64),(5,.loc 5 []),(6,.cs I64)],[(3,.reg,.cd SI),(5,.mem,.cd tEntry_)]⟩
def out (x:Inode_) (i_:Int) (e_:Entry_):FOut (List Int):=fun bb0 _ kk0=>kk0 (.ex 2) ⟨[(1,.pt tInode_ x),(3,.seg 3 []),(4,.cs I64 i_)],[sr 3 (.cd SI bb0)]⟩
def fr:=lfrag sp (fun x=>Zq38 x.1.1 x.1.2.2.1 x.2.2.1 (x.1.2.2.2.2.1,x.2.1)) fun x=>out x.1.1 x.1.2.2.1 x.2.2.1
theorem ok:CodeOk PR 63 1 (.loop c) fr:=
 lp_ok tbok hmix ⟨[1],[],[],0⟩ .no (G:=(mkG [])) .nil (L:=mkL []) (l:=[]) hT [1,3,4,5,6] [3,5] [(2,([1,3,4],[3]))] ([],[]) (fun x s=>B x.1.1 x.1.2.2.1 x.2.2.1 s.1 s.2) (fun x s=>⟨[(1,.pt tInode_ x.1.1),(3,.seg 3 []),(4,.cs I64 x.1.2.2.1),(5,.loc 5 []),(6,.cs I64 s.1)],[sr 3 (.cd SI s.2),(5,some ⟨.mem,.cd tEntry_ x.2.2.1⟩)]⟩) (fun x=>(x.1.2.2.2.2.1,x.2.1))
  (fun x s=>by simp only[B,mC,mB,mS,mO,mN];kernel_rfl)
end Zq38
namespace Zq39
def c:=codeAt (bodyOf Proofs.Tryz.f41) [1,1,1,1,0,1,0,0]
def sp:SP:=⟨[(1,.pt tInode_),(3,.seg 3 []),(4,.cs I64)],[(3,.reg,.cd SI)]⟩
def out (x:Inode_):FOut (List Int):=fun bb0 _ kk0=>kk0 (.ex 0) ⟨[(3,.seg 3 [])],[sr 3 (.cd SI bb0)]⟩
def fr:=lfrag sp (fun x=>Zq39 x.1.1 (x.1.2.2.1,x.2.1)) fun x=>out x.1.1
theorem ok:CodeOk PR 63 1 (.loop c) fr:=
 lp_ok tbok hmix ⟨[1],[],[],0⟩ (.R (.L (.one (.R (.R (.R (.one (.fr 1)))))))) (G:=(mkG [])) .nil (L:=mkL [(1,Zq38.fr)]) (l:=[(1,.loop Zq38.c)]) ⟨Lam.cons Zq38.ok,trivial⟩ [1,3,4] [3] [(0,([3],[3]))] ([],[]) (fun x s=>B x.1.1 s.1 s.2) (fun x s=>⟨[(1,.pt tInode_ x.1.1),(3,.seg 3 []),(4,.cs I64 s.1)],[sr 3 (.cd SI s.2)]⟩) (fun x=>(x.1.2.2.1,x.2.1))
  (fun x s=>by simp only[B,mC,mB,mS,mO,mN];kernel_rfl)
end Zq39
namespace Zq40
def pts:List PT:=[.cs tInode_]
def FS:FS:=mkFS [.sh] pts (fun x=>Zq40 x.1) fun t=>⟨[.cd SI t],[]⟩
theorem ok:FsOk PR 41 FS:=
 fn_ok tbok hmix Proofs.Tryz.f41 ⟨[1],[],[],0⟩ (.R (.R (.R (.R (.L (.R (.one (.fr 0)))))))) (G:=(mkG [])) .nil (L:=mkL [(1,Zq38.fr),(0,Zq39.fr)]) (l:=[(0,.loop Zq39.c)]) ⟨Lam.skip rfl (Lam.cons Zq39.ok),trivial⟩
  (fun x=>by simp only[Zq40,mC,mB,mS,mO,mN];kernel_rfl)
end Zq40
def Zq41.B (a:List Int) (b:List Int) (i_:Int):Option (Int⊕((Bool⊕Unit))):=
 cond (decide (i_<(a.length:Int))) (cond (inB i_ a.length) (cond (inB i_ b.length) (cond ((a.getD i_.toNat 0) != (b.getD i_.toNat 0)) (some (.inr (.inl false))) (some (.inl (w64 (i_+1))))) none) none) (some (.inr (.inr ())))
def Zq41 (a:List Int) (b:List Int):Int→Option ((Bool⊕Unit)):=
 loopL fun s=>Zq41.B a b s
def Zq42 (a:List Int) (b:List Int):Option Bool:=
 cond ((a.length:Int) != (b.length:Int)) (some false) ((Zq41 a b 0).bind fun o=>sel o (fun b2=>some b2) (fun c=>some true))
namespace Zq41
def c:=codeAt (bodyOf Proofs.Tryz.f40) [1,1,0,1,0,0]
def sp:SP:=⟨[(0,.cs SI),(1,.cs SI),(5,.cs I64)],[]⟩
def out (a:List Int) (b:List Int):FOut ((Bool⊕Unit)):=fun oo0 _ kk0=>sel oo0 (fun bb0=>kk0 (.rt) ⟨[(4,.cs .bool bb0)],[]⟩) (fun cc0=>kk0 (.ex 0) ⟨[],[]⟩)
def fr:=lfrag sp (fun x=>Zq41 x.1.1 x.1.2.1 x.1.2.2.1) fun x=>out x.1.1 x.1.2.1
theorem ok:CodeOk PR 26 2 (.loop c) fr:=
 lp_ok tbok hmix h0 .no (G:=(mkG [])) .nil (L:=mkL []) (l:=[]) hT [0,1,5] [] [(0,([],[]))] ([4],[]) (fun x s=>B x.1.1 x.1.2.1 s) (fun x s=>⟨[(0,.cs SI x.1.1),(1,.cs SI x.1.2.1),(5,.cs I64 s)],[]⟩) (fun x=>x.1.2.2.1)
  (fun x s=>by simp only[B,mC,mB,mS,mO,mN];kernel_rfl)
end Zq41
namespace Zq42
def pts:List PT:=[.cs SI,.cs SI]
def FS:FS:=mkFS [.sh,.sh] pts (fun x=>Zq42 x.1 x.2.1) fun t=>⟨[.cs .bool t],[]⟩
theorem ok:FsOk PR 40 FS:=
 fn_ok tbok hmix Proofs.Tryz.f40 h0 (.R (.R (.L (.R (.one (.fr 0)))))) (G:=(mkG [])) .nil (L:=mkL [(0,Zq41.fr)]) (l:=[(0,.loop Zq41.c)]) ⟨Lam.cons Zq41.ok,trivial⟩
  (fun x=>by simp only[Zq42,mC,mB,mS,mO,mN];kernel_rfl)
end Zq42
def Zq43.B (words:List Int) (k_:Int) (r6:Int) (v4:Int) (v5:List Int) (r4:Int) (v6:Bool) (v2:Inode_) (x_:Inode_) (at_2:Int) (i_:Int) (e_:Entry_):Option ((Int×Int×Entry_)⊕(Int×Entry_)):=
 cond (cond (decide (i_<r6)) (decide (i_<8)) false) ((Zq25 words at_2).bind fun r7=>cond (!((256:Int) == 0)) ((some (([IntKind.u8.wrap (r7.tmod 256)]).map fun n=>UInt8.ofNat n.toNat)).bind fun v7=>cond (decide (e_.1.length+v7.length≤2147483648)) (some (.inl (w64 (at_2+1),w64 (i_+1),(e_.1++v7,e_.2)))) none) none) (some (.inr (at_2,e_)))
def Zq43 (words:List Int) (k_:Int) (r6:Int) (v4:Int) (v5:List Int) (r4:Int) (v6:Bool) (v2:Inode_) (x_:Inode_):(Int×Int×Entry_)→Option (Int×Entry_):=
 loopL fun s=>Zq43.B words k_ r6 v4 v5 r4 v6 v2 x_ s.1 s.2.1 s.2.2
def Zq44.B (words:List Int) (v2:Inode_) (at_:Int) (k_:Int) (x_:Inode_):Option ((Int×Int×Inode_)⊕Inode_):=
 cond (x_.1 == 2) ((Zq25 words 3).bind fun r4=>(some (cond (decide (k_<r4)) (decide (at_<(words.length:Int))) false)).bind fun v3=>cond v3 ((Zq25 words at_).bind fun r5=>(Zq25 words (w64 (at_+1))).bind fun r6=>(Zq43 words k_ r6 k_ words r4 (decide (k_<r4)) v2 x_ (w64 (at_+2),0,([],r5,()))).bind fun o=>cond (decide ((x_.2.2.2.2.1++([o.2])).length≤2147483648)) (some (.inl (o.1,w64 (k_+1),(x_.1,x_.2.1,x_.2.2.1,x_.2.2.2.1,x_.2.2.2.2.1++([o.2]),x_.2.2.2.2.2)))) none) (some (.inr x_))) (some (.inr x_))
def Zq44 (words:List Int) (v2:Inode_):(Int×Int×Inode_)→Option Inode_:=
 loopL fun s=>Zq44.B words v2 s.1 s.2.1 s.2.2
def Zq45 (words:List Int):Option (Inode_×Bool):=
 cond ((words.length:Int) == 0) (some ((0,0,0,[],[],()),true)) (cond (inB 0 words.length) ((Zq25 words 1).bind fun r=>(Zq25 words 2).bind fun r2=>(some (cond ((words.getD (0:Int).toNat 0) == 1) (decide ((words.length:Int)>3)) false)).bind fun v=>cond v (cond (decide ((0:Int)≤(3:Int))&&decide ((3:Int)≤(words.length:Int))) ((Zq26 ((words.take words.length).drop ((3:Int).toNat))).bind fun r3=>(Zq44 words (0,0,0,[],[],()) (4,0,(words.getD (0:Int).toNat 0,r,r2,r3,[],()))).bind fun o2=>(Zq37 o2).bind fun r8=>cond (r8 == 0) ((Zq40 (o2.1,o2.2.1,o2.2.2.1,o2.2.2.2.1,o2.2.2.2.2.1,o2.2.2.2.2.2)).bind fun r9=>(Zq42 r9 words).bind fun r10=>some ((o2.1,o2.2.1,o2.2.2.1,o2.2.2.2.1,o2.2.2.2.2.1,o2.2.2.2.2.2),r10)) (some ((o2.1,o2.2.1,o2.2.2.1,o2.2.2.2.1,o2.2.2.2.2.1,o2.2.2.2.2.2),false))) none) ((Zq44 words (0,0,0,[],[],()) (4,0,(words.getD (0:Int).toNat 0,r,r2,[],[],()))).bind fun o3=>(Zq37 o3).bind fun r11=>cond (r11 == 0) ((Zq40 (o3.1,o3.2.1,o3.2.2.1,o3.2.2.2.1,o3.2.2.2.2.1,o3.2.2.2.2.2)).bind fun r12=>(Zq42 r12 words).bind fun r13=>some ((o3.1,o3.2.1,o3.2.2.1,o3.2.2.2.1,o3.2.2.2.2.1,o3.2.2.2.2.2),r13)) (some ((o3.1,o3.2.1,o3.2.2.1,o3.2.2.2.1,o3.2.2.2.2.1,o3.2.2.2.2.2),false)))) none)
namespace Zq45
def G:Gam:=mkG [(37,Zq25.FS),(38,Zq26.FS),(39,Zq37.FS),(41,Zq40.FS),(40,Zq42.FS)]
theorem Gok:GOk PR G:=.cons Zq25.ok (.cons Zq26.ok (.cons Zq37.ok (.cons Zq40.ok (.cons Zq42.ok .nil))))
end Zq45
namespace Zq43
def c:=codeAt (bodyOf Proofs.Tryz.f17) [1,1,1,1,1,0,1,0,0,1,0,0,1,1,1,0,1,0,0]
def sp:SP:=⟨[(0,.cs SI),(2,.loc 2 []),(4,.loc 4 []),(5,.cs I64),(6,.cs I64),(7,.loc 7 []),(8,.cs I64),(9,.cs I64),(38,.cs I64),(39,.cs SI),(40,.cs I64),(41,.cs .bool)],[(2,.mem,.cd tInode_),(4,.mem,.cd tInode_),(7,.mem,.cd tEntry_)]⟩
def out (words:List Int) (k_:Int) (r6:Int) (v4:Int) (v5:List Int) (r4:Int) (v6:Bool) (v2:Inode_) (x_:Inode_):FOut (Int×Entry_):=fun bb0 _ kk0=>kk0 (.ex 2) ⟨[(0,.cs SI words),(2,.loc 2 []),(4,.loc 4 []),(5,.cs I64 bb0.1),(6,.cs I64 k_),(7,.loc 7 []),(38,.cs I64 v4),(39,.cs SI v5),(40,.cs I64 r4),(41,.cs .bool v6)],[(2,some ⟨.mem,.cd tInode_ v2⟩),(4,some ⟨.mem,.cd tInode_ x_⟩),(7,some ⟨.mem,.cd tEntry_ bb0.2⟩)]⟩
def fr:=lfrag sp (fun x=>Zq43 x.1.1 x.1.2.2.2.2.1 x.1.2.2.2.2.2.2.1 x.1.2.2.2.2.2.2.2.2.1 x.1.2.2.2.2.2.2.2.2.2.1 x.1.2.2.2.2.2.2.2.2.2.2.1 x.1.2.2.2.2.2.2.2.2.2.2.2.1 x.2.1 x.2.2.1 (x.1.2.2.2.1,x.1.2.2.2.2.2.2.2.1,x.2.2.2.1)) fun x=>out x.1.1 x.1.2.2.2.2.1 x.1.2.2.2.2.2.2.1 x.1.2.2.2.2.2.2.2.2.1 x.1.2.2.2.2.2.2.2.2.2.1 x.1.2.2.2.2.2.2.2.2.2.2.1 x.1.2.2.2.2.2.2.2.2.2.2.2.1 x.2.1 x.2.2.1
theorem ok:CodeOk PR 98 1 (.loop c) fr:=
 lp_ok tbok hmix h0 .no (G:=Zq45.G) Zq45.Gok (L:=mkL []) (l:=[]) hT [0,2,4,5,6,7,8,9,38,39,40,41] [2,4,7] [(2,([0,2,4,5,6,7,38,39,40,41],[2,4,7]))] ([],[]) (fun x s=>B x.1.1 x.1.2.2.2.2.1 x.1.2.2.2.2.2.2.1 x.1.2.2.2.2.2.2.2.2.1 x.1.2.2.2.2.2.2.2.2.2.1 x.1.2.2.2.2.2.2.2.2.2.2.1 x.1.2.2.2.2.2.2.2.2.2.2.2.1 x.2.1 x.2.2.1 s.1 s.2.1 s.2.2) (fun x s=>⟨[(0,.cs SI x.1.1),(2,.loc 2 []),(4,.loc 4 []),(5,.cs I64 s.1),(6,.cs I64 x.1.2.2.2.2.1),(7,.loc 7 []),(8,.cs I64 x.1.2.2.2.2.2.2.1),(9,.cs I64 s.2.1),(38,.cs I64 x.1.2.2.2.2.2.2.2.2.1),(39,.cs SI x.1.2.2.2.2.2.2.2.2.2.1),(40,.cs I64 x.1.2.2.2.2.2.2.2.2.2.2.1),(41,.cs .bool x.1.2.2.2.2.2.2.2.2.2.2.2.1)],[(2,some ⟨.mem,.cd tInode_ x.2.1⟩),(4,some ⟨.mem,.cd tInode_ x.2.2.1⟩),(7,some ⟨.mem,.cd tEntry_ s.2.2⟩)]⟩) (fun x=>(x.1.2.2.2.1,x.1.2.2.2.2.2.2.2.1,x.2.2.2.1))
  (fun x s=>by simp only[B,mC,mB,mS,mO,mN];kernel_rfl)
end Zq43
namespace Zq44
def c:=codeAt (bodyOf Proofs.Tryz.f17) [1,1,1,1,1,0,1,0,0]
def sp:SP:=⟨[(0,.cs SI),(2,.loc 2 []),(4,.loc 4 []),(5,.cs I64),(6,.cs I64)],[(2,.mem,.cd tInode_),(4,.mem,.cd tInode_)]⟩
def out (words:List Int) (v2:Inode_):FOut Inode_:=fun bb0 _ kk0=>kk0 (.ex 0) ⟨[(0,.cs SI words),(2,.loc 2 []),(4,.loc 4 [])],[(2,some ⟨.mem,.cd tInode_ v2⟩),(4,some ⟨.mem,.cd tInode_ bb0⟩)]⟩
def fr:=lfrag sp (fun x=>Zq44 x.1.1 x.2.1 (x.1.2.2.2.1,x.1.2.2.2.2.1,x.2.2.1)) fun x=>out x.1.1 x.2.1
theorem ok:CodeOk PR 98 1 (.loop c) fr:=
 lp_ok tbok hmix h0 (.R (.L (.one (.R (.R (.R (.L (.R (.one (.fr 1)))))))))) (G:=Zq45.G) Zq45.Gok (L:=mkL [(1,Zq43.fr)]) (l:=[(1,.loop Zq43.c)]) ⟨Lam.cons Zq43.ok,trivial⟩ [0,2,4,5,6] [2,4] [(0,([0,2,4],[2,4]))] ([],[]) (fun x s=>B x.1.1 x.2.1 s.1 s.2.1 s.2.2) (fun x s=>⟨[(0,.cs SI x.1.1),(2,.loc 2 []),(4,.loc 4 []),(5,.cs I64 s.1),(6,.cs I64 s.2.1)],[(2,some ⟨.mem,.cd tInode_ x.2.1⟩),(4,some ⟨.mem,.cd tInode_ s.2.2⟩)]⟩) (fun x=>(x.1.2.2.2.1,x.1.2.2.2.2.1,x.2.2.1))
  (fun x s=>by simp only[B,mC,mB,mS,mO,mN];kernel_rfl)
end Zq44
namespace Zq45
def pts:List PT:=[.cs SI]
def FS:FS:=mkFS [.sh] pts (fun x=>Zq45 x.1) fun t=>⟨[.cd tInode_ t.1,.cs .bool t.2],[]⟩
theorem ok:FsOk PR 17 FS:=
 fn_ok tbok hmix Proofs.Tryz.f17 h0 (.R (.R (.R (.R (.R (.L (.R (.one (.fr 0))))))))) (G:=G) Gok (L:=mkL [(1,Zq43.fr),(0,Zq44.fr)]) (l:=[(0,.loop Zq44.c)]) ⟨Lam.skip rfl (Lam.cons Zq44.ok),trivial⟩
  (fun x=>by simp only[Zq45,mC,mB,mS,mO,mN];kernel_rfl)
end Zq45
def Zq46.B (list:List Inode_) (i_:Int):Option (Int⊕((Int⊕Unit))):=
 cond (decide (i_<(list.length:Int))) (cond (inB i_ list.length) ((Zq37 (list.getD i_.toNat zInode_)).bind fun r=>cond (r != 0) (some (.inr (.inl r))) (some (.inl (w64 (i_+1))))) none) (some (.inr (.inr ())))
def Zq46 (list:List Inode_):Int→Option ((Int⊕Unit)):=
 loopL fun s=>Zq46.B list s
def Zq47 (list:List Inode_):Option Int:=
 cond (decide ((list.length:Int)>10)) (some 2) ((Zq46 list 0).bind fun o=>sel o (fun b=>some b) (fun c=>some 0))
namespace Zq47
def G:Gam:=mkG [(39,Zq37.FS)]
theorem Gok:GOk PR G:=.cons Zq37.ok .nil
end Zq47
namespace Zq46
def c:=codeAt (bodyOf Proofs.Tryz.f42) [1,1,0,1,0,0]
def sp:SP:=⟨[(0,.cs (.sl tInode_)),(3,.cs I64)],[]⟩
def out (list:List Inode_):FOut ((Int⊕Unit)):=fun oo0 _ kk0=>sel oo0 (fun bb0=>kk0 (.rt) ⟨[(2,.cs I64 bb0)],[]⟩) (fun cc0=>kk0 (.ex 0) ⟨[],[]⟩)
def fr:=lfrag sp (fun x=>Zq46 x.1.1 x.1.2.1) fun x=>out x.1.1
theorem ok:CodeOk PR 21 1 (.loop c) fr:=
 lp_ok tbok hmix h0 .no (G:=Zq47.G) Zq47.Gok (L:=mkL []) (l:=[]) hT [0,3] [] [(0,([],[]))] ([2],[]) (fun x s=>B x.1.1 s) (fun x s=>⟨[(0,.cs (.sl tInode_) x.1.1),(3,.cs I64 s)],[]⟩) (fun x=>x.1.2.1)
  (fun x s=>by simp only[B,mC,mB,mS,mO,mN];kernel_rfl)
end Zq46
namespace Zq47
def pts:List PT:=[.cs (.sl tInode_)]
def FS:FS:=mkFS [.sh] pts (fun x=>Zq47 x.1) fun t=>⟨[.cs I64 t],[]⟩
theorem ok:FsOk PR 42 FS:=
 fn_ok tbok hmix Proofs.Tryz.f42 h0 (.R (.R (.L (.R (.one (.fr 0)))))) (G:=G) Gok (L:=mkL [(0,Zq46.fr)]) (l:=[(0,.loop Zq46.c)]) ⟨Lam.cons Zq46.ok,trivial⟩
  (fun x=>by simp only[Zq47,mC,mB,mS,mO,mN];kernel_rfl)
end Zq47
def Zq48.B (list:List Inode_) (at_:Int) (i_:Int) (n_2:Int) (k_:Int):Option ((Int×Int)⊕Int):=
 cond (inB i_ list.length) ((some ((list.getD i_.toNat zInode_).2.2.2.1.length:Int)).bind fun v=>cond (decide (k_<v)) (cond (inB i_ list.length) (cond (inB k_ ((list.getD i_.toNat zInode_).2.2.2.1.length)) ((some ((list.getD i_.toNat zInode_).2.2.2.1.getD k_.toNat 0)).bind fun v2=>cond (v2 == at_) (some (.inl (w64 (n_2+1),w64 (k_+1)))) (some (.inl (n_2,w64 (k_+1))))) none) none) (some (.inr n_2))) none
def Zq48 (list:List Inode_) (at_:Int) (i_:Int):(Int×Int)→Option Int:=
 loopL fun s=>Zq48.B list at_ i_ s.1 s.2
def Zq49.B (list:List Inode_) (at_:Int) (n_:Int) (i_:Int):Option ((Int×Int)⊕Int):=
 cond (decide (i_<(list.length:Int))) ((Zq48 list at_ i_ (n_,0)).bind fun o=>some (.inl (o,w64 (i_+1)))) (some (.inr n_))
def Zq49 (list:List Inode_) (at_:Int):(Int×Int)→Option Int:=
 loopL fun s=>Zq49.B list at_ s.1 s.2
def Zq50 (list:List Inode_) (at_:Int):Option Int:=
 (Zq49 list at_ (0,0)).bind fun o2=>some o2
namespace Zq48
def c:=codeAt (bodyOf Proofs.Tryz.f72) [1,1,0,1,0,0,1,0,0,1,0,0]
def sp:SP:=⟨[(0,.cs (.sl tInode_)),(1,.cs I64),(5,.cs I64),(6,.cs I64),(7,.cs I64)],[]⟩
def out (list:List Inode_) (at_:Int) (i_:Int):FOut Int:=fun bb0 _ kk0=>kk0 (.ex 2) ⟨[(0,.cs (.sl tInode_) list),(1,.cs I64 at_),(5,.cs I64 bb0),(6,.cs I64 i_)],[]⟩
def fr:=lfrag sp (fun x=>Zq48 x.1.1 x.1.2.1 x.1.2.2.2.1 (x.1.2.2.1,x.1.2.2.2.2.1)) fun x=>out x.1.1 x.1.2.1 x.1.2.2.2.1
theorem ok:CodeOk PR 37 2 (.loop c) fr:=
 lp_ok tbok hmix h0 .no (G:=(mkG [])) .nil (L:=mkL []) (l:=[]) hT [0,1,5,6,7] [] [(2,([0,1,5,6],[]))] ([],[]) (fun x s=>B x.1.1 x.1.2.1 x.1.2.2.2.1 s.1 s.2) (fun x s=>⟨[(0,.cs (.sl tInode_) x.1.1),(1,.cs I64 x.1.2.1),(5,.cs I64 s.1),(6,.cs I64 x.1.2.2.2.1),(7,.cs I64 s.2)],[]⟩) (fun x=>(x.1.2.2.1,x.1.2.2.2.2.1))
  (fun x s=>by simp only[B,mC,mB,mS,mO,mN];kernel_rfl)
end Zq48
namespace Zq49
def c:=codeAt (bodyOf Proofs.Tryz.f72) [1,1,0,1,0,0]
def sp:SP:=⟨[(0,.cs (.sl tInode_)),(1,.cs I64),(5,.cs I64),(6,.cs I64)],[]⟩
def out (list:List Inode_) (at_:Int):FOut Int:=fun bb0 _ kk0=>kk0 (.ex 0) ⟨[(5,.cs I64 bb0)],[]⟩
def fr:=lfrag sp (fun x=>Zq49 x.1.1 x.1.2.1 (x.1.2.2.1,x.1.2.2.2.1)) fun x=>out x.1.1 x.1.2.1
theorem ok:CodeOk PR 37 2 (.loop c) fr:=
 lp_ok tbok hmix h0 (.R (.L (.one (.R (.one (.fr 1)))))) (G:=(mkG [])) .nil (L:=mkL [(1,Zq48.fr)]) (l:=[(1,.loop Zq48.c)]) ⟨Lam.cons Zq48.ok,trivial⟩ [0,1,5,6] [] [(0,([5],[]))] ([],[]) (fun x s=>B x.1.1 x.1.2.1 s.1 s.2) (fun x s=>⟨[(0,.cs (.sl tInode_) x.1.1),(1,.cs I64 x.1.2.1),(5,.cs I64 s.1),(6,.cs I64 s.2)],[]⟩) (fun x=>(x.1.2.2.1,x.1.2.2.2.1))
  (fun x s=>by simp only[B,mC,mB,mS,mO,mN];kernel_rfl)
end Zq49
namespace Zq50
def pts:List PT:=[.cs (.sl tInode_),.cs I64]
def FS:FS:=mkFS [.sh,.sh] pts (fun x=>Zq50 x.1 x.2.1) fun t=>⟨[.cs I64 t],[]⟩
theorem ok:FsOk PR 72 FS:=
 fn_ok tbok hmix Proofs.Tryz.f72 h0 (.R (.R (.L (.R (.one (.fr 0)))))) (G:=(mkG [])) .nil (L:=mkL [(1,Zq48.fr),(0,Zq49.fr)]) (l:=[(0,.loop Zq49.c)]) ⟨Lam.skip rfl (Lam.cons Zq49.ok),trivial⟩
  (fun x=>by simp only[Zq50,mC,mB,mS,mO,mN];kernel_rfl)
end Zq50
def Zq51.B (list:List Inode_) (once_:Bool) (at_:Int) (out_:List Int):Option ((Bool×Int×List Int)⊕(Bool×List Int)):=
 cond (decide (at_<20)) ((Zq50 list at_).bind fun r=>cond (decide (r>0)) (cond (decide ((out_++([at_])).length≤2147483648)) (some (.inl (cond once_ (decide (r≤1)) false,w64 (at_+1),out_++([at_])))) none) (some (.inl (cond once_ (decide (r≤1)) false,w64 (at_+1),out_)))) (some (.inr (once_,out_)))
def Zq51 (list:List Inode_):(Bool×Int×List Int)→Option (Bool×List Int):=
 loopL fun s=>Zq51.B list s.1 s.2.1 s.2.2
def Zq52 (list:List Inode_):Option ((List Int)×Bool):=
 (Zq51 list (true,0,[])).bind fun o=>some (o.2,o.1)
namespace Zq52
def G:Gam:=mkG [(72,Zq50.FS)]
theorem Gok:GOk PR G:=.cons Zq50.ok .nil
end Zq52
namespace Zq51
def c:=codeAt (bodyOf Proofs.Tryz.f43) [1,1,1,0,1,0,0]
def sp:SP:=⟨[(0,.cs (.sl tInode_)),(4,.seg 4 []),(5,.cs .bool),(6,.cs I64)],[(4,.reg,.cd SI)]⟩
def out (list:List Inode_):FOut (Bool×List Int):=fun bb0 _ kk0=>kk0 (.ex 0) ⟨[(4,.seg 4 []),(5,.cs .bool bb0.1)],[sr 4 (.cd SI bb0.2)]⟩
def fr:=lfrag sp (fun x=>Zq51 x.1.1 (x.1.2.2.1,x.1.2.2.2.1,x.2.1)) fun x=>out x.1.1
theorem ok:CodeOk PR 29 1 (.loop c) fr:=
 lp_ok tbok hmix h0 .no (G:=Zq52.G) Zq52.Gok (L:=mkL []) (l:=[]) hT [0,4,5,6] [4] [(0,([4,5],[4]))] ([],[]) (fun x s=>B x.1.1 s.1 s.2.1 s.2.2) (fun x s=>⟨[(0,.cs (.sl tInode_) x.1.1),(4,.seg 4 []),(5,.cs .bool s.1),(6,.cs I64 s.2.1)],[sr 4 (.cd SI s.2.2)]⟩) (fun x=>(x.1.2.2.1,x.1.2.2.2.1,x.2.1))
  (fun x s=>by simp only[B,mC,mB,mS,mO,mN];kernel_rfl)
end Zq51
namespace Zq52
def pts:List PT:=[.cs (.sl tInode_)]
def FS:FS:=mkFS [.sh] pts (fun x=>Zq52 x.1) fun t=>⟨[.cd SI t.1,.cs .bool t.2],[]⟩
theorem ok:FsOk PR 43 FS:=
 fn_ok tbok hmix Proofs.Tryz.f43 h0 (.R (.R (.R (.L (.R (.one (.fr 0))))))) (G:=G) Gok (L:=mkL [(0,Zq51.fr)]) (l:=[(0,.loop Zq51.c)]) ⟨Lam.cons Zq51.ok,trivial⟩
  (fun x=>by simp only[Zq52,mC,mB,mS,mO,mN];kernel_rfl)
end Zq52
def Zq53.B (f:Fs_) (i_:Int):Option (Int⊕((Int⊕Unit))):=
 cond (decide (i_<(f.2.1.length:Int))) (cond (inB i_ f.2.1.length) ((some (decide (((f.2.1.getD i_.toNat []).length:Int)>8))).bind fun v2=>cond v2 (some (.inr (.inl 2))) (some (.inl (w64 (i_+1))))) none) (some (.inr (.inr ())))
def Zq53 (f:Fs_):Int→Option ((Int⊕Unit)):=
 loopL fun s=>Zq53.B f s
def Zq54.B (f:Fs_) (i_2:Int) (k_:Int):Option (Int⊕((Int⊕Unit))):=
 cond (inB i_2 f.1.length) ((some ((f.1.getD i_2.toNat zInode_).2.2.2.2.1.length:Int)).bind fun v3=>cond (decide (k_<v3)) (cond (inB i_2 f.1.length) (cond (inB k_ ((f.1.getD i_2.toNat zInode_).2.2.2.2.1.length)) ((some ((f.1.getD i_2.toNat zInode_).2.2.2.2.1.getD k_.toNat zEntry_).2.1).bind fun v4=>cond (cond (!(decide (v4≥(f.1.length:Int)))) (inB v4 f.1.length) true) ((some (cond (decide (v4≥(f.1.length:Int))) true ((f.1.getD v4.toNat zInode_).1 == 0))).bind fun v5=>cond v5 (some (.inr (.inl 4))) (some (.inl (w64 (k_+1))))) none) none) none) (some (.inr (.inr ())))) none
def Zq54 (f:Fs_) (i_2:Int):Int→Option ((Int⊕Unit)):=
 loopL fun s=>Zq54.B f i_2 s
def Zq55.B (f:Fs_) (i_2:Int):Option (Int⊕((Int⊕Unit))):=
 cond (decide (i_2<(f.1.length:Int))) ((Zq54 f i_2 0).bind fun o2=>sel o2 (fun b2=>some (.inr (.inl b2))) (fun c2=>some (.inl (w64 (i_2+1))))) (some (.inr (.inr ())))
def Zq55 (f:Fs_):Int→Option ((Int⊕Unit)):=
 loopL fun s=>Zq55.B f s
def Zq56 (f:Fs_):Option Int:=
 (Zq47 f.1).bind fun r=>cond (r != 0) (some r) (cond (cond (!((f.1.length:Int) == 0)) (inB 0 f.1.length) true) ((some (cond ((f.1.length:Int) == 0) true ((f.1.getD (0:Int).toNat zInode_).1 != 2))).bind fun v=>cond (cond v true ((f.2.1.length:Int) != 20)) (some 1) ((Zq53 f 0).bind fun o=>sel o (fun b=>some b) (fun c=>(Zq52 f.1).bind fun r2=>cond (!r2.2) (some 7) ((Zq55 f 0).bind fun o3=>sel o3 (fun b3=>some b3) (fun c3=>some 0))))) none)
namespace Zq56
def G:Gam:=mkG [(42,Zq47.FS),(43,Zq52.FS)]
theorem Gok:GOk PR G:=.cons Zq47.ok (.cons Zq52.ok .nil)
end Zq56
namespace Zq53
def c:=codeAt (bodyOf Proofs.Tryz.f18) [1,1,1,0,1,0,0]
def sp:SP:=⟨[(0,.pt tFs_),(4,.cs I64)],[]⟩
def out (f:Fs_):FOut ((Int⊕Unit)):=fun oo0 _ kk0=>sel oo0 (fun bb0=>kk0 (.rt) ⟨[(2,.cs I64 bb0)],[]⟩) (fun cc0=>kk0 (.ex 0) ⟨[(0,.pt tFs_ f)],[]⟩)
def fr:=lfrag sp (fun x=>Zq53 x.1.1 x.1.2.1) fun x=>out x.1.1
theorem ok:CodeOk PR 122 1 (.loop c) fr:=
 lp_ok tbok hmix h0 .no (G:=Zq56.G) Zq56.Gok (L:=mkL []) (l:=[]) hT [0,4] [] [(0,([0],[]))] ([2],[]) (fun x s=>B x.1.1 s) (fun x s=>⟨[(0,.pt tFs_ x.1.1),(4,.cs I64 s)],[]⟩) (fun x=>x.1.2.1)
  (fun x s=>by simp only[B,mC,mB,mS,mO,mN];kernel_rfl)
end Zq53
namespace Zq54
def c:=codeAt (bodyOf Proofs.Tryz.f18) [1,1,1,1,1,0,1,0,0,1,0,0,1,0,0]
def sp:SP:=⟨[(0,.pt tFs_),(7,.cs I64),(8,.cs I64)],[]⟩
def out (f:Fs_) (i_2:Int):FOut ((Int⊕Unit)):=fun oo0 _ kk0=>sel oo0 (fun bb0=>kk0 (.rt) ⟨[(2,.cs I64 bb0)],[]⟩) (fun cc0=>kk0 (.ex 4) ⟨[(0,.pt tFs_ f),(7,.cs I64 i_2)],[]⟩)
def fr:=lfrag sp (fun x=>Zq54 x.1.1 x.1.2.1 x.1.2.2.1) fun x=>out x.1.1 x.1.2.1
theorem ok:CodeOk PR 122 1 (.loop c) fr:=
 lp_ok tbok hmix h0 .no (G:=Zq56.G) Zq56.Gok (L:=mkL []) (l:=[]) hT [0,7,8] [] [(4,([0,7],[]))] ([2],[]) (fun x s=>B x.1.1 x.1.2.1 s) (fun x s=>⟨[(0,.pt tFs_ x.1.1),(7,.cs I64 x.1.2.1),(8,.cs I64 s)],[]⟩) (fun x=>x.1.2.2.1)
  (fun x s=>by simp only[B,mC,mB,mS,mO,mN];kernel_rfl)
end Zq54
namespace Zq55
def c:=codeAt (bodyOf Proofs.Tryz.f18) [1,1,1,1,1,0,1,0,0]
def sp:SP:=⟨[(0,.pt tFs_),(7,.cs I64)],[]⟩
def out (f:Fs_):FOut ((Int⊕Unit)):=fun oo0 _ kk0=>sel oo0 (fun bb0=>kk0 (.rt) ⟨[(2,.cs I64 bb0)],[]⟩) (fun cc0=>kk0 (.ex 2) ⟨[],[]⟩)
def fr:=lfrag sp (fun x=>Zq55 x.1.1 x.1.2.1) fun x=>out x.1.1
theorem ok:CodeOk PR 122 1 (.loop c) fr:=
 lp_ok tbok hmix h0 (.R (.L (.one (.R (.one (.fr 2)))))) (G:=Zq56.G) Zq56.Gok (L:=mkL [(2,Zq54.fr)]) (l:=[(2,.loop Zq54.c)]) ⟨Lam.cons Zq54.ok,trivial⟩ [0,7] [] [(2,([],[]))] ([2],[]) (fun x s=>B x.1.1 s) (fun x s=>⟨[(0,.pt tFs_ x.1.1),(7,.cs I64 s)],[]⟩) (fun x=>x.1.2.1)
  (fun x s=>by simp only[B,mC,mB,mS,mO,mN];kernel_rfl)
end Zq55
namespace Zq56
def pts:List PT:=[.pt tFs_]
def FS:FS:=mkFS [.sh] pts (fun x=>Zq56 x.1) fun t=>⟨[.cs I64 t],[]⟩
theorem ok:FsOk PR 18 FS:=
 fn_ok tbok hmix Proofs.Tryz.f18 h0 (.R (.R (.R (.two (.R (.one (.fr 0))) (.R (.L (.R (.one (.fr 1))))))))) (G:=G) Gok (L:=mkL [(0,Zq53.fr),(2,Zq54.fr),(1,Zq55.fr)]) (l:=[(0,.loop Zq53.c),(1,.loop Zq55.c)]) ⟨Lam.cons Zq53.ok,Lam.skip rfl (Lam.skip rfl (Lam.cons Zq55.ok)),trivial⟩
  (fun x=>by simp only[Zq56,mC,mB,mS,mO,mN];kernel_rfl)
end Zq56
def Zq57 (a:Int) (b:Int):Option Int:=
 cond (decide (a<b)) (some a) (some b)
namespace Zq57
def pts:List PT:=[.cs I64,.cs I64]
def FS:FS:=mkFS [.sh,.sh] pts (fun x=>Zq57 x.1 x.2.1) fun t=>⟨[.cs I64 t],[]⟩
theorem ok:FsOk PR 44 FS:=
 fn_ok tbok hmix Proofs.Tryz.f44 h0 .no (G:=(mkG [])) .nil (L:=mkL []) (l:=[]) hT
  (fun x=>by simp only[Zq57,mC,mB,mS,mO,mN];kernel_rfl)
end Zq57
def Zq58.B (d:Disk_) (i_:Int) (x_:Nat) (k_:Int) (r:Int) (r2:List Int) (f_2:Fs_) (j_:Int) (bytes_:List Int):Option ((Int×List Int)⊕((Bool⊕(List Int)))):=
 cond (decide (j_<r)) (cond (inB j_ r2.length) (cond (decide ((r2.getD j_.toNat 0)>255)) (some (.inr (.inl false))) (cond (inB j_ r2.length) ((some (bytes_++([IntKind.u8.wrap (r2.getD j_.toNat 0)]))).bind fun v4=>cond (decide (v4.length≤2147483648)) (some (.inl (w64 (j_+1),v4))) none) none)) none) (some (.inr (.inr bytes_)))
def Zq58 (d:Disk_) (i_:Int) (x_:Nat) (k_:Int) (r:Int) (r2:List Int) (f_2:Fs_):(Int×List Int)→Option ((Bool⊕(List Int))):=
 loopL fun s=>Zq58.B d i_ x_ k_ r r2 f_2 s.1 s.2
def Zq59.B (d:Disk_) (i_:Int) (x_:Nat) (k_:Int) (f_2:Fs_):Option ((Int×Fs_)⊕(((Bool×Fs_)⊕Fs_))):=
 (some ((f_2.1.getD x_ zInode_).2.2.2.1.length:Int)).bind fun v=>cond (decide (k_<v)) ((some (w64 ((f_2.1.getD x_ zInode_).2.2.1-(w64 (k_*8))))).bind fun v2=>(Zq57 8 v2).bind fun r=>cond (inB k_ ((f_2.1.getD x_ zInode_).2.2.2.1.length)) ((some ((f_2.1.getD x_ zInode_).2.2.2.1.getD k_.toNat 0)).bind fun v3=>(Zq22 d (w64 ((27:Int)+v3))).bind fun r2=>cond (decide ((r2.length:Int)<r)) (some (.inr (.inl (false,f_2)))) ((Zq58 d i_ x_ k_ r r2 f_2 (0,[])).bind fun o=>sel o (fun b=>some (.inr (.inl (b,f_2)))) (fun c=>cond (inB k_ ((f_2.1.getD x_ zInode_).2.2.2.1.length)) ((some ((f_2.1.getD x_ zInode_).2.2.2.1.getD k_.toNat 0)).bind fun v5=>cond (inB v5 f_2.2.1.length) (some (.inl (w64 (k_+1),(f_2.1,f_2.2.1.set v5.toNat c,f_2.2.2)))) none) none))) none) (some (.inr (.inr f_2)))
def Zq59 (d:Disk_) (i_:Int) (x_:Nat):(Int×Fs_)→Option (((Bool×Fs_)⊕Fs_)):=
 loopL fun s=>Zq59.B d i_ x_ s.1 s.2
def Zq60.B (d:Disk_) (i_:Int) (f_:Fs_):Option ((Int×Fs_)⊕(((Bool×Fs_)⊕Fs_))):=
 cond (decide (i_<(f_.1.length:Int))) (cond (inB i_ f_.1.length) ((Zq59 d i_ i_.toNat (0,f_)).bind fun o2=>sel o2 (fun b2=>some (.inr (.inl (b2.1,b2.2)))) (fun c2=>some (.inl (w64 (i_+1),c2)))) none) (some (.inr (.inr f_)))
def Zq60 (d:Disk_):(Int×Fs_)→Option (((Bool×Fs_)⊕Fs_)):=
 loopL fun s=>Zq60.B d s.1 s.2
def Zq61 (d:Disk_) (f:Fs_):Option (Bool×Fs_):=
 (Zq60 d (0,f)).bind fun o3=>sel o3 (fun b3=>some (b3.1,b3.2)) (fun c3=>some (true,c3))
namespace Zq61
def G:Gam:=mkG [(44,Zq57.FS),(16,Zq22.FS)]
theorem Gok:GOk PR G:=.cons Zq57.ok (.cons Zq22.ok .nil)
end Zq61
namespace Zq58
def c:=codeAt (bodyOf Proofs.Tryz.f19) [1,0,1,0,0,1,0,0,1,1,0,0,1,0,0,1,1,1,1,0,1,0,0]
def sp:SP:=⟨[(0,.pt tDisk_),(1,.loc 1 []),(5,.cs I64),(6,.loc 1 [.f1,.el]),(7,.cs I64),(8,.cs I64),(9,.cs SI),(10,.seg 10 []),(11,.cs I64)],[(1,.mem,.cd tFs_),(10,.reg,.cd SB)]⟩
def out (d:Disk_) (i_:Int) (x_:Nat) (k_:Int) (r:Int) (r2:List Int) (f_2:Fs_):FOut ((Bool⊕(List Int))):=fun oo0 _ kk0=>sel oo0 (fun bb0=>kk0 (.rt) ⟨[(4,.cs .bool bb0)],[(1,some ⟨.mem,.cd tFs_ f_2⟩)]⟩) (fun cc0=>kk0 (.ex 4) ⟨[(0,.pt tDisk_ d),(1,.loc 1 []),(5,.cs I64 i_),(6,.loc 1 [.f1,.el x_]),(7,.cs I64 k_),(10,.seg 10 [])],[(1,some ⟨.mem,.cd tFs_ f_2⟩),sr 10 (.cd SB cc0)]⟩)
def fr:=lfrag sp (fun x=>Zq58 x.1.1 x.1.2.2.1 x.1.2.2.2.1.1 x.1.2.2.2.2.1 x.1.2.2.2.2.2.1 x.1.2.2.2.2.2.2.1 x.2.1 (x.1.2.2.2.2.2.2.2.2.1,x.2.2.1)) fun x=>out x.1.1 x.1.2.2.1 x.1.2.2.2.1.1 x.1.2.2.2.2.1 x.1.2.2.2.2.2.1 x.1.2.2.2.2.2.2.1 x.2.1
theorem ok:CodeOk PR 90 2 (.loop c) fr:=
 lp_ok tbok hmix h0 .no (G:=Zq61.G) Zq61.Gok (L:=mkL []) (l:=[]) hT [0,1,5,6,7,8,9,10,11] [1,10] [(4,([0,1,5,6,7,10],[1,10]))] ([4],[1]) (fun x s=>B x.1.1 x.1.2.2.1 x.1.2.2.2.1.1 x.1.2.2.2.2.1 x.1.2.2.2.2.2.1 x.1.2.2.2.2.2.2.1 x.2.1 s.1 s.2) (fun x s=>⟨[(0,.pt tDisk_ x.1.1),(1,.loc 1 []),(5,.cs I64 x.1.2.2.1),(6,.loc 1 [.f1,.el x.1.2.2.2.1.1]),(7,.cs I64 x.1.2.2.2.2.1),(8,.cs I64 x.1.2.2.2.2.2.1),(9,.cs SI x.1.2.2.2.2.2.2.1),(10,.seg 10 []),(11,.cs I64 s.1)],[(1,some ⟨.mem,.cd tFs_ x.2.1⟩),sr 10 (.cd SB s.2)]⟩) (fun x=>(x.1.2.2.2.2.2.2.2.2.1,x.2.2.1))
  (fun x s=>by simp only[B,mC,mB,mS,mO,mN];kernel_rfl)
end Zq58
namespace Zq59
def c:=codeAt (bodyOf Proofs.Tryz.f19) [1,0,1,0,0,1,0,0,1,1,0,0]
def sp:SP:=⟨[(0,.pt tDisk_),(1,.loc 1 []),(5,.cs I64),(6,.loc 1 [.f1,.el]),(7,.cs I64)],[(1,.mem,.cd tFs_)]⟩
def out (d:Disk_) (i_:Int) (x_:Nat):FOut (((Bool×Fs_)⊕Fs_)):=fun oo0 _ kk0=>sel oo0 (fun bb0=>kk0 (.rt) ⟨[(4,.cs .bool bb0.1)],[(1,some ⟨.mem,.cd tFs_ bb0.2⟩)]⟩) (fun cc0=>kk0 (.ex 2) ⟨[(0,.pt tDisk_ d),(1,.loc 1 []),(5,.cs I64 i_)],[(1,some ⟨.mem,.cd tFs_ cc0⟩)]⟩)
def fr:=lfrag sp (fun x=>Zq59 x.1.1 x.1.2.2.1 x.1.2.2.2.1.1 (x.1.2.2.2.2.1,x.2.1)) fun x=>out x.1.1 x.1.2.2.1 x.1.2.2.2.1.1
theorem ok:CodeOk PR 90 2 (.loop c) fr:=
 lp_ok tbok hmix h0 (.R (.L (.one (.R (.R (.R (.R (.L (.R (.one (.fr 2))))))))))) (G:=Zq61.G) Zq61.Gok (L:=mkL [(2,Zq58.fr)]) (l:=[(2,.loop Zq58.c)]) ⟨Lam.cons Zq58.ok,trivial⟩ [0,1,5,6,7] [1] [(2,([0,1,5],[1]))] ([4],[1]) (fun x s=>B x.1.1 x.1.2.2.1 x.1.2.2.2.1.1 s.1 s.2) (fun x s=>⟨[(0,.pt tDisk_ x.1.1),(1,.loc 1 []),(5,.cs I64 x.1.2.2.1),(6,.loc 1 [.f1,.el x.1.2.2.2.1.1]),(7,.cs I64 s.1)],[(1,some ⟨.mem,.cd tFs_ s.2⟩)]⟩) (fun x=>(x.1.2.2.2.2.1,x.2.1))
  (fun x s=>by simp only[B,mC,mB,mS,mO,mN];kernel_rfl)
end Zq59
namespace Zq60
def c:=codeAt (bodyOf Proofs.Tryz.f19) [1,0,1,0,0]
def sp:SP:=⟨[(0,.pt tDisk_),(1,.loc 1 []),(5,.cs I64)],[(1,.mem,.cd tFs_)]⟩
def out (d:Disk_):FOut (((Bool×Fs_)⊕Fs_)):=fun oo0 _ kk0=>sel oo0 (fun bb0=>kk0 (.rt) ⟨[(4,.cs .bool bb0.1)],[(1,some ⟨.mem,.cd tFs_ bb0.2⟩)]⟩) (fun cc0=>kk0 (.ex 0) ⟨[],[(1,some ⟨.mem,.cd tFs_ cc0⟩)]⟩)
def fr:=lfrag sp (fun x=>Zq60 x.1.1 (x.1.2.2.1,x.2.1)) fun x=>out x.1.1
theorem ok:CodeOk PR 90 2 (.loop c) fr:=
 lp_ok tbok hmix h0 (.R (.L (.one (.R (.R (.one (.fr 1))))))) (G:=Zq61.G) Zq61.Gok (L:=mkL [(2,Zq58.fr),(1,Zq59.fr)]) (l:=[(1,.loop Zq59.c)]) ⟨Lam.skip rfl (Lam.cons Zq59.ok),trivial⟩ [0,1,5] [1] [(0,([],[1]))] ([4],[1]) (fun x s=>B x.1.1 s.1 s.2) (fun x s=>⟨[(0,.pt tDisk_ x.1.1),(1,.loc 1 []),(5,.cs I64 s.1)],[(1,some ⟨.mem,.cd tFs_ s.2⟩)]⟩) (fun x=>(x.1.2.2.1,x.2.1))
  (fun x s=>by simp only[B,mC,mB,mS,mO,mN];kernel_rfl)
end Zq60
namespace Zq61
def pts:List PT:=[.pt tDisk_,.op (.cd tFs_)]
def FS:FS:=mkFS [.sh,.mu] pts (fun x=>Zq61 x.1 x.2.1) fun t=>⟨[.cs .bool t.1],[.op (.cd tFs_ t.2)]⟩
theorem ok:FsOk PR 19 FS:=
 fn_ok tbok hmix Proofs.Tryz.f19 h0 (.R (.L (.R (.one (.fr 0))))) (G:=G) Gok (L:=mkL [(2,Zq58.fr),(1,Zq59.fr),(0,Zq60.fr)]) (l:=[(0,.loop Zq60.c)]) ⟨Lam.skip rfl (Lam.skip rfl (Lam.cons Zq60.ok)),trivial⟩
  (fun x=>by simp only[Zq61,mC,mB,mS,mO,mN];kernel_rfl)
end Zq61
def Zq62.B (f:Fs_) (round_:Int) (i_:Int) (k_:Int) (in_4:List Bool):Option ((Int×List Bool)⊕(List Bool)):=
 cond (inB i_ in_4.length) (cond (cond (in_4.getD i_.toNat false) (inB i_ f.1.length) true) ((some (cond (in_4.getD i_.toNat false) (decide (k_<((f.1.getD i_.toNat zInode_).2.2.2.2.1.length:Int))) false)).bind fun v=>cond v (cond (inB i_ f.1.length) (cond (inB k_ ((f.1.getD i_.toNat zInode_).2.2.2.2.1.length)) ((some ((f.1.getD i_.toNat zInode_).2.2.2.2.1.getD k_.toNat zEntry_).2.1).bind fun v2=>cond (inB v2 in_4.length) (some (.inl (w64 (k_+1),in_4.set v2.toNat true))) none) none) none) (some (.inr in_4))) none) none
def Zq62 (f:Fs_) (round_:Int) (i_:Int):(Int×List Bool)→Option (List Bool):=
 loopL fun s=>Zq62.B f round_ i_ s.1 s.2
def Zq63.B (f:Fs_) (round_:Int) (i_:Int) (in_3:List Bool):Option ((Int×List Bool)⊕(List Bool)):=
 cond (decide (i_<(f.1.length:Int))) ((Zq62 f round_ i_ (0,in_3)).bind fun o=>some (.inl (w64 (i_+1),o))) (some (.inr in_3))
def Zq63 (f:Fs_) (round_:Int):(Int×List Bool)→Option (List Bool):=
 loopL fun s=>Zq63.B f round_ s.1 s.2
def Zq64.B (f:Fs_) (round_:Int) (in_2:List Bool):Option ((Int×List Bool)⊕(List Bool)):=
 cond (decide (round_<(f.1.length:Int))) ((Zq63 f round_ (0,in_2)).bind fun o2=>some (.inl (w64 (round_+1),o2))) (some (.inr in_2))
def Zq64 (f:Fs_):(Int×List Bool)→Option (List Bool):=
 loopL fun s=>Zq64.B f s.1 s.2
def Zq65.B (o3:List Bool) (i_2:Int) (out_:List Int):Option ((Int×List Int)⊕(List Int)):=
 cond (decide (i_2<(o3.length:Int))) (cond (inB i_2 o3.length) (cond (o3.getD i_2.toNat false) (cond (decide ((out_++([i_2])).length≤2147483648)) (some (.inl (w64 (i_2+1),out_++([i_2])))) none) (some (.inl (w64 (i_2+1),out_)))) none) (some (.inr out_))
def Zq65 (o3:List Bool):(Int×List Int)→Option (List Int):=
 loopL fun s=>Zq65.B o3 s.1 s.2
def Zq66 (f:Fs_):Option (List Int):=
 cond (decide ((0:Int)≤(f.1.length:Int))&&(decide ((f.1.length:Int)≤(f.1.length:Int))&&decide ((f.1.length:Int)≤2147483648))) (cond (inB 0 ((List.replicate (f.1.length:Int).toNat false).length)) ((some ((List.replicate (f.1.length:Int).toNat false).set ((0:Int).toNat) true)).bind fun in_=>(Zq64 f (0,in_)).bind fun o3=>(Zq65 o3 (0,[])).bind fun o4=>some o4) none) none
namespace Zq62
def c:=codeAt (bodyOf Proofs.Tryz.f73) [1,1,1,0,1,0,0,1,0,0,1,0,0,1,0,0,1,0,0]
def sp:SP:=⟨[(0,.pt tFs_),(3,.seg 3 []),(4,.cs I64),(5,.cs I64),(6,.cs I64)],[(3,.reg,.cd (.sl .bool))]⟩
def out (f:Fs_) (round_:Int) (i_:Int):FOut (List Bool):=fun bb0 _ kk0=>kk0 (.ex 4) ⟨[(0,.pt tFs_ f),(3,.seg 3 []),(4,.cs I64 round_),(5,.cs I64 i_)],[sr 3 (.cd (.sl .bool) bb0)]⟩
def fr:=lfrag sp (fun x=>Zq62 x.1.1 x.1.2.2.1 x.1.2.2.2.1 (x.1.2.2.2.2.1,x.2.1)) fun x=>out x.1.1 x.1.2.2.1 x.1.2.2.2.1
theorem ok:CodeOk PR 84 1 (.loop c) fr:=
 lp_ok tbok hmix h0 .no (G:=(mkG [])) .nil (L:=mkL []) (l:=[]) hT [0,3,4,5,6] [3] [(4,([0,3,4,5],[3]))] ([],[]) (fun x s=>B x.1.1 x.1.2.2.1 x.1.2.2.2.1 s.1 s.2) (fun x s=>⟨[(0,.pt tFs_ x.1.1),(3,.seg 3 []),(4,.cs I64 x.1.2.2.1),(5,.cs I64 x.1.2.2.2.1),(6,.cs I64 s.1)],[sr 3 (.cd (.sl .bool) s.2)]⟩) (fun x=>(x.1.2.2.2.2.1,x.2.1))
  (fun x s=>by simp only[B,mC,mB,mS,mO,mN];kernel_rfl)
end Zq62
namespace Zq63
def c:=codeAt (bodyOf Proofs.Tryz.f73) [1,1,1,0,1,0,0,1,0,0,1,0,0]
def sp:SP:=⟨[(0,.pt tFs_),(3,.seg 3 []),(4,.cs I64),(5,.cs I64)],[(3,.reg,.cd (.sl .bool))]⟩
def out (f:Fs_) (round_:Int):FOut (List Bool):=fun bb0 _ kk0=>kk0 (.ex 2) ⟨[(0,.pt tFs_ f),(3,.seg 3 []),(4,.cs I64 round_)],[sr 3 (.cd (.sl .bool) bb0)]⟩
def fr:=lfrag sp (fun x=>Zq63 x.1.1 x.1.2.2.1 (x.1.2.2.2.1,x.2.1)) fun x=>out x.1.1 x.1.2.2.1
theorem ok:CodeOk PR 84 1 (.loop c) fr:=
 lp_ok tbok hmix h0 (.R (.L (.one (.R (.one (.fr 2)))))) (G:=(mkG [])) .nil (L:=mkL [(2,Zq62.fr)]) (l:=[(2,.loop Zq62.c)]) ⟨Lam.cons Zq62.ok,trivial⟩ [0,3,4,5] [3] [(2,([0,3,4],[3]))] ([],[]) (fun x s=>B x.1.1 x.1.2.2.1 s.1 s.2) (fun x s=>⟨[(0,.pt tFs_ x.1.1),(3,.seg 3 []),(4,.cs I64 x.1.2.2.1),(5,.cs I64 s.1)],[sr 3 (.cd (.sl .bool) s.2)]⟩) (fun x=>(x.1.2.2.2.1,x.2.1))
  (fun x s=>by simp only[B,mC,mB,mS,mO,mN];kernel_rfl)
end Zq63
namespace Zq64
def c:=codeAt (bodyOf Proofs.Tryz.f73) [1,1,1,0,1,0,0]
def sp:SP:=⟨[(0,.pt tFs_),(3,.seg 3 []),(4,.cs I64)],[(3,.reg,.cd (.sl .bool))]⟩
def out (f:Fs_):FOut (List Bool):=fun bb0 _ kk0=>kk0 (.ex 0) ⟨[(3,.seg 3 [])],[sr 3 (.cd (.sl .bool) bb0)]⟩
def fr:=lfrag sp (fun x=>Zq64 x.1.1 (x.1.2.2.1,x.2.1)) fun x=>out x.1.1
theorem ok:CodeOk PR 84 1 (.loop c) fr:=
 lp_ok tbok hmix h0 (.R (.L (.one (.R (.one (.fr 1)))))) (G:=(mkG [])) .nil (L:=mkL [(2,Zq62.fr),(1,Zq63.fr)]) (l:=[(1,.loop Zq63.c)]) ⟨Lam.skip rfl (Lam.cons Zq63.ok),trivial⟩ [0,3,4] [3] [(0,([3],[3]))] ([],[]) (fun x s=>B x.1.1 s.1 s.2) (fun x s=>⟨[(0,.pt tFs_ x.1.1),(3,.seg 3 []),(4,.cs I64 s.1)],[sr 3 (.cd (.sl .bool) s.2)]⟩) (fun x=>(x.1.2.2.1,x.2.1))
  (fun x s=>by simp only[B,mC,mB,mS,mO,mN];kernel_rfl)
end Zq64
namespace Zq65
def c:=codeAt (bodyOf Proofs.Tryz.f73) [1,1,1,1,1,0,1,0,0]
def sp:SP:=⟨[(3,.seg 3 []),(7,.seg 7 []),(8,.cs I64)],[(3,.reg,.cd (.sl .bool)),(7,.reg,.cd SI)]⟩
def out (o3:List Bool):FOut (List Int):=fun bb0 _ kk0=>kk0 (.ex 6) ⟨[(7,.seg 7 [])],[sr 7 (.cd SI bb0)]⟩
def fr:=lfrag sp (fun x=>Zq65 x.2.1 (x.1.2.2.1,x.2.2.1)) fun x=>out x.2.1
theorem ok:CodeOk PR 84 1 (.loop c) fr:=
 lp_ok tbok hmix h0 .no (G:=(mkG [])) .nil (L:=mkL []) (l:=[]) hT [3,7,8] [3,7] [(6,([7],[7]))] ([],[]) (fun x s=>B x.2.1 s.1 s.2) (fun x s=>⟨[(3,.seg 3 []),(7,.seg 7 []),(8,.cs I64 s.1)],[sr 3 (.cd (.sl .bool) x.2.1),sr 7 (.cd SI s.2)]⟩) (fun x=>(x.1.2.2.1,x.2.2.1))
  (fun x s=>by simp only[B,mC,mB,mS,mO,mN];kernel_rfl)
end Zq65
namespace Zq66
def pts:List PT:=[.pt tFs_]
def FS:FS:=mkFS [.sh] pts (fun x=>Zq66 x.1) fun t=>⟨[.cd SI t],[]⟩
theorem ok:FsOk PR 73 FS:=
 fn_ok tbok hmix Proofs.Tryz.f73 h0 (.R (.R (.R (.two (.R (.one (.fr 0))) (.R (.L (.R (.one (.fr 3))))))))) (G:=(mkG [])) .nil (L:=mkL [(2,Zq62.fr),(1,Zq63.fr),(0,Zq64.fr),(3,Zq65.fr)]) (l:=[(0,.loop Zq64.c),(3,.loop Zq65.c)]) ⟨Lam.skip rfl (Lam.skip rfl (Lam.cons Zq64.ok)),Lam.skip rfl (Lam.skip rfl (Lam.skip rfl (Lam.cons Zq65.ok))),trivial⟩
  (fun x=>by simp only[Zq66,mC,mB,mS,mO,mN];kernel_rfl)
end Zq66
def Zq67.B (list:List Inode_) (at_:Int) (i_:Int) (n_2:Int) (k_:Int):Option ((Int×Int)⊕Int):=
 cond (inB i_ list.length) ((some ((list.getD i_.toNat zInode_).2.2.2.2.1.length:Int)).bind fun v=>cond (decide (k_<v)) (cond (inB i_ list.length) (cond (inB k_ ((list.getD i_.toNat zInode_).2.2.2.2.1.length)) ((some ((list.getD i_.toNat zInode_).2.2.2.2.1.getD k_.toNat zEntry_).2.1).bind fun v2=>cond (v2 == at_) (some (.inl (w64 (n_2+1),w64 (k_+1)))) (some (.inl (n_2,w64 (k_+1))))) none) none) (some (.inr n_2))) none
def Zq67 (list:List Inode_) (at_:Int) (i_:Int):(Int×Int)→Option Int:=
 loopL fun s=>Zq67.B list at_ i_ s.1 s.2
def Zq68.B (list:List Inode_) (at_:Int) (n_:Int) (i_:Int):Option ((Int×Int)⊕Int):=
 cond (decide (i_<(list.length:Int))) ((Zq67 list at_ i_ (n_,0)).bind fun o=>some (.inl (o,w64 (i_+1)))) (some (.inr n_))
def Zq68 (list:List Inode_) (at_:Int):(Int×Int)→Option Int:=
 loopL fun s=>Zq68.B list at_ s.1 s.2
def Zq69 (list:List Inode_) (at_:Int):Option Int:=
 (Zq68 list at_ (0,0)).bind fun o2=>some o2
namespace Zq67
def c:=codeAt (bodyOf Proofs.Tryz.f74) [1,1,0,1,0,0,1,0,0,1,0,0]
def sp:SP:=⟨[(0,.cs (.sl tInode_)),(1,.cs I64),(5,.cs I64),(6,.cs I64),(7,.cs I64)],[]⟩
def out (list:List Inode_) (at_:Int) (i_:Int):FOut Int:=fun bb0 _ kk0=>kk0 (.ex 2) ⟨[(0,.cs (.sl tInode_) list),(1,.cs I64 at_),(5,.cs I64 bb0),(6,.cs I64 i_)],[]⟩
def fr:=lfrag sp (fun x=>Zq67 x.1.1 x.1.2.1 x.1.2.2.2.1 (x.1.2.2.1,x.1.2.2.2.2.1)) fun x=>out x.1.1 x.1.2.1 x.1.2.2.2.1
theorem ok:CodeOk PR 38 2 (.loop c) fr:=
 lp_ok tbok hmix h0 .no (G:=(mkG [])) .nil (L:=mkL []) (l:=[]) hT [0,1,5,6,7] [] [(2,([0,1,5,6],[]))] ([],[]) (fun x s=>B x.1.1 x.1.2.1 x.1.2.2.2.1 s.1 s.2) (fun x s=>⟨[(0,.cs (.sl tInode_) x.1.1),(1,.cs I64 x.1.2.1),(5,.cs I64 s.1),(6,.cs I64 x.1.2.2.2.1),(7,.cs I64 s.2)],[]⟩) (fun x=>(x.1.2.2.1,x.1.2.2.2.2.1))
  (fun x s=>by simp only[B,mC,mB,mS,mO,mN];kernel_rfl)
end Zq67
namespace Zq68
def c:=codeAt (bodyOf Proofs.Tryz.f74) [1,1,0,1,0,0]
def sp:SP:=⟨[(0,.cs (.sl tInode_)),(1,.cs I64),(5,.cs I64),(6,.cs I64)],[]⟩
def out (list:List Inode_) (at_:Int):FOut Int:=fun bb0 _ kk0=>kk0 (.ex 0) ⟨[(5,.cs I64 bb0)],[]⟩
def fr:=lfrag sp (fun x=>Zq68 x.1.1 x.1.2.1 (x.1.2.2.1,x.1.2.2.2.1)) fun x=>out x.1.1 x.1.2.1
theorem ok:CodeOk PR 38 2 (.loop c) fr:=
 lp_ok tbok hmix h0 (.R (.L (.one (.R (.one (.fr 1)))))) (G:=(mkG [])) .nil (L:=mkL [(1,Zq67.fr)]) (l:=[(1,.loop Zq67.c)]) ⟨Lam.cons Zq67.ok,trivial⟩ [0,1,5,6] [] [(0,([5],[]))] ([],[]) (fun x s=>B x.1.1 x.1.2.1 s.1 s.2) (fun x s=>⟨[(0,.cs (.sl tInode_) x.1.1),(1,.cs I64 x.1.2.1),(5,.cs I64 s.1),(6,.cs I64 s.2)],[]⟩) (fun x=>(x.1.2.2.1,x.1.2.2.2.1))
  (fun x s=>by simp only[B,mC,mB,mS,mO,mN];kernel_rfl)
end Zq68
namespace Zq69
def pts:List PT:=[.cs (.sl tInode_),.cs I64]
def FS:FS:=mkFS [.sh,.sh] pts (fun x=>Zq69 x.1 x.2.1) fun t=>⟨[.cs I64 t],[]⟩
theorem ok:FsOk PR 74 FS:=
 fn_ok tbok hmix Proofs.Tryz.f74 h0 (.R (.R (.L (.R (.one (.fr 0)))))) (G:=(mkG [])) .nil (L:=mkL [(1,Zq67.fr),(0,Zq68.fr)]) (l:=[(0,.loop Zq68.c)]) ⟨Lam.skip rfl (Lam.cons Zq68.ok),trivial⟩
  (fun x=>by simp only[Zq69,mC,mB,mS,mO,mN];kernel_rfl)
end Zq69
def Zq70.B (list:List Int) (v:Int) (i_:Int):Option (Int⊕((Bool⊕Unit))):=
 cond (decide (i_<(list.length:Int))) (cond (inB i_ list.length) (cond ((list.getD i_.toNat 0) == v) (some (.inr (.inl true))) (some (.inl (w64 (i_+1))))) none) (some (.inr (.inr ())))
def Zq70 (list:List Int) (v:Int):Int→Option ((Bool⊕Unit)):=
 loopL fun s=>Zq70.B list v s
def Zq71 (list:List Int) (v:Int):Option Bool:=
 (Zq70 list v 0).bind fun o=>sel o (fun b=>some b) (fun c=>some false)
namespace Zq70
def c:=codeAt (bodyOf Proofs.Tryz.f75) [1,0,1,0,0]
def sp:SP:=⟨[(0,.cs SI),(1,.cs I64),(5,.cs I64)],[]⟩
def out (list:List Int) (v:Int):FOut ((Bool⊕Unit)):=fun oo0 _ kk0=>sel oo0 (fun bb0=>kk0 (.rt) ⟨[(4,.cs .bool bb0)],[]⟩) (fun cc0=>kk0 (.ex 0) ⟨[],[]⟩)
def fr:=lfrag sp (fun x=>Zq70 x.1.1 x.1.2.1 x.1.2.2.1) fun x=>out x.1.1 x.1.2.1
theorem ok:CodeOk PR 18 2 (.loop c) fr:=
 lp_ok tbok hmix h0 .no (G:=(mkG [])) .nil (L:=mkL []) (l:=[]) hT [0,1,5] [] [(0,([],[]))] ([4],[]) (fun x s=>B x.1.1 x.1.2.1 s) (fun x s=>⟨[(0,.cs SI x.1.1),(1,.cs I64 x.1.2.1),(5,.cs I64 s)],[]⟩) (fun x=>x.1.2.2.1)
  (fun x s=>by simp only[B,mC,mB,mS,mO,mN];kernel_rfl)
end Zq70
namespace Zq71
def pts:List PT:=[.cs SI,.cs I64]
def FS:FS:=mkFS [.sh,.sh] pts (fun x=>Zq71 x.1 x.2.1) fun t=>⟨[.cs .bool t],[]⟩
theorem ok:FsOk PR 75 FS:=
 fn_ok tbok hmix Proofs.Tryz.f75 h0 (.R (.L (.R (.one (.fr 0))))) (G:=(mkG [])) .nil (L:=mkL [(0,Zq70.fr)]) (l:=[(0,.loop Zq70.c)]) ⟨Lam.cons Zq70.ok,trivial⟩
  (fun x=>by simp only[Zq71,mC,mB,mS,mO,mN];kernel_rfl)
end Zq71
def Zq72.B (f:Fs_) (r:List Int) (i_:Int):Option (Int⊕((Bool⊕Unit))):=
 cond (decide (i_<(f.1.length:Int))) (cond (inB i_ f.1.length) ((Zq69 f.1 i_).bind fun r2=>cond ((f.1.getD i_.toNat zInode_).1 == 0) (some (.inl (w64 (i_+1)))) (cond ((f.1.getD i_.toNat zInode_).1 == 1) (cond (r2 != (f.1.getD i_.toNat zInode_).2.1) (some (.inr (.inl false))) ((Zq71 r i_).bind fun r3=>cond (!r3) (some (.inr (.inl false))) (some (.inl (w64 (i_+1)))))) (cond (i_ == 0) (cond (r2 != 0) (some (.inr (.inl false))) ((Zq71 r i_).bind fun r4=>cond (!r4) (some (.inr (.inl false))) (some (.inl (w64 (i_+1)))))) (cond (r2 != 1) (some (.inr (.inl false))) ((Zq71 r i_).bind fun r5=>cond (!r5) (some (.inr (.inl false))) (some (.inl (w64 (i_+1))))))))) none) (some (.inr (.inr ())))
def Zq72 (f:Fs_) (r:List Int):Int→Option ((Bool⊕Unit)):=
 loopL fun s=>Zq72.B f r s
def Zq73 (f:Fs_):Option Bool:=
 (Zq66 f).bind fun r=>(Zq72 f r 0).bind fun o=>sel o (fun b=>some b) (fun c=>some true)
namespace Zq73
def G:Gam:=mkG [(73,Zq66.FS),(74,Zq69.FS),(75,Zq71.FS)]
theorem Gok:GOk PR G:=.cons Zq66.ok (.cons Zq69.ok (.cons Zq71.ok .nil))
end Zq73
namespace Zq72
def c:=codeAt (bodyOf Proofs.Tryz.f45) [1,1,0,1,0,0]
def sp:SP:=⟨[(0,.pt tFs_),(3,.seg 3 []),(4,.cs I64)],[(3,.reg,.cd SI)]⟩
def out (f:Fs_) (r:List Int):FOut ((Bool⊕Unit)):=fun oo0 _ kk0=>sel oo0 (fun bb0=>kk0 (.rt) ⟨[(2,.cs .bool bb0)],[]⟩) (fun cc0=>kk0 (.ex 0) ⟨[],[]⟩)
def fr:=lfrag sp (fun x=>Zq72 x.1.1 x.2.1 x.1.2.2.1) fun x=>out x.1.1 x.2.1
theorem ok:CodeOk PR 59 1 (.loop c) fr:=
 lp_ok tbok hmix h0 .no (G:=Zq73.G) Zq73.Gok (L:=mkL []) (l:=[]) hT [0,3,4] [3] [(0,([],[]))] ([2],[]) (fun x s=>B x.1.1 x.2.1 s) (fun x s=>⟨[(0,.pt tFs_ x.1.1),(3,.seg 3 []),(4,.cs I64 s)],[sr 3 (.cd SI x.2.1)]⟩) (fun x=>x.1.2.2.1)
  (fun x s=>by simp only[B,mC,mB,mS,mO,mN];kernel_rfl)
end Zq72
namespace Zq73
def pts:List PT:=[.pt tFs_]
def FS:FS:=mkFS [.sh] pts (fun x=>Zq73 x.1) fun t=>⟨[.cs .bool t],[]⟩
theorem ok:FsOk PR 45 FS:=
 fn_ok tbok hmix Proofs.Tryz.f45 h0 (.R (.R (.L (.R (.one (.fr 0)))))) (G:=G) Gok (L:=mkL [(0,Zq72.fr)]) (l:=[(0,.loop Zq72.c)]) ⟨Lam.cons Zq72.ok,trivial⟩
  (fun x=>by simp only[Zq73,mC,mB,mS,mO,mN];kernel_rfl)
end Zq73
def Zq74.B (f:Fs_) (i_:Int) (x_:Inode_) (k_:Int) (want_2:List Int):Option ((Int×List Int)⊕(List Int)):=
 cond (decide (k_<(x_.2.2.2.1.length:Int))) (cond (inB k_ x_.2.2.2.1.length) ((Zq57 8 (w64 (x_.2.2.1-(w64 (k_*8))))).bind fun r=>cond (inB (x_.2.2.2.1.getD k_.toNat 0) want_2.length) ((some (want_2.set ((x_.2.2.2.1.getD k_.toNat 0).toNat) r)).bind fun want_3=>some (.inl (w64 (k_+1),want_3))) none) none) (some (.inr want_2))
def Zq74 (f:Fs_) (i_:Int) (x_:Inode_):(Int×List Int)→Option (List Int):=
 loopL fun s=>Zq74.B f i_ x_ s.1 s.2
def Zq75.B (f:Fs_) (i_:Int) (want_:List Int):Option ((Int×List Int)⊕(List Int)):=
 cond (decide (i_<(f.1.length:Int))) (cond (inB i_ f.1.length) ((Zq74 f i_ (f.1.getD i_.toNat zInode_) (0,want_)).bind fun o=>some (.inl (w64 (i_+1),o))) none) (some (.inr want_))
def Zq75 (f:Fs_):(Int×List Int)→Option (List Int):=
 loopL fun s=>Zq75.B f s.1 s.2
def Zq76.B (f:Fs_) (o2:List Int) (i_2:Int):Option (Int⊕((Bool⊕Unit))):=
 cond (decide (i_2<(f.2.1.length:Int))) (cond (inB i_2 f.2.1.length) (cond (inB i_2 o2.length) ((some (((f.2.1.getD i_2.toNat []).length:Int) != (o2.getD i_2.toNat 0))).bind fun v=>cond v (some (.inr (.inl false))) (some (.inl (w64 (i_2+1))))) none) none) (some (.inr (.inr ())))
def Zq76 (f:Fs_) (o2:List Int):Int→Option ((Bool⊕Unit)):=
 loopL fun s=>Zq76.B f o2 s
def Zq77 (f:Fs_):Option Bool:=
 cond (decide ((0:Int)≤(20:Int))&&(decide ((20:Int)≤(20:Int))&&decide ((20:Int)≤2147483648))) ((Zq75 f (0,List.replicate (20:Int).toNat 0)).bind fun o2=>(Zq76 f o2 0).bind fun o3=>sel o3 (fun b=>some b) (fun c=>some true)) none
namespace Zq77
def G:Gam:=mkG [(44,Zq57.FS)]
theorem Gok:GOk PR G:=.cons Zq57.ok .nil
end Zq77
namespace Zq74
def c:=codeAt (bodyOf Proofs.Tryz.f46) [1,1,0,1,0,0,1,0,0,1,1,0,0]
def sp:SP:=⟨[(0,.pt tFs_),(3,.seg 3 []),(4,.cs I64),(5,.pt tInode_),(6,.cs I64)],[(3,.reg,.cd SI)]⟩
def out (f:Fs_) (i_:Int) (x_:Inode_):FOut (List Int):=fun bb0 _ kk0=>kk0 (.ex 2) ⟨[(0,.pt tFs_ f),(3,.seg 3 []),(4,.cs I64 i_)],[sr 3 (.cd SI bb0)]⟩
def fr:=lfrag sp (fun x=>Zq74 x.1.1 x.1.2.2.1 x.1.2.2.2.1 (x.1.2.2.2.2.1,x.2.1)) fun x=>out x.1.1 x.1.2.2.1 x.1.2.2.2.1
theorem ok:CodeOk PR 72 1 (.loop c) fr:=
 lp_ok tbok hmix h0 .no (G:=Zq77.G) Zq77.Gok (L:=mkL []) (l:=[]) hT [0,3,4,5,6] [3] [(2,([0,3,4],[3]))] ([],[]) (fun x s=>B x.1.1 x.1.2.2.1 x.1.2.2.2.1 s.1 s.2) (fun x s=>⟨[(0,.pt tFs_ x.1.1),(3,.seg 3 []),(4,.cs I64 x.1.2.2.1),(5,.pt tInode_ x.1.2.2.2.1),(6,.cs I64 s.1)],[sr 3 (.cd SI s.2)]⟩) (fun x=>(x.1.2.2.2.2.1,x.2.1))
  (fun x s=>by simp only[B,mC,mB,mS,mO,mN];kernel_rfl)
end Zq74
namespace Zq75
def c:=codeAt (bodyOf Proofs.Tryz.f46) [1,1,0,1,0,0]
def sp:SP:=⟨[(0,.pt tFs_),(3,.seg 3 []),(4,.cs I64)],[(3,.reg,.cd SI)]⟩
def out (f:Fs_):FOut (List Int):=fun bb0 _ kk0=>kk0 (.ex 0) ⟨[(0,.pt tFs_ f),(3,.seg 3 [])],[sr 3 (.cd SI bb0)]⟩
def fr:=lfrag sp (fun x=>Zq75 x.1.1 (x.1.2.2.1,x.2.1)) fun x=>out x.1.1
theorem ok:CodeOk PR 72 1 (.loop c) fr:=
 lp_ok tbok hmix h0 (.R (.L (.one (.R (.R (.one (.fr 1))))))) (G:=Zq77.G) Zq77.Gok (L:=mkL [(1,Zq74.fr)]) (l:=[(1,.loop Zq74.c)]) ⟨Lam.cons Zq74.ok,trivial⟩ [0,3,4] [3] [(0,([0,3],[3]))] ([],[]) (fun x s=>B x.1.1 s.1 s.2) (fun x s=>⟨[(0,.pt tFs_ x.1.1),(3,.seg 3 []),(4,.cs I64 s.1)],[sr 3 (.cd SI s.2)]⟩) (fun x=>(x.1.2.2.1,x.2.1))
  (fun x s=>by simp only[B,mC,mB,mS,mO,mN];kernel_rfl)
end Zq75
namespace Zq76
def c:=codeAt (bodyOf Proofs.Tryz.f46) [1,1,1,0,1,0,0]
def sp:SP:=⟨[(0,.pt tFs_),(3,.seg 3 []),(7,.cs I64)],[(3,.reg,.cd SI)]⟩
def out (f:Fs_) (o2:List Int):FOut ((Bool⊕Unit)):=fun oo0 _ kk0=>sel oo0 (fun bb0=>kk0 (.rt) ⟨[(2,.cs .bool bb0)],[]⟩) (fun cc0=>kk0 (.ex 4) ⟨[],[]⟩)
def fr:=lfrag sp (fun x=>Zq76 x.1.1 x.2.1 x.1.2.2.1) fun x=>out x.1.1 x.2.1
theorem ok:CodeOk PR 72 1 (.loop c) fr:=
 lp_ok tbok hmix h0 .no (G:=Zq77.G) Zq77.Gok (L:=mkL []) (l:=[]) hT [0,3,7] [3] [(4,([],[]))] ([2],[]) (fun x s=>B x.1.1 x.2.1 s) (fun x s=>⟨[(0,.pt tFs_ x.1.1),(3,.seg 3 []),(7,.cs I64 s)],[sr 3 (.cd SI x.2.1)]⟩) (fun x=>x.1.2.2.1)
  (fun x s=>by simp only[B,mC,mB,mS,mO,mN];kernel_rfl)
end Zq76
namespace Zq77
def pts:List PT:=[.pt tFs_]
def FS:FS:=mkFS [.sh] pts (fun x=>Zq77 x.1) fun t=>⟨[.cs .bool t],[]⟩
theorem ok:FsOk PR 46 FS:=
 fn_ok tbok hmix Proofs.Tryz.f46 h0 (.R (.R (.two (.R (.one (.fr 0))) (.L (.R (.one (.fr 2))))))) (G:=G) Gok (L:=mkL [(1,Zq74.fr),(0,Zq75.fr),(2,Zq76.fr)]) (l:=[(0,.loop Zq75.c),(2,.loop Zq76.c)]) ⟨Lam.skip rfl (Lam.cons Zq75.ok),Lam.skip rfl (Lam.skip rfl (Lam.cons Zq76.ok)),trivial⟩
  (fun x=>by simp only[Zq77,mC,mB,mS,mO,mN];kernel_rfl)
end Zq77
def Zq78 (f:Fs_):Option Int:=
 (Zq56 f).bind fun r=>cond (r != 0) (some r) ((Zq73 f).bind fun r2=>cond (!r2) (some 1) ((Zq77 f).bind fun r3=>cond (!r3) (some 1) (some 0)))
namespace Zq78
def G:Gam:=mkG [(18,Zq56.FS),(45,Zq73.FS),(46,Zq77.FS)]
def pts:List PT:=[.pt tFs_]
def FS:FS:=mkFS [.sh] pts (fun x=>Zq78 x.1) fun t=>⟨[.cs I64 t],[]⟩
theorem ok:FsOk PR 20 FS:=
 fn_ok tbok hmix Proofs.Tryz.f20 h0 .no (G:=G) (show GOk PR G from .cons Zq56.ok (.cons Zq73.ok (.cons Zq77.ok .nil))) (L:=mkL []) (l:=[]) hT
  (fun x=>by simp only[Zq78,mC,mB,mS,mO,mN];kernel_rfl)
end Zq78
def Zq79.B (d:Disk_) (v:FsResult_) (size_:Int) (i_:Int) (f_:Fs_):Option ((Int×Int×Fs_)⊕((FsResult_⊕(Int×Fs_)))):=
 cond (decide (i_<10)) ((Zq22 d (w64 ((17:Int)+i_))).bind fun r2=>(Zq45 r2).bind fun r3=>cond (!r3.2) (some (.inr (.inl (5,([],[],()),())))) ((some (f_.1++([(r3.1.1,r3.1.2.1,r3.1.2.2.1,r3.1.2.2.2.1,r3.1.2.2.2.2.1,r3.1.2.2.2.2.2)]))).bind fun v2=>cond (decide (v2.length≤2147483648)) (cond (decide ((r2.length:Int)>0)) (some (.inl (w64 (i_+1),w64 (i_+1),(v2,f_.2)))) (some (.inl (size_,w64 (i_+1),(v2,f_.2))))) none)) (some (.inr (.inr (size_,f_))))
def Zq79 (d:Disk_) (v:FsResult_):(Int×Int×Fs_)→Option ((FsResult_⊕(Int×Fs_))):=
 loopL fun s=>Zq79.B d v s.1 s.2.1 s.2.2
def Zq80 (d:Disk_):Option FsResult_:=
 (Zq24 d).bind fun r=>cond (r.1 != 0) (some (r.1,([],[],()),())) (cond (decide ((0:Int)≤(20:Int))&&(decide ((20:Int)≤(20:Int))&&decide ((20:Int)≤2147483648))) ((Zq79 d (0,([],[],()),()) (0,0,([],List.replicate (20:Int).toNat ([]:List Int),()))).bind fun o=>sel o (fun b=>some (b.1,(b.2.1.1,b.2.1.2.1,b.2.1.2.2),b.2.2)) (fun c=>cond (decide ((0:Int)≤c.1)&&decide (c.1≤(c.2.1.length:Int))) ((Zq56 ((c.2.1.drop 0).take (c.1.toNat-0),c.2.2)).bind fun r4=>cond (r4 != 0) (some (r4,([],[],()),())) ((Zq61 d ((c.2.1.drop 0).take (c.1.toNat-0),c.2.2)).bind fun r5=>cond (!r5.1) (some (5,([],[],()),())) ((Zq78 r5.2).bind fun r6=>cond (r6 != 0) (some (r6,([],[],()),())) (some (0,(r5.2.1,r5.2.2.1,r5.2.2.2),()))))) none)) none)
namespace Zq80
def G:Gam:=mkG [(15,Zq24.FS),(16,Zq22.FS),(17,Zq45.FS),(18,Zq56.FS),(19,Zq61.FS),(20,Zq78.FS)]
theorem Gok:GOk PR G:=.cons Zq24.ok (.cons Zq22.ok (.cons Zq45.ok (.cons Zq56.ok (.cons Zq61.ok (.cons Zq78.ok .nil)))))
end Zq80
namespace Zq79
def c:=codeAt (bodyOf Proofs.Tryz.f5) [1,1,1,1,0,1,0,0]
def sp:SP:=⟨[(1,.pt tDisk_),(2,.loc 2 []),(4,.loc 4 []),(5,.cs I64),(6,.cs I64)],[(2,.mem,.cd tFsResult_),(4,.mem,.cd tFs_)]⟩
def out (d:Disk_) (v:FsResult_):FOut ((FsResult_⊕(Int×Fs_))):=fun oo0 _ kk0=>sel oo0 (fun bb0=>kk0 (.rt) ⟨[(2,.loc 2 [])],[(2,some ⟨.mem,.cd tFsResult_ bb0⟩)]⟩) (fun cc0=>kk0 (.ex 0) ⟨[(1,.pt tDisk_ d),(2,.loc 2 []),(4,.loc 4 []),(5,.cs I64 cc0.1)],[(2,some ⟨.mem,.cd tFsResult_ v⟩),(4,some ⟨.mem,.cd tFs_ cc0.2⟩)]⟩)
def fr:=lfrag sp (fun x=>Zq79 x.1.1 x.2.1 (x.1.2.2.2.1,x.1.2.2.2.2.1,x.2.2.1)) fun x=>out x.1.1 x.2.1
theorem ok:CodeOk PR 68 1 (.loop c) fr:=
 lp_ok tbok hmix ⟨[1],[],[],0⟩ .no (G:=Zq80.G) Zq80.Gok (L:=mkL []) (l:=[]) hT [1,2,4,5,6] [2,4] [(0,([1,2,4,5],[2,4]))] ([2],[2]) (fun x s=>B x.1.1 x.2.1 s.1 s.2.1 s.2.2) (fun x s=>⟨[(1,.pt tDisk_ x.1.1),(2,.loc 2 []),(4,.loc 4 []),(5,.cs I64 s.1),(6,.cs I64 s.2.1)],[(2,some ⟨.mem,.cd tFsResult_ x.2.1⟩),(4,some ⟨.mem,.cd tFs_ s.2.2⟩)]⟩) (fun x=>(x.1.2.2.2.1,x.1.2.2.2.2.1,x.2.2.1))
  (fun x s=>by simp only[B,mC,mB,mS,mO,mN];kernel_rfl)
end Zq79
namespace Zq80
def pts:List PT:=[.cs tDisk_]
def FS:FS:=mkFS [.sh] pts (fun x=>Zq80 x.1) fun t=>⟨[.cd tFsResult_ t],[]⟩
theorem ok:FsOk PR 5 FS:=
 fn_ok tbok hmix Proofs.Tryz.f5 ⟨[1],[],[],0⟩ (.R (.R (.R (.R (.L (.R (.one (.fr 0)))))))) (G:=G) Gok (L:=mkL [(0,Zq79.fr)]) (l:=[(0,.loop Zq79.c)]) ⟨Lam.cons Zq79.ok,trivial⟩
  (fun x=>by simp only[Zq80,mC,mB,mS,mO,mN];kernel_rfl)
end Zq80
def Zq81 (n:Int) (low:Int) (high:Int):Option Bool:=
 (some (cond (decide (n≥low)) (decide (n≤high)) false)).bind fun v=>some v
namespace Zq81
def pts:List PT:=[.cs I64,.cs I64,.cs I64]
def FS:FS:=mkFS [.sh,.sh,.sh] pts (fun x=>Zq81 x.1 x.2.1 x.2.2.1) fun t=>⟨[.cs .bool t],[]⟩
theorem ok:FsOk PR 77 FS:=
 fn_ok tbok hmix Proofs.Tryz.f77 h0 .no (G:=(mkG [])) .nil (L:=mkL []) (l:=[]) hT
  (fun x=>by simp only[Zq81,mC,mB,mS,mO,mN];kernel_rfl)
end Zq81
def Zq82 (w:Int):Option Bool:=
 (Zq81 w 0 65535).bind fun r=>some (!r)
namespace Zq82
def G:Gam:=mkG [(77,Zq81.FS)]
def pts:List PT:=[.cs I64]
def FS:FS:=mkFS [.sh] pts (fun x=>Zq82 x.1) fun t=>⟨[.cs .bool t],[]⟩
theorem ok:FsOk PR 102 FS:=
 fn_ok tbok hmix Proofs.Tryz.f102 h0 .no (G:=G) (show GOk PR G from .cons Zq81.ok .nil) (L:=mkL []) (l:=[]) hT
  (fun x=>by simp only[Zq82,mC,mB,mS,mO,mN];kernel_rfl)
end Zq82
def Zq83.B (s_:List Int) (f:Unit) (v:Int) (v2:Int):Option (Int⊕((Int⊕Unit))):=
 cond (decide (v2<v)) (cond (inB v2 s_.length) ((Zq82 (s_.getD v2.toNat 0)).bind fun r=>cond r (some (.inr (.inl v2))) (some (.inl (w64 (v2+1))))) none) (some (.inr (.inr ())))
def Zq83 (s_:List Int) (f:Unit) (v:Int):Int→Option ((Int⊕Unit)):=
 loopL fun s=>Zq83.B s_ f v s
def Zq84 (s_:List Int) (f:Unit):Option Int:=
 (Zq83 s_ f (s_.length:Int) 0).bind fun o=>sel o (fun b=>some b) (fun c=>some (-1))
namespace Zq84
def G:Gam:=mkG [(102,Zq82.FS)]
theorem Gok:GOk PR G:=.cons Zq82.ok .nil
end Zq84
namespace Zq83
def c:=codeAt (bodyOf Proofs.Tryz.f89) [1,0,1,0,0]
def sp:SP:=⟨[(0,.cs SI),(1,.clo 102 (.cs .unit)),(7,.cs I64),(8,.cs I64)],[]⟩
def out (s_:List Int) (f:Unit) (v:Int):FOut ((Int⊕Unit)):=fun oo0 _ kk0=>sel oo0 (fun bb0=>kk0 (.rt) ⟨[(4,.cs I64 bb0)],[]⟩) (fun cc0=>kk0 (.ex 0) ⟨[],[]⟩)
def fr:=lfrag sp (fun x=>Zq83 x.1.1 x.1.2.1 x.1.2.2.1 x.1.2.2.2.1) fun x=>out x.1.1 x.1.2.1 x.1.2.2.1
theorem ok:CodeOk PR 19 2 (.loop c) fr:=
 lp_ok tbok hmix h0 .no (G:=Zq84.G) Zq84.Gok (L:=mkL []) (l:=[]) hT [0,1,7,8] [] [(0,([],[]))] ([4],[]) (fun x s=>B x.1.1 x.1.2.1 x.1.2.2.1 s) (fun x s=>⟨[(0,.cs SI x.1.1),(1,.clo 102 (.cs .unit x.1.2.1)),(7,.cs I64 x.1.2.2.1),(8,.cs I64 s)],[]⟩) (fun x=>x.1.2.2.2.1)
  (fun x s=>by simp only[B,mC,mB,mS,mO,mN];kernel_rfl)
end Zq83
namespace Zq84
def pts:List PT:=[.cs SI,.clo 102 (.cs .unit)]
def FS:FS:=mkFS [.sh,.sh] pts (fun x=>Zq84 x.1 x.2.1) fun t=>⟨[.cs I64 t],[]⟩
theorem ok:FsOk PR 89 FS:=
 fn_ok tbok hmix Proofs.Tryz.f89 h0 (.R (.L (.R (.one (.fr 0))))) (G:=G) Gok (L:=mkL [(0,Zq83.fr)]) (l:=[(0,.loop Zq83.c)]) ⟨Lam.cons Zq83.ok,trivial⟩
  (fun x=>by simp only[Zq84,mC,mB,mS,mO,mN];kernel_rfl)
end Zq84
def Zq85 (s_:List Int) (f:Unit):Option Bool:=
 (Zq84 s_ f).bind fun r=>some (decide (r≥0))
namespace Zq85
def G:Gam:=mkG [(89,Zq84.FS)]
def pts:List PT:=[.cs SI,.clo 102 (.cs .unit)]
def FS:FS:=mkFS [.sh,.sh] pts (fun x=>Zq85 x.1 x.2.1) fun t=>⟨[.cs .bool t],[]⟩
theorem ok:FsOk PR 56 FS:=
 fn_ok tbok hmix Proofs.Tryz.f56 h0 .no (G:=G) (show GOk PR G from .cons Zq84.ok .nil) (L:=mkL []) (l:=[]) hT
  (fun x=>by simp only[Zq85,mC,mB,mS,mO,mN];kernel_rfl)
end Zq85
def Zq86 (words:List Int):Option Int:=
 cond (decide ((words.length:Int)>64)) (some 2) ((Zq85 words ()).bind fun r=>cond r (some 3) (some 0))
namespace Zq86
def G:Gam:=mkG [(56,Zq85.FS)]
def pts:List PT:=[.cs SI]
def FS:FS:=mkFS [.sh] pts (fun x=>Zq86 x.1) fun t=>⟨[.cs I64 t],[]⟩
theorem ok:FsOk PR 76 FS:=
 fn_ok tbok hmix Proofs.Tryz.f76 h0 .no (G:=G) (show GOk PR G from .cons Zq85.ok .nil) (L:=mkL []) (l:=[]) hT
  (fun x=>by simp only[Zq86,mC,mB,mS,mO,mN];kernel_rfl)
end Zq86
def Zq87 (l:List (List Int)):Option Int:=
 some (l.length:Int)
namespace Zq87
def pts:List PT:=[.cs (.sl SI)]
def FS:FS:=mkFS [.sh] pts (fun x=>Zq87 x.1) fun t=>⟨[.cs I64 t],[]⟩
theorem ok:FsOk PR 78 FS:=
 fn_ok tbok hmix Proofs.Tryz.f78 h0 .no (G:=(mkG [])) .nil (L:=mkL []) (l:=[]) hT
  (fun x=>by simp only[Zq87,mC,mB,mS,mO,mN];kernel_rfl)
end Zq87
def Zq88.B (d:Disk_) (v2:List (List Int)) (v3:Int) (v4:Int):Option (Int⊕((Int⊕Unit))):=
 cond (decide (v4<v3)) (cond (inB v4 v2.length) ((Zq86 (v2.getD v4.toNat [])).bind fun r=>cond (r != 0) (some (.inr (.inl r))) (some (.inl (w64 (v4+1))))) none) (some (.inr (.inr ())))
def Zq88 (d:Disk_) (v2:List (List Int)) (v3:Int):Int→Option ((Int⊕Unit)):=
 loopL fun s=>Zq88.B d v2 v3 s
def Zq89.B (d:Disk_) (v5:List Put_) (v6:Int) (v7:Int):Option (Int⊕((Int⊕Unit))):=
 cond (decide (v7<v6)) (cond (inB v7 v5.length) ((Zq87 d.1).bind fun r2=>(Zq81 (v5.getD v7.toNat zPut_).1 0 (w64 (r2-1))).bind fun r3=>cond (!r3) (some (.inr (.inl 3))) ((Zq86 (v5.getD v7.toNat zPut_).2.1).bind fun r4=>cond (r4 != 0) (some (.inr (.inl r4))) (some (.inl (w64 (v7+1)))))) none) (some (.inr (.inr ())))
def Zq89 (d:Disk_) (v5:List Put_) (v6:Int):Int→Option ((Int⊕Unit)):=
 loopL fun s=>Zq89.B d v5 v6 s
def Zq90 (d:Disk_):Option Int:=
 (some (cond (decide ((d.1.length:Int)>60)) true (decide ((d.2.1.length:Int)>200)))).bind fun v=>cond v (some 2) ((Zq88 d d.1 (d.1.length:Int) 0).bind fun o=>sel o (fun b=>some b) (fun c=>(Zq89 d d.2.1 (d.2.1.length:Int) 0).bind fun o2=>sel o2 (fun b2=>some b2) (fun c2=>some 0)))
namespace Zq90
def G:Gam:=mkG [(76,Zq86.FS),(78,Zq87.FS),(77,Zq81.FS)]
theorem Gok:GOk PR G:=.cons Zq86.ok (.cons Zq87.ok (.cons Zq81.ok .nil))
end Zq90
namespace Zq88
def c:=codeAt (bodyOf Proofs.Tryz.f49) [1,1,0,1,0,0]
def sp:SP:=⟨[(1,.pt tDisk_),(20,.cs (.sl SI)),(21,.cs I64),(22,.cs I64)],[]⟩
def out (d:Disk_) (v2:List (List Int)) (v3:Int):FOut ((Int⊕Unit)):=fun oo0 _ kk0=>sel oo0 (fun bb0=>kk0 (.rt) ⟨[(2,.cs I64 bb0)],[]⟩) (fun cc0=>kk0 (.ex 0) ⟨[(1,.pt tDisk_ d)],[]⟩)
def fr:=lfrag sp (fun x=>Zq88 x.1.1 x.1.2.1 x.1.2.2.1 x.1.2.2.2.1) fun x=>out x.1.1 x.1.2.1 x.1.2.2.1
theorem ok:CodeOk PR 54 1 (.loop c) fr:=
 lp_ok tbok hmix ⟨[1],[],[],0⟩ .no (G:=Zq90.G) Zq90.Gok (L:=mkL []) (l:=[]) hT [1,20,21,22] [] [(0,([1],[]))] ([2],[]) (fun x s=>B x.1.1 x.1.2.1 x.1.2.2.1 s) (fun x s=>⟨[(1,.pt tDisk_ x.1.1),(20,.cs (.sl SI) x.1.2.1),(21,.cs I64 x.1.2.2.1),(22,.cs I64 s)],[]⟩) (fun x=>x.1.2.2.2.1)
  (fun x s=>by simp only[B,mC,mB,mS,mO,mN];kernel_rfl)
end Zq88
namespace Zq89
def c:=codeAt (bodyOf Proofs.Tryz.f49) [1,1,1,0,1,0,0]
def sp:SP:=⟨[(1,.pt tDisk_),(33,.cs (.sl tPut_)),(34,.cs I64),(35,.cs I64)],[]⟩
def out (d:Disk_) (v5:List Put_) (v6:Int):FOut ((Int⊕Unit)):=fun oo0 _ kk0=>sel oo0 (fun bb0=>kk0 (.rt) ⟨[(2,.cs I64 bb0)],[]⟩) (fun cc0=>kk0 (.ex 2) ⟨[],[]⟩)
def fr:=lfrag sp (fun x=>Zq89 x.1.1 x.1.2.1 x.1.2.2.1 x.1.2.2.2.1) fun x=>out x.1.1 x.1.2.1 x.1.2.2.1
theorem ok:CodeOk PR 54 1 (.loop c) fr:=
 lp_ok tbok hmix ⟨[1],[],[],0⟩ .no (G:=Zq90.G) Zq90.Gok (L:=mkL []) (l:=[]) hT [1,33,34,35] [] [(2,([],[]))] ([2],[]) (fun x s=>B x.1.1 x.1.2.1 x.1.2.2.1 s) (fun x s=>⟨[(1,.pt tDisk_ x.1.1),(33,.cs (.sl tPut_) x.1.2.1),(34,.cs I64 x.1.2.2.1),(35,.cs I64 s)],[]⟩) (fun x=>x.1.2.2.2.1)
  (fun x s=>by simp only[B,mC,mB,mS,mO,mN];kernel_rfl)
end Zq89
namespace Zq90
def pts:List PT:=[.cs tDisk_]
def FS:FS:=mkFS [.sh] pts (fun x=>Zq90 x.1) fun t=>⟨[.cs I64 t],[]⟩
theorem ok:FsOk PR 49 FS:=
 fn_ok tbok hmix Proofs.Tryz.f49 ⟨[1],[],[],0⟩ (.R (.R (.two (.R (.one (.fr 0))) (.L (.R (.one (.fr 1))))))) (G:=G) Gok (L:=mkL [(0,Zq88.fr),(1,Zq89.fr)]) (l:=[(0,.loop Zq88.c),(1,.loop Zq89.c)]) ⟨Lam.cons Zq88.ok,Lam.skip rfl (Lam.cons Zq89.ok),trivial⟩
  (fun x=>by simp only[Zq90,mC,mB,mS,mO,mN];kernel_rfl)
end Zq90
noncomputable def Zq91 (d:Disk_) (at_:Int):Option (List Int):=blockP d at_
def Zq91.FS:FS:=mkFS [.sh,.sh] [.pt tDiskB,.cl .sh (.int .i64)] (fun x=>blockP x.1 x.2.1) fun y=>⟨[.cl .sh (.sl (.int .i64)) y],[]⟩
theorem Zq91.ok:FsOk Go.Proofs.Tryz.prog 50 Zq91.FS:=
 block_fs ⟨Go.Proofs.Tryz.f50,by kernel_rfl,by kernel_rfl,by kernel_rfl⟩ (fun bd od at_ A C nB cB nC cC hd w v h1 h2 h3 h4 h5 h6=>callsIn_wide.1 (Go.Proofs.Bk.block_in Fence.wide 3 trivial trivial trivial rfl (by omega) bd od at_ A C nB cB nC cC hd w v h1 h2 h3 h4 h5 h6))
def Zq92 (seq:Int):Option Bool:=
 (Zq81 seq 1 60000).bind fun r=>some r
namespace Zq92
def G:Gam:=mkG [(77,Zq81.FS)]
def pts:List PT:=[.cs I64]
def FS:FS:=mkFS [.sh] pts (fun x=>Zq92 x.1) fun t=>⟨[.cs .bool t],[]⟩
theorem ok:FsOk PR 51 FS:=
 fn_ok tbok hmix Proofs.Tryz.f51 h0 .no (G:=G) (show GOk PR G from .cons Zq81.ok .nil) (L:=mkL []) (l:=[]) hT
  (fun x=>by simp only[Zq92,mC,mB,mS,mO,mN];kernel_rfl)
end Zq92
def Zq93 (d:Disk_):Option (Int×Int):=
 (Zq90 d).bind fun r=>cond (r != 0) (some (0,r)) (cond ((d.1.length:Int) != 47) (some (0,1)) ((Zq91 d 0).bind fun r2=>cond (cond (!((r2.length:Int) != 2)) (inB 0 r2.length) true) ((some (cond ((r2.length:Int) != 2) true ((r2.getD (0:Int).toNat 0) != 7))).bind fun v=>cond v (some (0,5)) (cond (inB 1 r2.length) ((Zq92 (r2.getD (1:Int).toNat 0)).bind fun r3=>cond (!r3) (some (0,5)) (cond (inB 1 r2.length) (some (r2.getD (1:Int).toNat 0,0)) none)) none)) none))
namespace Zq93
def G:Gam:=mkG [(49,Zq90.FS),(50,Zq91.FS),(51,Zq92.FS)]
def pts:List PT:=[.cs tDisk_]
def FS:FS:=mkFS [.sh] pts (fun x=>Zq93 x.1) fun t=>⟨[.cs I64 t.1,.cs I64 t.2],[]⟩
theorem ok:FsOk PR 23 FS:=
 fn_ok tbok hmix Proofs.Tryz.f23 ⟨[1],[],[],0⟩ .no (G:=G) (show GOk PR G from .cons Zq90.ok (.cons Zq91.ok (.cons Zq92.ok .nil))) (L:=mkL []) (l:=[]) hT
  (fun x=>by simp only[Zq93,mC,mB,mS,mO,mN];kernel_rfl)
end Zq93
noncomputable def Zq94 (s:List Int):Option (List Int):=cloneP s
noncomputable def Zq94.FS:FS:=mkFS [.sh] [.cl .sh (.sl (.int .i64))] (fun x=>Zq94 x.1) fun y=>⟨[.cl .deep (.sl (.int .i64)) y],[]⟩
theorem Zq94.ok:FsOk Go.Proofs.Tryz.prog 104 Zq94.FS:=
 clone_fs (hn:=⟨[],[],[],0⟩) tbok hmix (fn:=Go.Proofs.Tryz.f104) (by kernel_rfl) (body_some (by kernel_rfl)) (by kernel_rfl) (by kernel_rfl) .deep (.int .i64) 48 48 2 (by kernel_rfl) (by kernel_rfl) (by kernel_rfl) (by kernel_rfl) (by kernel_rfl) (by kernel_rfl) (by kernel_rfl) (by kernel_rfl) (fun xs=>by kernel_rfl) (fun xs=>by kernel_rfl) (fun xs=>by kernel_rfl) (fun xs=>by kernel_rfl)
def Zq95 (l:List Int):Option Int:=
 some (l.length:Int)
namespace Zq95
def pts:List PT:=[.cs SI]
def FS:FS:=mkFS [.sh] pts (fun x=>Zq95 x.1) fun t=>⟨[.cs I64 t],[]⟩
theorem ok:FsOk PR 55 FS:=
 fn_ok tbok hmix Proofs.Tryz.f55 h0 .no (G:=(mkG [])) .nil (L:=mkL []) (l:=[]) hT
  (fun x=>by simp only[Zq95,mC,mB,mS,mO,mN];kernel_rfl)
end Zq95
def Zq96.B (words_:List Int) (v5:Int) (v7:List Int) (v8:Int) (v9:Int) (v10:List Int) (r2:Int) (v11:Int) (v4:Bool) (v12:List Int) (v6:Int) (v3:Inode_) (x_:Inode_) (v13:Int) (e_:Entry_):Option ((Int×Entry_)⊕(((Bool×Inode_)⊕Entry_))):=
 cond (decide (v13<v6)) (cond (inB v13 v12.length) (cond (decide ((v12.getD v13.toNat 0)>255)) (some (.inr (.inl (false,(0,0,0,[],[],()))))) ((some (([IntKind.u8.wrap (v12.getD v13.toNat 0)]).map fun n=>UInt8.ofNat n.toNat)).bind fun v14=>cond (decide (e_.1.length+v14.length≤2147483648)) (some (.inl (w64 (v13+1),(e_.1++v14,e_.2)))) none)) none) (some (.inr (.inr e_)))
def Zq96 (words_:List Int) (v5:Int) (v7:List Int) (v8:Int) (v9:Int) (v10:List Int) (r2:Int) (v11:Int) (v4:Bool) (v12:List Int) (v6:Int) (v3:Inode_) (x_:Inode_):(Int×Entry_)→Option (((Bool×Inode_)⊕Entry_)):=
 loopL fun s=>Zq96.B words_ v5 v7 v8 v9 v10 r2 v11 v4 v12 v6 v3 x_ s.1 s.2
def Zq97.B (v3:Inode_) (words_:List Int) (x_:Inode_):Option (((List Int)×Inode_)⊕(((Bool×Inode_)⊕Inode_))):=
 cond (decide ((words_.length:Int)>0)) (cond (decide ((words_.length:Int)<2)) (some (.inr (.inl (false,(0,0,0,[],[],()))))) (cond (inB 1 words_.length) ((Zq95 words_).bind fun r2=>(some (decide ((words_.getD (1:Int).toNat 0)>(w64 (r2-2))))).bind fun v4=>cond v4 (some (.inr (.inl (false,(0,0,0,[],[],()))))) (cond (inB 1 words_.length) ((some (w64 ((2:Int)+(words_.getD (1:Int).toNat 0)))).bind fun v5=>cond (inB 0 words_.length) (cond (decide ((0:Int)≤v5)&&decide (v5≤(words_.length:Int))&&(decide ((0:Int)≤(2:Int))&&decide ((2:Int)≤v5))) ((some (((words_.take v5.toNat).drop ((2:Int).toNat)).length:Int)).bind fun v6=>(Zq96 words_ v5 words_ (words_.getD (1:Int).toNat 0) (words_.getD (1:Int).toNat 0) words_ r2 (w64 (r2-2)) v4 ((words_.take v5.toNat).drop ((2:Int).toNat)) v6 v3 x_ (0,([],words_.getD (0:Int).toNat 0,()))).bind fun o=>sel o (fun b=>some (.inr (.inl (b.1,b.2)))) (fun c=>cond (decide ((x_.2.2.2.2.1++([c])).length≤2147483648)) (cond (decide ((0:Int)≤v5)&&decide (v5≤(words_.length:Int))) (some (.inl ((words_.take words_.length).drop v5.toNat,(x_.1,x_.2.1,x_.2.2.1,x_.2.2.2.1,x_.2.2.2.2.1++([c]),x_.2.2.2.2.2)))) none) none)) none) none) none)) none)) (some (.inr (.inr x_)))
def Zq97 (v3:Inode_):((List Int)×Inode_)→Option (((Bool×Inode_)⊕Inode_)):=
 loopL fun s=>Zq97.B v3 s.1 s.2
def Zq98 (words:List Int):Option (Inode_×Bool):=
 cond (decide ((words.length:Int)<3)) (some ((0,0,0,[],[],()),false)) (cond (inB 0 words.length) (cond (inB 1 words.length) (cond (inB 2 words.length) (cond (decide ((0:Int)≤(3:Int))&&decide ((3:Int)≤(words.length:Int))) (cond ((words.getD (0:Int).toNat 0) != 2) ((Zq94 ((words.take words.length).drop ((3:Int).toNat))).bind fun r=>some ((words.getD (0:Int).toNat 0,words.getD (1:Int).toNat 0,words.getD (2:Int).toNat 0,r,[],()),true)) ((some (((words.take words.length).drop ((3:Int).toNat)).length:Int)).bind fun v=>cond (v == 0) (some ((0,0,0,[],[],()),false)) (cond (decide ((0:Int)≤(1:Int))&&decide ((1:Int)≤(((words.take words.length).drop ((3:Int).toNat)).length:Int))) ((some ((((words.take words.length).drop ((3:Int).toNat)).take (((words.take words.length).drop ((3:Int).toNat)).length)).drop ((1:Int).toNat))).bind fun v2=>(Zq97 (0,0,0,[],[],()) (v2,(words.getD (0:Int).toNat 0,words.getD (1:Int).toNat 0,words.getD (2:Int).toNat 0,[],[],()))).bind fun o2=>sel o2 (fun b2=>some ((b2.2.1,b2.2.2.1,b2.2.2.2.1,b2.2.2.2.2.1,b2.2.2.2.2.2.1,b2.2.2.2.2.2.2),b2.1)) (fun c2=>some ((c2.1,c2.2.1,c2.2.2.1,c2.2.2.2.1,c2.2.2.2.2.1,c2.2.2.2.2.2),true))) none))) none) none) none) none)
namespace Zq98
def G:Gam:=mkG [(104,Zq94.FS),(55,Zq95.FS)]
theorem Gok:GOk PR G:=.cons Zq94.ok (.cons Zq95.ok .nil)
end Zq98
namespace Zq96
def c:=codeAt (bodyOf Proofs.Tryz.f80) [1,1,1,1,1,1,0,1,0,0,1,0,1,1,1,0,1,0,0]
def sp:SP:=⟨[(0,.cs SI),(2,.loc 2 []),(4,.loc 4 []),(5,.cs I64),(6,.loc 6 []),(45,.cs SI),(46,.pt I64),(47,.cs I64),(48,.cs SI),(49,.cs I64),(50,.cs I64),(51,.cs .bool),(64,.cs SI),(65,.cs I64),(66,.cs I64)],[(2,.mem,.cd tInode_),(4,.mem,.cd tInode_),(6,.mem,.cd tEntry_)]⟩
def out (words_:List Int) (v5:Int) (v7:List Int) (v8:Int) (v9:Int) (v10:List Int) (r2:Int) (v11:Int) (v4:Bool) (v12:List Int) (v6:Int) (v3:Inode_) (x_:Inode_):FOut (((Bool×Inode_)⊕Entry_)):=fun oo0 _ kk0=>sel oo0 (fun bb0=>kk0 (.rt) ⟨[(2,.loc 2 []),(3,.cs .bool bb0.1)],[(2,some ⟨.mem,.cd tInode_ bb0.2⟩)]⟩) (fun cc0=>kk0 (.ex 2) ⟨[(0,.cs SI words_),(2,.loc 2 []),(4,.loc 4 []),(5,.cs I64 v5),(6,.loc 6 []),(45,.cs SI v7),(46,.pt I64 v8),(47,.cs I64 v9),(48,.cs SI v10),(49,.cs I64 r2),(50,.cs I64 v11),(51,.cs .bool v4)],[(2,some ⟨.mem,.cd tInode_ v3⟩),(4,some ⟨.mem,.cd tInode_ x_⟩),(6,some ⟨.mem,.cd tEntry_ cc0⟩)]⟩)
def fr:=lfrag sp (fun x=>Zq96 x.1.1 x.1.2.2.2.1 x.1.2.2.2.2.2.1 x.1.2.2.2.2.2.2.1 x.1.2.2.2.2.2.2.2.1 x.1.2.2.2.2.2.2.2.2.1 x.1.2.2.2.2.2.2.2.2.2.1 x.1.2.2.2.2.2.2.2.2.2.2.1 x.1.2.2.2.2.2.2.2.2.2.2.2.1 x.1.2.2.2.2.2.2.2.2.2.2.2.2.1 x.1.2.2.2.2.2.2.2.2.2.2.2.2.2.1 x.2.1 x.2.2.1 (x.1.2.2.2.2.2.2.2.2.2.2.2.2.2.2.1,x.2.2.2.1)) fun x=>out x.1.1 x.1.2.2.2.1 x.1.2.2.2.2.2.1 x.1.2.2.2.2.2.2.1 x.1.2.2.2.2.2.2.2.1 x.1.2.2.2.2.2.2.2.2.1 x.1.2.2.2.2.2.2.2.2.2.1 x.1.2.2.2.2.2.2.2.2.2.2.1 x.1.2.2.2.2.2.2.2.2.2.2.2.1 x.1.2.2.2.2.2.2.2.2.2.2.2.2.1 x.1.2.2.2.2.2.2.2.2.2.2.2.2.2.1 x.2.1 x.2.2.1
theorem ok:CodeOk PR 92 1 (.loop c) fr:=
 lp_ok tbok hmix h0 .no (G:=Zq98.G) Zq98.Gok (L:=mkL []) (l:=[]) hT [0,2,4,5,6,45,46,47,48,49,50,51,64,65,66] [2,4,6] [(2,([0,2,4,5,6,45,46,47,48,49,50,51],[2,4,6]))] ([2,3],[2]) (fun x s=>B x.1.1 x.1.2.2.2.1 x.1.2.2.2.2.2.1 x.1.2.2.2.2.2.2.1 x.1.2.2.2.2.2.2.2.1 x.1.2.2.2.2.2.2.2.2.1 x.1.2.2.2.2.2.2.2.2.2.1 x.1.2.2.2.2.2.2.2.2.2.2.1 x.1.2.2.2.2.2.2.2.2.2.2.2.1 x.1.2.2.2.2.2.2.2.2.2.2.2.2.1 x.1.2.2.2.2.2.2.2.2.2.2.2.2.2.1 x.2.1 x.2.2.1 s.1 s.2) (fun x s=>⟨[(0,.cs SI x.1.1),(2,.loc 2 []),(4,.loc 4 []),(5,.cs I64 x.1.2.2.2.1),(6,.loc 6 []),(45,.cs SI x.1.2.2.2.2.2.1),(46,.pt I64 x.1.2.2.2.2.2.2.1),(47,.cs I64 x.1.2.2.2.2.2.2.2.1),(48,.cs SI x.1.2.2.2.2.2.2.2.2.1),(49,.cs I64 x.1.2.2.2.2.2.2.2.2.2.1),(50,.cs I64 x.1.2.2.2.2.2.2.2.2.2.2.1),(51,.cs .bool x.1.2.2.2.2.2.2.2.2.2.2.2.1),(64,.cs SI x.1.2.2.2.2.2.2.2.2.2.2.2.2.1),(65,.cs I64 x.1.2.2.2.2.2.2.2.2.2.2.2.2.2.1),(66,.cs I64 s.1)],[(2,some ⟨.mem,.cd tInode_ x.2.1⟩),(4,some ⟨.mem,.cd tInode_ x.2.2.1⟩),(6,some ⟨.mem,.cd tEntry_ s.2⟩)]⟩) (fun x=>(x.1.2.2.2.2.2.2.2.2.2.2.2.2.2.2.1,x.2.2.2.1))
  (fun x s=>by simp only[B,mC,mB,mS,mO,mN];kernel_rfl)
end Zq96
namespace Zq97
def c:=codeAt (bodyOf Proofs.Tryz.f80) [1,1,1,1,1,1,0,1,0,0]
def sp:SP:=⟨[(0,.cs SI),(2,.loc 2 []),(4,.loc 4 [])],[(2,.mem,.cd tInode_),(4,.mem,.cd tInode_)]⟩
def out (v3:Inode_):FOut (((Bool×Inode_)⊕Inode_)):=fun oo0 _ kk0=>sel oo0 (fun bb0=>kk0 (.rt) ⟨[(2,.loc 2 []),(3,.cs .bool bb0.1)],[(2,some ⟨.mem,.cd tInode_ bb0.2⟩)]⟩) (fun cc0=>kk0 (.ex 0) ⟨[(2,.loc 2 []),(4,.loc 4 [])],[(2,some ⟨.mem,.cd tInode_ v3⟩),(4,some ⟨.mem,.cd tInode_ cc0⟩)]⟩)
def fr:=lfrag sp (fun x=>Zq97 x.2.1 (x.1.1,x.2.2.1)) fun x=>out x.2.1
theorem ok:CodeOk PR 92 1 (.loop c) fr:=
 lp_ok tbok hmix h0 (.R (.one (.R (.R (.R (.L (.R (.one (.fr 1))))))))) (G:=Zq98.G) Zq98.Gok (L:=mkL [(1,Zq96.fr)]) (l:=[(1,.loop Zq96.c)]) ⟨Lam.cons Zq96.ok,trivial⟩ [0,2,4] [2,4] [(0,([2,4],[2,4]))] ([2,3],[2]) (fun x s=>B x.2.1 s.1 s.2) (fun x s=>⟨[(0,.cs SI s.1),(2,.loc 2 []),(4,.loc 4 [])],[(2,some ⟨.mem,.cd tInode_ x.2.1⟩),(4,some ⟨.mem,.cd tInode_ s.2⟩)]⟩) (fun x=>(x.1.1,x.2.2.1))
  (fun x s=>by simp only[B,mC,mB,mS,mO,mN];kernel_rfl)
end Zq97
namespace Zq98
def pts:List PT:=[.cs SI]
def FS:FS:=mkFS [.sh] pts (fun x=>Zq98 x.1) fun t=>⟨[.cd tInode_ t.1,.cs .bool t.2],[]⟩
theorem ok:FsOk PR 80 FS:=
 fn_ok tbok hmix Proofs.Tryz.f80 h0 (.R (.R (.R (.R (.R (.R (.L (.R (.one (.fr 0)))))))))) (G:=G) Gok (L:=mkL [(1,Zq96.fr),(0,Zq97.fr)]) (l:=[(0,.loop Zq97.c)]) ⟨Lam.skip rfl (Lam.cons Zq97.ok),trivial⟩
  (fun x=>by simp only[Zq98,mC,mB,mS,mO,mN];kernel_rfl)
end Zq98
def Zq99 (size:Int):Option Int:=
 cond (!((8:Int) == 0)) (some (w64 ((w64 ((w64 (size+8))-1)).tdiv 8))) none
namespace Zq99
def pts:List PT:=[.cs I64]
def FS:FS:=mkFS [.sh] pts (fun x=>Zq99 x.1) fun t=>⟨[.cs I64 t],[]⟩
theorem ok:FsOk PR 118 FS:=
 fn_ok tbok hmix Proofs.Tryz.f118 h0 .no (G:=(mkG [])) .nil (L:=mkL []) (l:=[]) hT
  (fun x=>by simp only[Zq99,mC,mB,mS,mO,mN];kernel_rfl)
end Zq99
def Zq100 (b:Int):Option Bool:=
 (Zq81 b 0 19).bind fun r=>some (!r)
namespace Zq100
def G:Gam:=mkG [(77,Zq81.FS)]
def pts:List PT:=[.cs I64]
def FS:FS:=mkFS [.sh] pts (fun x=>Zq100 x.1) fun t=>⟨[.cs .bool t],[]⟩
theorem ok:FsOk PR 119 FS:=
 fn_ok tbok hmix Proofs.Tryz.f119 h0 .no (G:=G) (show GOk PR G from .cons Zq81.ok .nil) (L:=mkL []) (l:=[]) hT
  (fun x=>by simp only[Zq100,mC,mB,mS,mO,mN];kernel_rfl)
end Zq100
def Zq101.B (s_:List Int) (f:Unit) (v:Int) (v2:Int):Option (Int⊕((Int⊕Unit))):=
 cond (decide (v2<v)) (cond (inB v2 s_.length) ((Zq100 (s_.getD v2.toNat 0)).bind fun r=>cond r (some (.inr (.inl v2))) (some (.inl (w64 (v2+1))))) none) (some (.inr (.inr ())))
def Zq101 (s_:List Int) (f:Unit) (v:Int):Int→Option ((Int⊕Unit)):=
 loopL fun s=>Zq101.B s_ f v s
def Zq102 (s_:List Int) (f:Unit):Option Int:=
 (Zq101 s_ f (s_.length:Int) 0).bind fun o=>sel o (fun b=>some b) (fun c=>some (-1))
namespace Zq102
def G:Gam:=mkG [(119,Zq100.FS)]
theorem Gok:GOk PR G:=.cons Zq100.ok .nil
end Zq102
namespace Zq101
def c:=codeAt (bodyOf Proofs.Tryz.f89) [1,0,1,0,0]
def sp:SP:=⟨[(0,.cs SI),(1,.clo 119 (.cs .unit)),(7,.cs I64),(8,.cs I64)],[]⟩
def out (s_:List Int) (f:Unit) (v:Int):FOut ((Int⊕Unit)):=fun oo0 _ kk0=>sel oo0 (fun bb0=>kk0 (.rt) ⟨[(4,.cs I64 bb0)],[]⟩) (fun cc0=>kk0 (.ex 0) ⟨[],[]⟩)
def fr:=lfrag sp (fun x=>Zq101 x.1.1 x.1.2.1 x.1.2.2.1 x.1.2.2.2.1) fun x=>out x.1.1 x.1.2.1 x.1.2.2.1
theorem ok:CodeOk PR 19 2 (.loop c) fr:=
 lp_ok tbok hmix h0 .no (G:=Zq102.G) Zq102.Gok (L:=mkL []) (l:=[]) hT [0,1,7,8] [] [(0,([],[]))] ([4],[]) (fun x s=>B x.1.1 x.1.2.1 x.1.2.2.1 s) (fun x s=>⟨[(0,.cs SI x.1.1),(1,.clo 119 (.cs .unit x.1.2.1)),(7,.cs I64 x.1.2.2.1),(8,.cs I64 s)],[]⟩) (fun x=>x.1.2.2.2.1)
  (fun x s=>by simp only[B,mC,mB,mS,mO,mN];kernel_rfl)
end Zq101
namespace Zq102
def pts:List PT:=[.cs SI,.clo 119 (.cs .unit)]
def FS:FS:=mkFS [.sh,.sh] pts (fun x=>Zq102 x.1 x.2.1) fun t=>⟨[.cs I64 t],[]⟩
theorem ok:FsOk PR 89 FS:=
 fn_ok tbok hmix Proofs.Tryz.f89 h0 (.R (.L (.R (.one (.fr 0))))) (G:=G) Gok (L:=mkL [(0,Zq101.fr)]) (l:=[(0,.loop Zq101.c)]) ⟨Lam.cons Zq101.ok,trivial⟩
  (fun x=>by simp only[Zq102,mC,mB,mS,mO,mN];kernel_rfl)
end Zq102
def Zq103 (s_:List Int) (f:Unit):Option Bool:=
 (Zq102 s_ f).bind fun r=>some (decide (r≥0))
namespace Zq103
def G:Gam:=mkG [(89,Zq102.FS)]
def pts:List PT:=[.cs SI,.clo 119 (.cs .unit)]
def FS:FS:=mkFS [.sh,.sh] pts (fun x=>Zq103 x.1 x.2.1) fun t=>⟨[.cs .bool t],[]⟩
theorem ok:FsOk PR 56 FS:=
 fn_ok tbok hmix Proofs.Tryz.f56 h0 .no (G:=G) (show GOk PR G from .cons Zq102.ok .nil) (L:=mkL []) (l:=[]) hT
  (fun x=>by simp only[Zq103,mC,mB,mS,mO,mN];kernel_rfl)
end Zq103
def Zq104.B (s_:List Int) (v:Int) (v2:Int) (v3:Int):Option (Int⊕((Int⊕Unit))):=
 cond (decide (v3<v2)) (cond (inB v3 s_.length) (cond (v == (s_.getD v3.toNat 0)) (some (.inr (.inl v3))) (some (.inl (w64 (v3+1))))) none) (some (.inr (.inr ())))
def Zq104 (s_:List Int) (v:Int) (v2:Int):Int→Option ((Int⊕Unit)):=
 loopL fun s=>Zq104.B s_ v v2 s
def Zq105 (s_:List Int) (v:Int):Option Int:=
 (Zq104 s_ v (s_.length:Int) 0).bind fun o=>sel o (fun b=>some b) (fun c=>some (-1))
namespace Zq104
def c:=codeAt (bodyOf Proofs.Tryz.f123) [1,0,1,0,0]
def sp:SP:=⟨[(0,.cs SI),(1,.cs I64),(7,.cs I64),(8,.cs I64)],[]⟩
def out (s_:List Int) (v:Int) (v2:Int):FOut ((Int⊕Unit)):=fun oo0 _ kk0=>sel oo0 (fun bb0=>kk0 (.rt) ⟨[(4,.cs I64 bb0)],[]⟩) (fun cc0=>kk0 (.ex 0) ⟨[],[]⟩)
def fr:=lfrag sp (fun x=>Zq104 x.1.1 x.1.2.1 x.1.2.2.1 x.1.2.2.2.1) fun x=>out x.1.1 x.1.2.1 x.1.2.2.1
theorem ok:CodeOk PR 19 2 (.loop c) fr:=
 lp_ok tbok hmix h0 .no (G:=(mkG [])) .nil (L:=mkL []) (l:=[]) hT [0,1,7,8] [] [(0,([],[]))] ([4],[]) (fun x s=>B x.1.1 x.1.2.1 x.1.2.2.1 s) (fun x s=>⟨[(0,.cs SI x.1.1),(1,.cs I64 x.1.2.1),(7,.cs I64 x.1.2.2.1),(8,.cs I64 s)],[]⟩) (fun x=>x.1.2.2.2.1)
  (fun x s=>by simp only[B,mC,mB,mS,mO,mN];kernel_rfl)
end Zq104
namespace Zq105
def pts:List PT:=[.cs SI,.cs I64]
def FS:FS:=mkFS [.sh,.sh] pts (fun x=>Zq105 x.1 x.2.1) fun t=>⟨[.cs I64 t],[]⟩
theorem ok:FsOk PR 123 FS:=
 fn_ok tbok hmix Proofs.Tryz.f123 h0 (.R (.L (.R (.one (.fr 0))))) (G:=(mkG [])) .nil (L:=mkL [(0,Zq104.fr)]) (l:=[(0,.loop Zq104.c)]) ⟨Lam.cons Zq104.ok,trivial⟩
  (fun x=>by simp only[Zq105,mC,mB,mS,mO,mN];kernel_rfl)
end Zq105
def Zq106 (s_:List Int) (v:Int):Option Bool:=
 (Zq105 s_ v).bind fun r=>some (decide (r≥0))
namespace Zq106
def G:Gam:=mkG [(123,Zq105.FS)]
def pts:List PT:=[.cs SI,.cs I64]
def FS:FS:=mkFS [.sh,.sh] pts (fun x=>Zq106 x.1 x.2.1) fun t=>⟨[.cs .bool t],[]⟩
theorem ok:FsOk PR 114 FS:=
 fn_ok tbok hmix Proofs.Tryz.f114 h0 .no (G:=G) (show GOk PR G from .cons Zq105.ok .nil) (L:=mkL []) (l:=[]) hT
  (fun x=>by simp only[Zq106,mC,mB,mS,mO,mN];kernel_rfl)
end Zq106
def Zq107.B (x:Inode_) (v:List Int) (v2:Int) (v3:Int):Option (Int⊕((Int⊕Unit))):=
 cond (decide (v3<v2)) (cond (inB v3 v.length) (cond (decide ((0:Int)≤v3)&&decide (v3≤(x.2.2.2.1.length:Int))) ((Zq106 ((x.2.2.2.1.take v3.toNat).drop 0) (v.getD v3.toNat 0)).bind fun r6=>cond r6 (some (.inr (.inl 7))) (some (.inl (w64 (v3+1))))) none) none) (some (.inr (.inr ())))
def Zq107 (x:Inode_) (v:List Int) (v2:Int):Int→Option ((Int⊕Unit)):=
 loopL fun s=>Zq107.B x v v2 s
def Zq108 (x:Inode_):Option Int:=
 (Zq81 x.2.1 1 60).bind fun r=>cond (!r) (some 3) ((Zq81 x.2.2.1 0 32).bind fun r2=>cond (!r2) (some 3) ((Zq95 x.2.2.2.1).bind fun r3=>(Zq99 x.2.2.1).bind fun r4=>cond (r3 != r4) (some 1) ((Zq103 x.2.2.2.1 ()).bind fun r5=>cond r5 (some 3) ((Zq107 x x.2.2.2.1 (x.2.2.2.1.length:Int) 0).bind fun o=>sel o (fun b=>some b) (fun c=>some 0)))))
namespace Zq108
def G:Gam:=mkG [(77,Zq81.FS),(55,Zq95.FS),(118,Zq99.FS),(56,Zq103.FS),(114,Zq106.FS)]
theorem Gok:GOk PR G:=.cons Zq81.ok (.cons Zq95.ok (.cons Zq99.ok (.cons Zq103.ok (.cons Zq106.ok .nil))))
end Zq108
namespace Zq107
def c:=codeAt (bodyOf Proofs.Tryz.f105) [1,1,0,1,0,0]
def sp:SP:=⟨[(1,.pt tInode_),(29,.cs SI),(30,.cs I64),(31,.cs I64)],[]⟩
def out (x:Inode_) (v:List Int) (v2:Int):FOut ((Int⊕Unit)):=fun oo0 _ kk0=>sel oo0 (fun bb0=>kk0 (.rt) ⟨[(2,.cs I64 bb0)],[]⟩) (fun cc0=>kk0 (.ex 1) ⟨[],[]⟩)
def fr:=lfrag sp (fun x=>Zq107 x.1.1 x.1.2.1 x.1.2.2.1 x.1.2.2.2.1) fun x=>out x.1.1 x.1.2.1 x.1.2.2.1
theorem ok:CodeOk PR 43 1 (.loop c) fr:=
 lp_ok tbok hmix ⟨[1],[],[],0⟩ .no (G:=Zq108.G) Zq108.Gok (L:=mkL []) (l:=[]) hT [1,29,30,31] [] [(1,([],[]))] ([2],[]) (fun x s=>B x.1.1 x.1.2.1 x.1.2.2.1 s) (fun x s=>⟨[(1,.pt tInode_ x.1.1),(29,.cs SI x.1.2.1),(30,.cs I64 x.1.2.2.1),(31,.cs I64 s)],[]⟩) (fun x=>x.1.2.2.2.1)
  (fun x s=>by simp only[B,mC,mB,mS,mO,mN];kernel_rfl)
end Zq107
namespace Zq108
def pts:List PT:=[.cs tInode_]
def FS:FS:=mkFS [.sh] pts (fun x=>Zq108 x.1) fun t=>⟨[.cs I64 t],[]⟩
theorem ok:FsOk PR 105 FS:=
 fn_ok tbok hmix Proofs.Tryz.f105 ⟨[1],[],[],0⟩ (.R (.R (.L (.R (.one (.fr 0)))))) (G:=G) Gok (L:=mkL [(0,Zq107.fr)]) (l:=[(0,.loop Zq107.c)]) ⟨Lam.cons Zq107.ok,trivial⟩
  (fun x=>by simp only[Zq108,mC,mB,mS,mO,mN];kernel_rfl)
end Zq108
def Zq109.B (name:List UInt8) (v:Int) (v2:Int):Option (Int⊕((Int⊕Unit))):=
 cond (decide (v2<v)) (cond (inB v2 name.length) ((some (decide (((name.getD v2.toNat 0).toNat:Int)<97))).bind fun v3=>cond (cond (!v3) (inB v2 name.length) true) ((some (cond v3 true (decide (((name.getD v2.toNat 0).toNat:Int)>122)))).bind fun v4=>cond v4 (some (.inr (.inl 5))) (some (.inl (w64 (v2+1))))) none) none) (some (.inr (.inr ())))
def Zq109 (name:List UInt8) (v:Int):Int→Option ((Int⊕Unit)):=
 loopL fun s=>Zq109.B name v s
def Zq110 (name:List UInt8):Option Int:=
 cond (name == ([]:List UInt8)) (some 5) ((Zq109 name (name.length:Int) 0).bind fun o=>sel o (fun b=>some b) (fun c=>cond (decide ((name.length:Int)>4)) (some 2) (some 0)))
namespace Zq109
def c:=codeAt (bodyOf Proofs.Tryz.f120) [1,1,0,1,0,0]
def sp:SP:=⟨[(0,.cs .str),(7,.cs I64),(8,.cs I64)],[]⟩
def out (name:List UInt8) (v:Int):FOut ((Int⊕Unit)):=fun oo0 _ kk0=>sel oo0 (fun bb0=>kk0 (.rt) ⟨[(2,.cs I64 bb0)],[]⟩) (fun cc0=>kk0 (.ex 0) ⟨[(0,.cs .str name)],[]⟩)
def fr:=lfrag sp (fun x=>Zq109 x.1.1 x.1.2.1 x.1.2.2.1) fun x=>out x.1.1 x.1.2.1
theorem ok:CodeOk PR 25 1 (.loop c) fr:=
 lp_ok tbok hmix h0 .no (G:=(mkG [])) .nil (L:=mkL []) (l:=[]) hT [0,7,8] [] [(0,([0],[]))] ([2],[]) (fun x s=>B x.1.1 x.1.2.1 s) (fun x s=>⟨[(0,.cs .str x.1.1),(7,.cs I64 x.1.2.1),(8,.cs I64 s)],[]⟩) (fun x=>x.1.2.2.1)
  (fun x s=>by simp only[B,mC,mB,mS,mO,mN];kernel_rfl)
end Zq109
namespace Zq110
def pts:List PT:=[.cs .str]
def FS:FS:=mkFS [.sh] pts (fun x=>Zq110 x.1) fun t=>⟨[.cs I64 t],[]⟩
theorem ok:FsOk PR 120 FS:=
 fn_ok tbok hmix Proofs.Tryz.f120 h0 (.R (.R (.L (.R (.one (.fr 0)))))) (G:=(mkG [])) .nil (L:=mkL [(0,Zq109.fr)]) (l:=[(0,.loop Zq109.c)]) ⟨Lam.cons Zq109.ok,trivial⟩
  (fun x=>by simp only[Zq110,mC,mB,mS,mO,mN];kernel_rfl)
end Zq110
def Zq111.B (x:Inode_) (v:List Entry_) (v2:Int) (v3:Int):Option (Int⊕((Int⊕Unit))):=
 cond (decide (v3<v2)) (cond (inB v3 v.length) ((Zq110 (v.getD v3.toNat zEntry_).1).bind fun r=>cond (r != 0) (some (.inr (.inl r))) ((Zq81 (v.getD v3.toNat zEntry_).2.1 0 9).bind fun r2=>cond (!r2) (some (.inr (.inl 3))) (cond (cond (decide (v3>0)) (inB (w64 (v3-1)) x.2.2.2.2.1.length) true) ((some (cond (decide (v3>0)) (!leB (x.2.2.2.2.1.getD (w64 (v3-1)).toNat zEntry_).1 (v.getD v3.toNat zEntry_).1) false)).bind fun v4=>cond v4 (some (.inr (.inl 1))) (some (.inl (w64 (v3+1))))) none))) none) (some (.inr (.inr ())))
def Zq111 (x:Inode_) (v:List Entry_) (v2:Int):Int→Option ((Int⊕Unit)):=
 loopL fun s=>Zq111.B x v v2 s
def Zq112 (x:Inode_):Option Int:=
 cond (decide ((x.2.2.2.2.1.length:Int)>6)) (some 2) ((Zq111 x x.2.2.2.2.1 (x.2.2.2.2.1.length:Int) 0).bind fun o=>sel o (fun b=>some b) (fun c=>some 0))
namespace Zq112
def G:Gam:=mkG [(120,Zq110.FS),(77,Zq81.FS)]
theorem Gok:GOk PR G:=.cons Zq110.ok (.cons Zq81.ok .nil)
end Zq112
namespace Zq111
def c:=codeAt (bodyOf Proofs.Tryz.f106) [1,1,0,1,0,0]
def sp:SP:=⟨[(1,.pt tInode_),(11,.cs (.sl tEntry_)),(12,.cs I64),(13,.cs I64)],[]⟩
def out (x:Inode_) (v:List Entry_) (v2:Int):FOut ((Int⊕Unit)):=fun oo0 _ kk0=>sel oo0 (fun bb0=>kk0 (.rt) ⟨[(2,.cs I64 bb0)],[]⟩) (fun cc0=>kk0 (.ex 0) ⟨[],[]⟩)
def fr:=lfrag sp (fun x=>Zq111 x.1.1 x.1.2.1 x.1.2.2.1 x.1.2.2.2.1) fun x=>out x.1.1 x.1.2.1 x.1.2.2.1
theorem ok:CodeOk PR 43 1 (.loop c) fr:=
 lp_ok tbok hmix ⟨[1],[],[],0⟩ .no (G:=Zq112.G) Zq112.Gok (L:=mkL []) (l:=[]) hT [1,11,12,13] [] [(0,([],[]))] ([2],[]) (fun x s=>B x.1.1 x.1.2.1 x.1.2.2.1 s) (fun x s=>⟨[(1,.pt tInode_ x.1.1),(11,.cs (.sl tEntry_) x.1.2.1),(12,.cs I64 x.1.2.2.1),(13,.cs I64 s)],[]⟩) (fun x=>x.1.2.2.2.1)
  (fun x s=>by simp only[B,mC,mB,mS,mO,mN];kernel_rfl)
end Zq111
namespace Zq112
def pts:List PT:=[.cs tInode_]
def FS:FS:=mkFS [.sh] pts (fun x=>Zq112 x.1) fun t=>⟨[.cs I64 t],[]⟩
theorem ok:FsOk PR 106 FS:=
 fn_ok tbok hmix Proofs.Tryz.f106 ⟨[1],[],[],0⟩ (.R (.R (.L (.R (.one (.fr 0)))))) (G:=G) Gok (L:=mkL [(0,Zq111.fr)]) (l:=[(0,.loop Zq111.c)]) ⟨Lam.cons Zq111.ok,trivial⟩
  (fun x=>by simp only[Zq112,mC,mB,mS,mO,mN];kernel_rfl)
end Zq112
def Zq113 (x:Inode_):Option Int:=
 (some (cond (cond (x.2.1 == 0) (x.2.2.1 == 0) false) ((x.2.2.2.1.length:Int) == 0) false)).bind fun v=>(Zq81 x.1 0 2).bind fun r=>cond (!r) (some 1) (cond (cond (x.1 != 1) (!v) false) (some 1) ((some (cond (x.1 != 2) (!((x.2.2.2.2.1.length:Int) == 0)) false)).bind fun v2=>cond v2 (some 1) (cond (x.1 == 1) ((Zq108 x).bind fun r2=>some r2) ((Zq112 x).bind fun r3=>some r3))))
namespace Zq113
def G:Gam:=mkG [(77,Zq81.FS),(105,Zq108.FS),(106,Zq112.FS)]
def pts:List PT:=[.cs tInode_]
def FS:FS:=mkFS [.sh] pts (fun x=>Zq113 x.1) fun t=>⟨[.cs I64 t],[]⟩
theorem ok:FsOk PR 81 FS:=
 fn_ok tbok hmix Proofs.Tryz.f81 ⟨[1],[],[],0⟩ .no (G:=G) (show GOk PR G from .cons Zq81.ok (.cons Zq108.ok (.cons Zq112.ok .nil))) (L:=mkL []) (l:=[]) hT
  (fun x=>by simp only[Zq113,mC,mB,mS,mO,mN];kernel_rfl)
end Zq113
def Zq114 (l:List Entry_):Option Int:=
 some (l.length:Int)
namespace Zq114
def pts:List PT:=[.cs (.sl tEntry_)]
def FS:FS:=mkFS [.sh] pts (fun x=>Zq114 x.1) fun t=>⟨[.cs I64 t],[]⟩
theorem ok:FsOk PR 107 FS:=
 fn_ok tbok hmix Proofs.Tryz.f107 h0 .no (G:=(mkG [])) .nil (L:=mkL []) (l:=[]) hT
  (fun x=>by simp only[Zq114,mC,mB,mS,mO,mN];kernel_rfl)
end Zq114
def Zq115.B (v:List Entry_) (v2:Int) (v3:Int) (v5:Int) (e_:Entry_) (v6:Int) (words_2:List Int):Option ((Int×List Int)⊕(List Int)):=
 cond (decide (v6<v5)) (cond (inB v6 e_.1.length) ((some (words_2++([w64 (((e_.1.getD v6.toNat 0).toNat:Int))]))).bind fun v7=>cond (decide (v7.length≤2147483648)) (some (.inl (w64 (v6+1),v7))) none) none) (some (.inr words_2))
def Zq115 (v:List Entry_) (v2:Int) (v3:Int) (v5:Int) (e_:Entry_):(Int×List Int)→Option (List Int):=
 loopL fun s=>Zq115.B v v2 v3 v5 e_ s.1 s.2
def Zq116.B (v:List Entry_) (v2:Int) (v3:Int) (words_:List Int):Option ((Int×List Int)⊕(List Int)):=
 cond (decide (v3<v2)) (cond (inB v3 v.length) ((some (words_++([(v.getD v3.toNat zEntry_).2.1,((v.getD v3.toNat zEntry_).1.length:Int)]))).bind fun v4=>cond (decide (v4.length≤2147483648)) ((Zq115 v v2 v3 ((v.getD v3.toNat zEntry_).1.length:Int) (v.getD v3.toNat zEntry_) (0,v4)).bind fun o=>some (.inl (w64 (v3+1),o))) none) none) (some (.inr words_))
def Zq116 (v:List Entry_) (v2:Int):(Int×List Int)→Option (List Int):=
 loopL fun s=>Zq116.B v v2 s.1 s.2
def Zq117 (x:Inode_):Option (List Int):=
 cond (decide ((([x.1,x.2.1,x.2.2.1])++x.2.2.2.1).length≤2147483648)) (cond (x.1 != 2) (some (([x.1,x.2.1,x.2.2.1])++x.2.2.2.1)) ((Zq114 x.2.2.2.2.1).bind fun r=>cond (decide (((([x.1,x.2.1,x.2.2.1])++x.2.2.2.1)++([r])).length≤2147483648)) ((Zq116 x.2.2.2.2.1 (x.2.2.2.2.1.length:Int) (0,(([x.1,x.2.1,x.2.2.1])++x.2.2.2.1)++([r]))).bind fun o2=>some o2) none)) none
namespace Zq117
def G:Gam:=mkG [(107,Zq114.FS)]
theorem Gok:GOk PR G:=.cons Zq114.ok .nil
end Zq117
namespace Zq115
def c:=codeAt (bodyOf Proofs.Tryz.f83) [1,1,1,1,0,1,0,0,1,1,0,0,1,1,1,0,0]
def sp:SP:=⟨[(3,.seg 3 []),(5,.loc 5 []),(28,.cs (.sl tEntry_)),(29,.cs I64),(30,.cs I64),(44,.cs I64),(45,.cs I64)],[(3,.reg,.cd SI),(5,.mem,.cd tEntry_)]⟩
def out (v:List Entry_) (v2:Int) (v3:Int) (v5:Int) (e_:Entry_):FOut (List Int):=fun bb0 _ kk0=>kk0 (.ex 2) ⟨[(3,.seg 3 []),(28,.cs (.sl tEntry_) v),(29,.cs I64 v2),(30,.cs I64 v3)],[sr 3 (.cd SI bb0)]⟩
def fr:=lfrag sp (fun x=>Zq115 x.1.2.2.1 x.1.2.2.2.1 x.1.2.2.2.2.1 x.1.2.2.2.2.2.1 x.2.2.1 (x.1.2.2.2.2.2.2.1,x.2.1)) fun x=>out x.1.2.2.1 x.1.2.2.2.1 x.1.2.2.2.2.1 x.1.2.2.2.2.2.1 x.2.2.1
theorem ok:CodeOk PR 59 1 (.loop c) fr:=
 lp_ok tbok hmix ⟨[1],[],[],0⟩ .no (G:=Zq117.G) Zq117.Gok (L:=mkL []) (l:=[]) hT [3,5,28,29,30,44,45] [3,5] [(2,([3,28,29,30],[3]))] ([],[]) (fun x s=>B x.1.2.2.1 x.1.2.2.2.1 x.1.2.2.2.2.1 x.1.2.2.2.2.2.1 x.2.2.1 s.1 s.2) (fun x s=>⟨[(3,.seg 3 []),(5,.loc 5 []),(28,.cs (.sl tEntry_) x.1.2.2.1),(29,.cs I64 x.1.2.2.2.1),(30,.cs I64 x.1.2.2.2.2.1),(44,.cs I64 x.1.2.2.2.2.2.1),(45,.cs I64 s.1)],[sr 3 (.cd SI s.2),(5,some ⟨.mem,.cd tEntry_ x.2.2.1⟩)]⟩) (fun x=>(x.1.2.2.2.2.2.2.1,x.2.1))
  (fun x s=>by simp only[B,mC,mB,mS,mO,mN];kernel_rfl)
end Zq115
namespace Zq116
def c:=codeAt (bodyOf Proofs.Tryz.f83) [1,1,1,1,0,1,0,0]
def sp:SP:=⟨[(3,.seg 3 []),(28,.cs (.sl tEntry_)),(29,.cs I64),(30,.cs I64)],[(3,.reg,.cd SI)]⟩
def out (v:List Entry_) (v2:Int):FOut (List Int):=fun bb0 _ kk0=>kk0 (.ex 0) ⟨[(3,.seg 3 [])],[sr 3 (.cd SI bb0)]⟩
def fr:=lfrag sp (fun x=>Zq116 x.1.2.1 x.1.2.2.1 (x.1.2.2.2.1,x.2.1)) fun x=>out x.1.2.1 x.1.2.2.1
theorem ok:CodeOk PR 59 1 (.loop c) fr:=
 lp_ok tbok hmix ⟨[1],[],[],0⟩ (.R (.R (.L (.one (.R (.R (.R (.one (.fr 1))))))))) (G:=Zq117.G) Zq117.Gok (L:=mkL [(1,Zq115.fr)]) (l:=[(1,.loop Zq115.c)]) ⟨Lam.cons Zq115.ok,trivial⟩ [3,28,29,30] [3] [(0,([3],[3]))] ([],[]) (fun x s=>B x.1.2.1 x.1.2.2.1 s.1 s.2) (fun x s=>⟨[(3,.seg 3 []),(28,.cs (.sl tEntry_) x.1.2.1),(29,.cs I64 x.1.2.2.1),(30,.cs I64 s.1)],[sr 3 (.cd SI s.2)]⟩) (fun x=>(x.1.2.2.2.1,x.2.1))
  (fun x s=>by simp only[B,mC,mB,mS,mO,mN];kernel_rfl)
end Zq116
namespace Zq117
def pts:List PT:=[.cs tInode_]
def FS:FS:=mkFS [.sh] pts (fun x=>Zq117 x.1) fun t=>⟨[.cd SI t],[]⟩
theorem ok:FsOk PR 83 FS:=
 fn_ok tbok hmix Proofs.Tryz.f83 ⟨[1],[],[],0⟩ (.R (.R (.R (.R (.L (.R (.one (.fr 0)))))))) (G:=G) Gok (L:=mkL [(1,Zq115.fr),(0,Zq116.fr)]) (l:=[(0,.loop Zq116.c)]) ⟨Lam.skip rfl (Lam.cons Zq116.ok),trivial⟩
  (fun x=>by simp only[Zq117,mC,mB,mS,mO,mN];kernel_rfl)
end Zq117
def Zq118.B (s1:List Int) (s2:List Int) (v:Int) (v2:Int):Option (Int⊕((Bool⊕Unit))):=
 cond (decide (v2<v)) (cond (inB v2 s1.length) (cond (inB v2 s2.length) (cond ((s1.getD v2.toNat 0) != (s2.getD v2.toNat 0)) (some (.inr (.inl false))) (some (.inl (w64 (v2+1))))) none) none) (some (.inr (.inr ())))
def Zq118 (s1:List Int) (s2:List Int) (v:Int):Int→Option ((Bool⊕Unit)):=
 loopL fun s=>Zq118.B s1 s2 v s
def Zq119 (s1:List Int) (s2:List Int):Option Bool:=
 cond ((s1.length:Int) != (s2.length:Int)) (some false) ((Zq118 s1 s2 (s1.length:Int) 0).bind fun o=>sel o (fun b=>some b) (fun c=>some true))
namespace Zq118
def c:=codeAt (bodyOf Proofs.Tryz.f82) [1,1,0,1,0,0]
def sp:SP:=⟨[(0,.cs SI),(1,.cs SI),(12,.cs I64),(13,.cs I64)],[]⟩
def out (s1:List Int) (s2:List Int) (v:Int):FOut ((Bool⊕Unit)):=fun oo0 _ kk0=>sel oo0 (fun bb0=>kk0 (.rt) ⟨[(4,.cs .bool bb0)],[]⟩) (fun cc0=>kk0 (.ex 0) ⟨[],[]⟩)
def fr:=lfrag sp (fun x=>Zq118 x.1.1 x.1.2.1 x.1.2.2.1 x.1.2.2.2.1) fun x=>out x.1.1 x.1.2.1 x.1.2.2.1
theorem ok:CodeOk PR 26 2 (.loop c) fr:=
 lp_ok tbok hmix h0 .no (G:=(mkG [])) .nil (L:=mkL []) (l:=[]) hT [0,1,12,13] [] [(0,([],[]))] ([4],[]) (fun x s=>B x.1.1 x.1.2.1 x.1.2.2.1 s) (fun x s=>⟨[(0,.cs SI x.1.1),(1,.cs SI x.1.2.1),(12,.cs I64 x.1.2.2.1),(13,.cs I64 s)],[]⟩) (fun x=>x.1.2.2.2.1)
  (fun x s=>by simp only[B,mC,mB,mS,mO,mN];kernel_rfl)
end Zq118
namespace Zq119
def pts:List PT:=[.cs SI,.cs SI]
def FS:FS:=mkFS [.sh,.sh] pts (fun x=>Zq119 x.1 x.2.1) fun t=>⟨[.cs .bool t],[]⟩
theorem ok:FsOk PR 82 FS:=
 fn_ok tbok hmix Proofs.Tryz.f82 h0 (.R (.R (.L (.R (.one (.fr 0)))))) (G:=(mkG [])) .nil (L:=mkL [(0,Zq118.fr)]) (l:=[(0,.loop Zq118.c)]) ⟨Lam.cons Zq118.ok,trivial⟩
  (fun x=>by simp only[Zq119,mC,mB,mS,mO,mN];kernel_rfl)
end Zq119
def Zq120 (words:List Int):Option (Inode_×Int):=
 (Zq86 words).bind fun r=>cond (cond (r != 0) true ((words.length:Int) == 0)) (some ((0,0,0,[],[],()),r)) ((Zq98 words).bind fun r2=>cond (!r2.2) (some ((0,0,0,[],[],()),5)) ((Zq113 (r2.1.1,r2.1.2.1,r2.1.2.2.1,r2.1.2.2.2.1,r2.1.2.2.2.2.1,r2.1.2.2.2.2.2)).bind fun r3=>cond (r3 != 0) (some ((0,0,0,[],[],()),5)) ((Zq117 (r2.1.1,r2.1.2.1,r2.1.2.2.1,r2.1.2.2.2.1,r2.1.2.2.2.2.1,r2.1.2.2.2.2.2)).bind fun r4=>(Zq119 r4 words).bind fun r5=>cond (!r5) (some ((0,0,0,[],[],()),5)) (some ((r2.1.1,r2.1.2.1,r2.1.2.2.1,r2.1.2.2.2.1,r2.1.2.2.2.2.1,r2.1.2.2.2.2.2),0)))))
namespace Zq120
def G:Gam:=mkG [(76,Zq86.FS),(80,Zq98.FS),(81,Zq113.FS),(83,Zq117.FS),(82,Zq119.FS)]
def pts:List PT:=[.cs SI]
def FS:FS:=mkFS [.sh] pts (fun x=>Zq120 x.1) fun t=>⟨[.cd tInode_ t.1,.cs I64 t.2],[]⟩
theorem ok:FsOk PR 52 FS:=
 fn_ok tbok hmix Proofs.Tryz.f52 h0 .no (G:=G) (show GOk PR G from .cons Zq86.ok (.cons Zq98.ok (.cons Zq113.ok (.cons Zq117.ok (.cons Zq119.ok .nil))))) (L:=mkL []) (l:=[]) hT
  (fun x=>by simp only[Zq120,mC,mB,mS,mO,mN];kernel_rfl)
end Zq120
def Zq121.B (list:List Inode_) (v:Int) (v2:Int):Option (Int⊕((Int⊕Unit))):=
 cond (decide (v2<v)) (cond (inB v2 list.length) ((Zq113 (list.getD v2.toNat zInode_)).bind fun r=>cond (r != 0) (some (.inr (.inl r))) (some (.inl (w64 (v2+1))))) none) (some (.inr (.inr ())))
def Zq121 (list:List Inode_) (v:Int):Int→Option ((Int⊕Unit)):=
 loopL fun s=>Zq121.B list v s
def Zq122 (list:List Inode_):Option Int:=
 cond (decide ((list.length:Int)>10)) (some 2) ((Zq121 list (list.length:Int) 0).bind fun o=>sel o (fun b=>some b) (fun c=>some 0))
namespace Zq122
def G:Gam:=mkG [(81,Zq113.FS)]
theorem Gok:GOk PR G:=.cons Zq113.ok .nil
end Zq122
namespace Zq121
def c:=codeAt (bodyOf Proofs.Tryz.f108) [1,1,0,1,0,0]
def sp:SP:=⟨[(9,.cs (.sl tInode_)),(10,.cs I64),(11,.cs I64)],[]⟩
def out (list:List Inode_) (v:Int):FOut ((Int⊕Unit)):=fun oo0 _ kk0=>sel oo0 (fun bb0=>kk0 (.rt) ⟨[(2,.cs I64 bb0)],[]⟩) (fun cc0=>kk0 (.ex 0) ⟨[],[]⟩)
def fr:=lfrag sp (fun x=>Zq121 x.1.1 x.1.2.1 x.1.2.2.1) fun x=>out x.1.1 x.1.2.1
theorem ok:CodeOk PR 21 1 (.loop c) fr:=
 lp_ok tbok hmix h0 .no (G:=Zq122.G) Zq122.Gok (L:=mkL []) (l:=[]) hT [9,10,11] [] [(0,([],[]))] ([2],[]) (fun x s=>B x.1.1 x.1.2.1 s) (fun x s=>⟨[(9,.cs (.sl tInode_) x.1.1),(10,.cs I64 x.1.2.1),(11,.cs I64 s)],[]⟩) (fun x=>x.1.2.2.1)
  (fun x s=>by simp only[B,mC,mB,mS,mO,mN];kernel_rfl)
end Zq121
namespace Zq122
def pts:List PT:=[.cs (.sl tInode_)]
def FS:FS:=mkFS [.sh] pts (fun x=>Zq122 x.1) fun t=>⟨[.cs I64 t],[]⟩
theorem ok:FsOk PR 108 FS:=
 fn_ok tbok hmix Proofs.Tryz.f108 h0 (.R (.R (.L (.R (.one (.fr 0)))))) (G:=G) Gok (L:=mkL [(0,Zq121.fr)]) (l:=[(0,.loop Zq121.c)]) ⟨Lam.cons Zq121.ok,trivial⟩
  (fun x=>by simp only[Zq122,mC,mB,mS,mO,mN];kernel_rfl)
end Zq122
def Zq123 (f:Fs_):Option Int:=
 (Zq122 f.1).bind fun r=>cond (r != 0) (some r) (cond (cond (!((f.1.length:Int) == 0)) (inB 0 f.1.length) true) ((some (cond ((f.1.length:Int) == 0) true ((f.1.getD (0:Int).toNat zInode_).1 != 2))).bind fun v=>cond (cond v true ((f.2.1.length:Int) != 20)) (some 1) (some 0)) none)
namespace Zq123
def G:Gam:=mkG [(108,Zq122.FS)]
def pts:List PT:=[.cs tFs_]
def FS:FS:=mkFS [.sh] pts (fun x=>Zq123 x.1) fun t=>⟨[.cs I64 t],[]⟩
theorem ok:FsOk PR 84 FS:=
 fn_ok tbok hmix Proofs.Tryz.f84 ⟨[1],[],[],0⟩ .no (G:=G) (show GOk PR G from .cons Zq122.ok .nil) (L:=mkL []) (l:=[]) hT
  (fun x=>by simp only[Zq123,mC,mB,mS,mO,mN];kernel_rfl)
end Zq123
def Zq124 (b:List Int):Option Bool:=
 some (decide ((b.length:Int)>8))
namespace Zq124
def pts:List PT:=[.cs SB]
def FS:FS:=mkFS [.sh] pts (fun x=>Zq124 x.1) fun t=>⟨[.cs .bool t],[]⟩
theorem ok:FsOk PR 86 FS:=
 fn_ok tbok hmix Proofs.Tryz.f86 h0 .no (G:=(mkG [])) .nil (L:=mkL []) (l:=[]) hT
  (fun x=>by simp only[Zq124,mC,mB,mS,mO,mN];kernel_rfl)
end Zq124
def Zq125.B (s_:List (List Int)) (f:Unit) (v:Int) (v2:Int):Option (Int⊕((Int⊕Unit))):=
 cond (decide (v2<v)) (cond (inB v2 s_.length) ((Zq124 (s_.getD v2.toNat [])).bind fun r=>cond r (some (.inr (.inl v2))) (some (.inl (w64 (v2+1))))) none) (some (.inr (.inr ())))
def Zq125 (s_:List (List Int)) (f:Unit) (v:Int):Int→Option ((Int⊕Unit)):=
 loopL fun s=>Zq125.B s_ f v s
def Zq126 (s_:List (List Int)) (f:Unit):Option Int:=
 (Zq125 s_ f (s_.length:Int) 0).bind fun o=>sel o (fun b=>some b) (fun c=>some (-1))
namespace Zq126
def G:Gam:=mkG [(86,Zq124.FS)]
theorem Gok:GOk PR G:=.cons Zq124.ok .nil
end Zq126
namespace Zq125
def c:=codeAt (bodyOf Proofs.Tryz.f109) [1,0,1,0,0]
def sp:SP:=⟨[(0,.cs (.sl SB)),(1,.clo 86 (.cs .unit)),(7,.cs I64),(8,.cs I64)],[]⟩
def out (s_:List (List Int)) (f:Unit) (v:Int):FOut ((Int⊕Unit)):=fun oo0 _ kk0=>sel oo0 (fun bb0=>kk0 (.rt) ⟨[(4,.cs I64 bb0)],[]⟩) (fun cc0=>kk0 (.ex 0) ⟨[],[]⟩)
def fr:=lfrag sp (fun x=>Zq125 x.1.1 x.1.2.1 x.1.2.2.1 x.1.2.2.2.1) fun x=>out x.1.1 x.1.2.1 x.1.2.2.1
theorem ok:CodeOk PR 19 2 (.loop c) fr:=
 lp_ok tbok hmix h0 .no (G:=Zq126.G) Zq126.Gok (L:=mkL []) (l:=[]) hT [0,1,7,8] [] [(0,([],[]))] ([4],[]) (fun x s=>B x.1.1 x.1.2.1 x.1.2.2.1 s) (fun x s=>⟨[(0,.cs (.sl SB) x.1.1),(1,.clo 86 (.cs .unit x.1.2.1)),(7,.cs I64 x.1.2.2.1),(8,.cs I64 s)],[]⟩) (fun x=>x.1.2.2.2.1)
  (fun x s=>by simp only[B,mC,mB,mS,mO,mN];kernel_rfl)
end Zq125
namespace Zq126
def pts:List PT:=[.cs (.sl SB),.clo 86 (.cs .unit)]
def FS:FS:=mkFS [.sh,.sh] pts (fun x=>Zq126 x.1 x.2.1) fun t=>⟨[.cs I64 t],[]⟩
theorem ok:FsOk PR 109 FS:=
 fn_ok tbok hmix Proofs.Tryz.f109 h0 (.R (.L (.R (.one (.fr 0))))) (G:=G) Gok (L:=mkL [(0,Zq125.fr)]) (l:=[(0,.loop Zq125.c)]) ⟨Lam.cons Zq125.ok,trivial⟩
  (fun x=>by simp only[Zq126,mC,mB,mS,mO,mN];kernel_rfl)
end Zq126
def Zq127 (s_:List (List Int)) (f:Unit):Option Bool:=
 (Zq126 s_ f).bind fun r=>some (decide (r≥0))
namespace Zq127
def G:Gam:=mkG [(109,Zq126.FS)]
def pts:List PT:=[.cs (.sl SB),.clo 86 (.cs .unit)]
def FS:FS:=mkFS [.sh,.sh] pts (fun x=>Zq127 x.1 x.2.1) fun t=>⟨[.cs .bool t],[]⟩
theorem ok:FsOk PR 85 FS:=
 fn_ok tbok hmix Proofs.Tryz.f85 h0 .no (G:=G) (show GOk PR G from .cons Zq126.ok .nil) (L:=mkL []) (l:=[]) hT
  (fun x=>by simp only[Zq127,mC,mB,mS,mO,mN];kernel_rfl)
end Zq127
noncomputable def Zq128 (s:List Int):Option (List Int):=sortP s
def Zq128.FS:FS:=mkFS [.mu] [.cl .deep (.sl (.int .i64))] (fun x=>Zq128 x.1) fun y=>⟨[],[.cl .deep (.sl (.int .i64)) y]⟩
theorem Zq128.ok:FsOk Go.Proofs.Tryz.prog 110 Zq128.FS:=
 sort_fs ⟨Go.Proofs.Tryz.f110,by kernel_rfl,by kernel_rfl,by kernel_rfl⟩ (fun blk off cap zs w h1 h2 h3=>Go.Proofs.AnyM.slices_Sort_int Go.Proofs.Tryz.sortLay blk off cap zs w h1 h2 h3) (fun p cap w=>Go.Proofs.AnyM.slices_Sort_int_none Go.Proofs.Tryz.sortLay p cap w)
def Zq129.B (s2_:Nat) (s2_2:Nat) (k_2:Int) (k2_:Int) (s_2:List Int):Option ((Int×Int×List Int)⊕(Int×List Int)):=
 cond (decide (k2_<(s2_2:Int))) (cond (inB k2_ s2_2) (cond (inB (w64 (k2_-1)) s2_2) ((some ((s_2.getD (s2_+k2_.toNat) 0) != (s_2.getD (s2_+(w64 (k2_-1)).toNat) 0))).bind fun v2=>cond v2 (cond (inB k2_ s2_2) (cond (inB k_2 s_2.length) (some (.inl (w64 (k_2+1),w64 (k2_+1),s_2.set k_2.toNat (s_2.getD (s2_+k2_.toNat) 0)))) none) none) (some (.inl (k_2,w64 (k2_+1),s_2)))) none) none) (some (.inr (k_2,s_2)))
def Zq129 (s2_:Nat) (s2_2:Nat):(Int×Int×List Int)→Option (Int×List Int):=
 loopL fun s=>Zq129.B s2_ s2_2 s.1 s.2.1 s.2.2
def Zq130.B (s_:List Int) (k_:Int):Option (Int⊕(((Nat×Nat×List Int)⊕Unit))):=
 cond (decide (k_<(s_.length:Int))) (cond (inB k_ s_.length) (cond (inB (w64 (k_-1)) s_.length) ((some ((s_.getD k_.toNat 0) == (s_.getD ((w64 (k_-1)).toNat) 0))).bind fun v=>cond v (cond (decide ((0:Int)≤k_)&&decide (k_≤(s_.length:Int))) ((Zq129 k_.toNat (s_.length-k_.toNat) (k_,1,s_)).bind fun o=>cond (decide ((0:Int)≤o.1)&&decide (o.1≤(o.2.length:Int))) ((some (splice o.2 o.1.toNat (List.replicate (o.2.length-o.1.toNat) 0))).bind fun s_3=>cond (decide ((0:Int)≤o.1)&&decide (o.1≤(s_3.length:Int))) (some (.inr (.inl (0,o.1.toNat-0,s_3)))) none) none) none) (some (.inl (w64 (k_+1))))) none) none) (some (.inr (.inr ())))
def Zq130 (s_:List Int):Int→Option (((Nat×Nat×List Int)⊕Unit)):=
 loopL fun s=>Zq130.B s_ s
def Zq131 (s_:List Int):Option (List Int):=
 cond (decide ((s_.length:Int)<2)) (some s_) ((Zq130 s_ 1).bind fun o2=>sel o2 (fun b=>some ((b.2.2.drop b.1).take b.2.1)) (fun c=>some s_))
namespace Zq129
def c:=codeAt (bodyOf Proofs.Tryz.f111) [1,1,0,1,0,0,1,0,0,1,0,1,0,1,0,0]
def sp:SP:=⟨[(0,.seg 0 []),(3,.cs I64),(4,.sub 0 []),(5,.cs I64)],[(0,.reg,.cd SI)]⟩
def out (s2_:Nat) (s2_2:Nat):FOut (Int×List Int):=fun bb0 _ kk0=>kk0 (.ex 2) ⟨[(0,.seg 0 []),(3,.cs I64 bb0.1)],[sr 0 (.cd SI bb0.2)]⟩
def fr:=lfrag sp (fun x=>Zq129 x.1.2.2.1.2.1 x.1.2.2.1.2.2 (x.1.2.1,x.1.2.2.2.1,x.2.1)) fun x=>out x.1.2.2.1.2.1 x.1.2.2.1.2.2
theorem ok:CodeOk PR 61 1 (.loop c) fr:=
 lp_ok tbok hmix h0 .no (G:=(mkG [])) .nil (L:=mkL []) (l:=[]) hT [0,3,4,5] [0] [(2,([0,3],[0]))] ([],[]) (fun x s=>B x.1.2.2.1.2.1 x.1.2.2.1.2.2 s.1 s.2.1 s.2.2) (fun x s=>⟨[(0,.seg 0 []),(3,.cs I64 s.1),(4,.sub 0 [] x.1.2.2.1.2.1 x.1.2.2.1.2.2),(5,.cs I64 s.2.1)],[sr 0 (.cd SI s.2.2)]⟩) (fun x=>(x.1.2.1,x.1.2.2.2.1,x.2.1))
  (fun x s=>by simp only[B,mC,mB,mS,mO,mN];kernel_rfl)
end Zq129
namespace Zq130
def c:=codeAt (bodyOf Proofs.Tryz.f111) [1,1,0,1,0,0]
def sp:SP:=⟨[(0,.seg 0 []),(3,.cs I64)],[(0,.reg,.cd SI)]⟩
def out (s_:List Int):FOut (((Nat×Nat×List Int)⊕Unit)):=fun oo0 _ kk0=>sel oo0 (fun bb0=>kk0 (.rt) ⟨[(2,.sub 0 [] bb0.1 bb0.2.1)],[sr 0 (.cd SI bb0.2.2)]⟩) (fun cc0=>kk0 (.ex 0) ⟨[(0,.seg 0 [])],[sr 0 (.cd SI s_)]⟩)
def fr:=lfrag sp (fun x=>Zq130 x.2.1 x.1.2.1) fun x=>out x.2.1
theorem ok:CodeOk PR 61 1 (.loop c) fr:=
 lp_ok tbok hmix h0 (.R (.L (.one (.R (.L (.R (.L (.R (.one (.fr 1)))))))))) (G:=(mkG [])) .nil (L:=mkL [(1,Zq129.fr)]) (l:=[(1,.loop Zq129.c)]) ⟨Lam.cons Zq129.ok,trivial⟩ [0,3] [0] [(0,([0],[0]))] ([2],[0]) (fun x s=>B x.2.1 s) (fun x s=>⟨[(0,.seg 0 []),(3,.cs I64 s)],[sr 0 (.cd SI x.2.1)]⟩) (fun x=>x.1.2.1)
  (fun x s=>by simp only[B,mC,mB,mS,mO,mN];kernel_rfl)
end Zq130
namespace Zq131
def pts:List PT:=[.cd SI]
def FS:FS:=mkFS [.mv] pts (fun x=>Zq131 x.1) fun t=>⟨[.cd SI t],[]⟩
theorem ok:FsOk PR 111 FS:=
 fn_ok tbok hmix Proofs.Tryz.f111 h0 (.R (.R (.L (.R (.one (.fr 0)))))) (G:=(mkG [])) .nil (L:=mkL [(1,Zq129.fr),(0,Zq130.fr)]) (l:=[(0,.loop Zq130.c)]) ⟨Lam.skip rfl (Lam.cons Zq130.ok),trivial⟩
  (fun x=>by simp only[Zq131,mC,mB,mS,mO,mN];kernel_rfl)
end Zq131
def Zq132.B (list:List Inode_) (v:Int) (v2:Int) (used_:List Int):Option ((Int×List Int)⊕(List Int)):=
 cond (decide (v2<v)) (cond (inB v2 list.length) ((some (used_++(list.getD v2.toNat zInode_).2.2.2.1)).bind fun v3=>cond (decide (v3.length≤2147483648)) (some (.inl (w64 (v2+1),v3))) none) none) (some (.inr used_))
def Zq132 (list:List Inode_) (v:Int):(Int×List Int)→Option (List Int):=
 loopL fun s=>Zq132.B list v s.1 s.2
def Zq133 (list:List Inode_):Option ((List Int)×Bool):=
 (Zq132 list (list.length:Int) (0,[])).bind fun o=>(Zq128 o).bind fun r=>(Zq94 r).bind fun r2=>(Zq131 r2).bind fun r3=>some (r,(r3.length:Int) == (r.length:Int))
namespace Zq133
def G:Gam:=mkG [(110,Zq128.FS),(104,Zq94.FS),(111,Zq131.FS)]
theorem Gok:GOk PR G:=.cons Zq128.ok (.cons Zq94.ok (.cons Zq131.ok .nil))
end Zq133
namespace Zq132
def c:=codeAt (bodyOf Proofs.Tryz.f87) [1,1,0,1,0,0]
def sp:SP:=⟨[(4,.seg 4 []),(7,.cs (.sl tInode_)),(8,.cs I64),(9,.cs I64)],[(4,.reg,.cd SI)]⟩
def out (list:List Inode_) (v:Int):FOut (List Int):=fun bb0 _ kk0=>kk0 (.ex 0) ⟨[(4,.seg 4 [])],[sr 4 (.cd SI bb0)]⟩
def fr:=lfrag sp (fun x=>Zq132 x.1.2.1 x.1.2.2.1 (x.1.2.2.2.1,x.2.1)) fun x=>out x.1.2.1 x.1.2.2.1
theorem ok:CodeOk PR 28 1 (.loop c) fr:=
 lp_ok tbok hmix h0 .no (G:=Zq133.G) Zq133.Gok (L:=mkL []) (l:=[]) hT [4,7,8,9] [4] [(0,([4],[4]))] ([],[]) (fun x s=>B x.1.2.1 x.1.2.2.1 s.1 s.2) (fun x s=>⟨[(4,.seg 4 []),(7,.cs (.sl tInode_) x.1.2.1),(8,.cs I64 x.1.2.2.1),(9,.cs I64 s.1)],[sr 4 (.cd SI s.2)]⟩) (fun x=>(x.1.2.2.2.1,x.2.1))
  (fun x s=>by simp only[B,mC,mB,mS,mO,mN];kernel_rfl)
end Zq132
namespace Zq133
def pts:List PT:=[.cs (.sl tInode_)]
def FS:FS:=mkFS [.sh] pts (fun x=>Zq133 x.1) fun t=>⟨[.cd SI t.1,.cs .bool t.2],[]⟩
theorem ok:FsOk PR 87 FS:=
 fn_ok tbok hmix Proofs.Tryz.f87 h0 (.R (.R (.L (.R (.one (.fr 0)))))) (G:=G) Gok (L:=mkL [(0,Zq132.fr)]) (l:=[(0,.loop Zq132.c)]) ⟨Lam.cons Zq132.ok,trivial⟩
  (fun x=>by simp only[Zq133,mC,mB,mS,mO,mN];kernel_rfl)
end Zq133
def Zq134 (l:List Inode_):Option Int:=
 some (l.length:Int)
namespace Zq134
def pts:List PT:=[.cs (.sl tInode_)]
def FS:FS:=mkFS [.sh] pts (fun x=>Zq134 x.1) fun t=>⟨[.cs I64 t],[]⟩
theorem ok:FsOk PR 88 FS:=
 fn_ok tbok hmix Proofs.Tryz.f88 h0 .no (G:=(mkG [])) .nil (L:=mkL []) (l:=[]) hT
  (fun x=>by simp only[Zq134,mC,mB,mS,mO,mN];kernel_rfl)
end Zq134
def Zq135.B (f:Fs_) (v:List Inode_) (v2:Int) (v3:Int) (v5:List Entry_) (v4:Int) (v6:Int):Option (Int⊕((Int⊕Unit))):=
 cond (decide (v6<v4)) (cond (inB v6 v5.length) ((Zq134 f.1).bind fun r4=>cond (cond (!(decide ((v5.getD v6.toNat zEntry_).2.1≥r4))) (inB (v5.getD v6.toNat zEntry_).2.1 f.1.length) true) ((some (cond (decide ((v5.getD v6.toNat zEntry_).2.1≥r4)) true ((f.1.getD (v5.getD v6.toNat zEntry_).2.1.toNat zInode_).1 == 0))).bind fun v7=>cond v7 (some (.inr (.inl 4))) (some (.inl (w64 (v6+1))))) none) none) (some (.inr (.inr ())))
def Zq135 (f:Fs_) (v:List Inode_) (v2:Int) (v3:Int) (v5:List Entry_) (v4:Int):Int→Option ((Int⊕Unit)):=
 loopL fun s=>Zq135.B f v v2 v3 v5 v4 s
def Zq136.B (f:Fs_) (v:List Inode_) (v2:Int) (v3:Int):Option (Int⊕((Int⊕Unit))):=
 cond (decide (v3<v2)) (cond (inB v3 v.length) ((some ((v.getD v3.toNat zInode_).2.2.2.2.1.length:Int)).bind fun v4=>(Zq135 f v v2 v3 (v.getD v3.toNat zInode_).2.2.2.2.1 v4 0).bind fun o=>sel o (fun b=>some (.inr (.inl b))) (fun c=>some (.inl (w64 (v3+1))))) none) (some (.inr (.inr ())))
def Zq136 (f:Fs_) (v:List Inode_) (v2:Int):Int→Option ((Int⊕Unit)):=
 loopL fun s=>Zq136.B f v v2 s
def Zq137 (f:Fs_):Option Int:=
 (Zq123 f).bind fun r=>cond (r != 0) (some r) ((Zq127 f.2.1 ()).bind fun r2=>cond r2 (some 2) ((Zq133 f.1).bind fun r3=>cond (!r3.2) (some 7) ((Zq136 f f.1 (f.1.length:Int) 0).bind fun o2=>sel o2 (fun b2=>some b2) (fun c2=>some 0))))
namespace Zq137
def G:Gam:=mkG [(84,Zq123.FS),(85,Zq127.FS),(87,Zq133.FS),(88,Zq134.FS)]
theorem Gok:GOk PR G:=.cons Zq123.ok (.cons Zq127.ok (.cons Zq133.ok (.cons Zq134.ok .nil)))
end Zq137
namespace Zq135
def c:=codeAt (bodyOf Proofs.Tryz.f53) [1,1,1,1,0,1,0,0,1,1,0,0,1,1,0,0]
def sp:SP:=⟨[(1,.pt tFs_),(27,.cs (.sl tInode_)),(28,.cs I64),(29,.cs I64),(34,.cs (.sl tEntry_)),(35,.cs I64),(36,.cs I64)],[]⟩
def out (f:Fs_) (v:List Inode_) (v2:Int) (v3:Int) (v5:List Entry_) (v4:Int):FOut ((Int⊕Unit)):=fun oo0 _ kk0=>sel oo0 (fun bb0=>kk0 (.rt) ⟨[(2,.cs I64 bb0)],[]⟩) (fun cc0=>kk0 (.ex 2) ⟨[(1,.pt tFs_ f),(27,.cs (.sl tInode_) v),(28,.cs I64 v2),(29,.cs I64 v3)],[]⟩)
def fr:=lfrag sp (fun x=>Zq135 x.1.1 x.1.2.1 x.1.2.2.1 x.1.2.2.2.1 x.1.2.2.2.2.1 x.1.2.2.2.2.2.1 x.1.2.2.2.2.2.2.1) fun x=>out x.1.1 x.1.2.1 x.1.2.2.1 x.1.2.2.2.1 x.1.2.2.2.2.1 x.1.2.2.2.2.2.1
theorem ok:CodeOk PR 58 1 (.loop c) fr:=
 lp_ok tbok hmix ⟨[1],[],[],0⟩ .no (G:=Zq137.G) Zq137.Gok (L:=mkL []) (l:=[]) hT [1,27,28,29,34,35,36] [] [(2,([1,27,28,29],[]))] ([2],[]) (fun x s=>B x.1.1 x.1.2.1 x.1.2.2.1 x.1.2.2.2.1 x.1.2.2.2.2.1 x.1.2.2.2.2.2.1 s) (fun x s=>⟨[(1,.pt tFs_ x.1.1),(27,.cs (.sl tInode_) x.1.2.1),(28,.cs I64 x.1.2.2.1),(29,.cs I64 x.1.2.2.2.1),(34,.cs (.sl tEntry_) x.1.2.2.2.2.1),(35,.cs I64 x.1.2.2.2.2.2.1),(36,.cs I64 s)],[]⟩) (fun x=>x.1.2.2.2.2.2.2.1)
  (fun x s=>by simp only[B,mC,mB,mS,mO,mN];kernel_rfl)
end Zq135
namespace Zq136
def c:=codeAt (bodyOf Proofs.Tryz.f53) [1,1,1,1,0,1,0,0]
def sp:SP:=⟨[(1,.pt tFs_),(27,.cs (.sl tInode_)),(28,.cs I64),(29,.cs I64)],[]⟩
def out (f:Fs_) (v:List Inode_) (v2:Int):FOut ((Int⊕Unit)):=fun oo0 _ kk0=>sel oo0 (fun bb0=>kk0 (.rt) ⟨[(2,.cs I64 bb0)],[]⟩) (fun cc0=>kk0 (.ex 0) ⟨[],[]⟩)
def fr:=lfrag sp (fun x=>Zq136 x.1.1 x.1.2.1 x.1.2.2.1 x.1.2.2.2.1) fun x=>out x.1.1 x.1.2.1 x.1.2.2.1
theorem ok:CodeOk PR 58 1 (.loop c) fr:=
 lp_ok tbok hmix ⟨[1],[],[],0⟩ (.R (.R (.L (.one (.R (.R (.one (.fr 1)))))))) (G:=Zq137.G) Zq137.Gok (L:=mkL [(1,Zq135.fr)]) (l:=[(1,.loop Zq135.c)]) ⟨Lam.cons Zq135.ok,trivial⟩ [1,27,28,29] [] [(0,([],[]))] ([2],[]) (fun x s=>B x.1.1 x.1.2.1 x.1.2.2.1 s) (fun x s=>⟨[(1,.pt tFs_ x.1.1),(27,.cs (.sl tInode_) x.1.2.1),(28,.cs I64 x.1.2.2.1),(29,.cs I64 s)],[]⟩) (fun x=>x.1.2.2.2.1)
  (fun x s=>by simp only[B,mC,mB,mS,mO,mN];kernel_rfl)
end Zq136
namespace Zq137
def pts:List PT:=[.cs tFs_]
def FS:FS:=mkFS [.sh] pts (fun x=>Zq137 x.1) fun t=>⟨[.cs I64 t],[]⟩
theorem ok:FsOk PR 53 FS:=
 fn_ok tbok hmix Proofs.Tryz.f53 ⟨[1],[],[],0⟩ (.R (.R (.R (.R (.L (.R (.one (.fr 0)))))))) (G:=G) Gok (L:=mkL [(1,Zq135.fr),(0,Zq136.fr)]) (l:=[(0,.loop Zq136.c)]) ⟨Lam.skip rfl (Lam.cons Zq136.ok),trivial⟩
  (fun x=>by simp only[Zq137,mC,mB,mS,mO,mN];kernel_rfl)
end Zq137
def Zq138.B (list:List Inode_) (v:Int) (v2:Int) (v5:List Int) (v4:Int) (v3:List Int) (x_:Inode_) (v6:Int) (out_2:List Int):Option ((Int×List Int)⊕(List Int)):=
 cond (decide (v6<v4)) (cond (inB v6 v5.length) ((some (cond (decide ((w64 (x_.2.2.1-(w64 (v6*8))))<8)) (w64 (x_.2.2.1-(w64 (v6*8)))) 8)).bind fun v7=>cond (inB (v5.getD v6.toNat 0) 20) (some (.inl (w64 (v6+1),out_2.set ((v5.getD v6.toNat 0).toNat) v7))) none) none) (some (.inr out_2))
def Zq138 (list:List Inode_) (v:Int) (v2:Int) (v5:List Int) (v4:Int) (v3:List Int) (x_:Inode_):(Int×List Int)→Option (List Int):=
 loopL fun s=>Zq138.B list v v2 v5 v4 v3 x_ s.1 s.2
def Zq139.B (list:List Inode_) (v:Int) (v3:List Int) (v2:Int) (out_:List Int):Option ((Int×List Int)⊕(List Int)):=
 cond (decide (v2<v)) (cond (inB v2 list.length) ((some ((list.getD v2.toNat zInode_).2.2.2.1.length:Int)).bind fun v4=>(Zq138 list v v2 (list.getD v2.toNat zInode_).2.2.2.1 v4 v3 (list.getD v2.toNat zInode_) (0,out_)).bind fun o=>some (.inl (w64 (v2+1),o))) none) (some (.inr out_))
def Zq139 (list:List Inode_) (v:Int) (v3:List Int):(Int×List Int)→Option (List Int):=
 loopL fun s=>Zq139.B list v v3 s.1 s.2
def Zq140 (list:List Inode_):Option (List Int):=
 (Zq139 list (list.length:Int) (List.replicate 20 0) (0,(List.replicate 20 0))).bind fun o2=>some o2
namespace Zq138
def c:=codeAt (bodyOf Proofs.Tryz.f54) [1,1,0,1,0,0,1,1,0,0,1,1,0,0]
def sp:SP:=⟨[(2,.loc 2 []),(3,.loc 3 []),(5,.loc 5 []),(8,.cs (.sl tInode_)),(9,.cs I64),(10,.cs I64),(15,.cs SI),(16,.cs I64),(17,.cs I64)],[(2,.mem,.cd (.arr 20 I64)),(3,.mem,.cd (.arr 20 I64)),(5,.mem,.cs tInode_)]⟩
def out (list:List Inode_) (v:Int) (v2:Int) (v5:List Int) (v4:Int) (v3:List Int) (x_:Inode_):FOut (List Int):=fun bb0 _ kk0=>kk0 (.ex 2) ⟨[(2,.loc 2 []),(3,.loc 3 []),(8,.cs (.sl tInode_) list),(9,.cs I64 v),(10,.cs I64 v2)],[(2,some ⟨.mem,.cd (.arr 20 I64) v3⟩),(3,some ⟨.mem,.cd (.arr 20 I64) bb0⟩)]⟩
def fr:=lfrag sp (fun x=>Zq138 x.1.2.2.2.1 x.1.2.2.2.2.1 x.1.2.2.2.2.2.1 x.1.2.2.2.2.2.2.1 x.1.2.2.2.2.2.2.2.1 x.2.1 x.2.2.2.1 (x.1.2.2.2.2.2.2.2.2.1,x.2.2.1)) fun x=>out x.1.2.2.2.1 x.1.2.2.2.2.1 x.1.2.2.2.2.2.1 x.1.2.2.2.2.2.2.1 x.1.2.2.2.2.2.2.2.1 x.2.1 x.2.2.2.1
theorem ok:CodeOk PR 33 1 (.loop c) fr:=
 lp_ok tbok hmix h0 .no (G:=(mkG [])) .nil (L:=mkL []) (l:=[]) hT [2,3,5,8,9,10,15,16,17] [2,3,5] [(2,([2,3,8,9,10],[2,3]))] ([],[]) (fun x s=>B x.1.2.2.2.1 x.1.2.2.2.2.1 x.1.2.2.2.2.2.1 x.1.2.2.2.2.2.2.1 x.1.2.2.2.2.2.2.2.1 x.2.1 x.2.2.2.1 s.1 s.2) (fun x s=>⟨[(2,.loc 2 []),(3,.loc 3 []),(5,.loc 5 []),(8,.cs (.sl tInode_) x.1.2.2.2.1),(9,.cs I64 x.1.2.2.2.2.1),(10,.cs I64 x.1.2.2.2.2.2.1),(15,.cs SI x.1.2.2.2.2.2.2.1),(16,.cs I64 x.1.2.2.2.2.2.2.2.1),(17,.cs I64 s.1)],[(2,some ⟨.mem,.cd (.arr 20 I64) x.2.1⟩),(3,some ⟨.mem,.cd (.arr 20 I64) s.2⟩),(5,some ⟨.mem,.cs tInode_ x.2.2.2.1⟩)]⟩) (fun x=>(x.1.2.2.2.2.2.2.2.2.1,x.2.2.1))
  (fun x s=>by simp only[B,mC,mB,mS,mO,mN];kernel_rfl)
end Zq138
namespace Zq139
def c:=codeAt (bodyOf Proofs.Tryz.f54) [1,1,0,1,0,0]
def sp:SP:=⟨[(2,.loc 2 []),(3,.loc 3 []),(8,.cs (.sl tInode_)),(9,.cs I64),(10,.cs I64)],[(2,.mem,.cd (.arr 20 I64)),(3,.mem,.cd (.arr 20 I64))]⟩
def out (list:List Inode_) (v:Int) (v3:List Int):FOut (List Int):=fun bb0 _ kk0=>kk0 (.ex 0) ⟨[(2,.loc 2 []),(3,.loc 3 [])],[(2,some ⟨.mem,.cd (.arr 20 I64) v3⟩),(3,some ⟨.mem,.cd (.arr 20 I64) bb0⟩)]⟩
def fr:=lfrag sp (fun x=>Zq139 x.1.2.2.1 x.1.2.2.2.1 x.2.1 (x.1.2.2.2.2.1,x.2.2.1)) fun x=>out x.1.2.2.1 x.1.2.2.2.1 x.2.1
theorem ok:CodeOk PR 33 1 (.loop c) fr:=
 lp_ok tbok hmix h0 (.R (.R (.L (.one (.R (.R (.one (.fr 1)))))))) (G:=(mkG [])) .nil (L:=mkL [(1,Zq138.fr)]) (l:=[(1,.loop Zq138.c)]) ⟨Lam.cons Zq138.ok,trivial⟩ [2,3,8,9,10] [2,3] [(0,([2,3],[2,3]))] ([],[]) (fun x s=>B x.1.2.2.1 x.1.2.2.2.1 x.2.1 s.1 s.2) (fun x s=>⟨[(2,.loc 2 []),(3,.loc 3 []),(8,.cs (.sl tInode_) x.1.2.2.1),(9,.cs I64 x.1.2.2.2.1),(10,.cs I64 s.1)],[(2,some ⟨.mem,.cd (.arr 20 I64) x.2.1⟩),(3,some ⟨.mem,.cd (.arr 20 I64) s.2⟩)]⟩) (fun x=>(x.1.2.2.2.2.1,x.2.2.1))
  (fun x s=>by simp only[B,mC,mB,mS,mO,mN];kernel_rfl)
end Zq139
namespace Zq140
def pts:List PT:=[.cs (.sl tInode_)]
def FS:FS:=mkFS [.sh] pts (fun x=>Zq140 x.1) fun t=>⟨[.cs (.arr 20 I64) t],[]⟩
theorem ok:FsOk PR 54 FS:=
 fn_ok tbok hmix Proofs.Tryz.f54 h0 (.R (.R (.L (.R (.one (.fr 0)))))) (G:=(mkG [])) .nil (L:=mkL [(1,Zq138.fr),(0,Zq139.fr)]) (l:=[(0,.loop Zq139.c)]) ⟨Lam.skip rfl (Lam.cons Zq139.ok),trivial⟩
  (fun x=>by simp only[Zq140,mC,mB,mS,mO,mN];kernel_rfl)
end Zq140
def Zq141 (w:Int):Option Bool:=
 some (decide (w>255))
namespace Zq141
def pts:List PT:=[.cs I64]
def FS:FS:=mkFS [.sh] pts (fun x=>Zq141 x.1) fun t=>⟨[.cs .bool t],[]⟩
theorem ok:FsOk PR 57 FS:=
 fn_ok tbok hmix Proofs.Tryz.f57 h0 .no (G:=(mkG [])) .nil (L:=mkL []) (l:=[]) hT
  (fun x=>by simp only[Zq141,mC,mB,mS,mO,mN];kernel_rfl)
end Zq141
def Zq142.B (s_:List Int) (f:Unit) (v:Int) (v2:Int):Option (Int⊕((Int⊕Unit))):=
 cond (decide (v2<v)) (cond (inB v2 s_.length) ((Zq141 (s_.getD v2.toNat 0)).bind fun r=>cond r (some (.inr (.inl v2))) (some (.inl (w64 (v2+1))))) none) (some (.inr (.inr ())))
def Zq142 (s_:List Int) (f:Unit) (v:Int):Int→Option ((Int⊕Unit)):=
 loopL fun s=>Zq142.B s_ f v s
def Zq143 (s_:List Int) (f:Unit):Option Int:=
 (Zq142 s_ f (s_.length:Int) 0).bind fun o=>sel o (fun b=>some b) (fun c=>some (-1))
namespace Zq143
def G:Gam:=mkG [(57,Zq141.FS)]
theorem Gok:GOk PR G:=.cons Zq141.ok .nil
end Zq143
namespace Zq142
def c:=codeAt (bodyOf Proofs.Tryz.f89) [1,0,1,0,0]
def sp:SP:=⟨[(0,.cs SI),(1,.clo 57 (.cs .unit)),(7,.cs I64),(8,.cs I64)],[]⟩
def out (s_:List Int) (f:Unit) (v:Int):FOut ((Int⊕Unit)):=fun oo0 _ kk0=>sel oo0 (fun bb0=>kk0 (.rt) ⟨[(4,.cs I64 bb0)],[]⟩) (fun cc0=>kk0 (.ex 0) ⟨[],[]⟩)
def fr:=lfrag sp (fun x=>Zq142 x.1.1 x.1.2.1 x.1.2.2.1 x.1.2.2.2.1) fun x=>out x.1.1 x.1.2.1 x.1.2.2.1
theorem ok:CodeOk PR 19 2 (.loop c) fr:=
 lp_ok tbok hmix h0 .no (G:=Zq143.G) Zq143.Gok (L:=mkL []) (l:=[]) hT [0,1,7,8] [] [(0,([],[]))] ([4],[]) (fun x s=>B x.1.1 x.1.2.1 x.1.2.2.1 s) (fun x s=>⟨[(0,.cs SI x.1.1),(1,.clo 57 (.cs .unit x.1.2.1)),(7,.cs I64 x.1.2.2.1),(8,.cs I64 s)],[]⟩) (fun x=>x.1.2.2.2.1)
  (fun x s=>by simp only[B,mC,mB,mS,mO,mN];kernel_rfl)
end Zq142
namespace Zq143
def pts:List PT:=[.cs SI,.clo 57 (.cs .unit)]
def FS:FS:=mkFS [.sh,.sh] pts (fun x=>Zq143 x.1 x.2.1) fun t=>⟨[.cs I64 t],[]⟩
theorem ok:FsOk PR 89 FS:=
 fn_ok tbok hmix Proofs.Tryz.f89 h0 (.R (.L (.R (.one (.fr 0))))) (G:=G) Gok (L:=mkL [(0,Zq142.fr)]) (l:=[(0,.loop Zq142.c)]) ⟨Lam.cons Zq142.ok,trivial⟩
  (fun x=>by simp only[Zq143,mC,mB,mS,mO,mN];kernel_rfl)
end Zq143
def Zq144 (s_:List Int) (f:Unit):Option Bool:=
 (Zq143 s_ f).bind fun r=>some (decide (r≥0))
namespace Zq144
def G:Gam:=mkG [(89,Zq143.FS)]
def pts:List PT:=[.cs SI,.clo 57 (.cs .unit)]
def FS:FS:=mkFS [.sh,.sh] pts (fun x=>Zq144 x.1 x.2.1) fun t=>⟨[.cs .bool t],[]⟩
theorem ok:FsOk PR 56 FS:=
 fn_ok tbok hmix Proofs.Tryz.f56 h0 .no (G:=G) (show GOk PR G from .cons Zq143.ok .nil) (L:=mkL []) (l:=[]) hT
  (fun x=>by simp only[Zq144,mC,mB,mS,mO,mN];kernel_rfl)
end Zq144
def Zq145.B (list:List Inode_) (v3:List Entry_) (v2:Int) (seen_2:List Bool) (v4:Int) (open_3:List Int):Option ((Int×List Int)⊕(List Int)):=
 cond (decide (v4<v2)) (cond (inB v4 v3.length) (cond (decide ((open_3++([(v3.getD v4.toNat zEntry_).2.1])).length≤2147483648)) (some (.inl (w64 (v4+1),open_3++([(v3.getD v4.toNat zEntry_).2.1])))) none) none) (some (.inr open_3))
def Zq145 (list:List Inode_) (v3:List Entry_) (v2:Int) (seen_2:List Bool):(Int×List Int)→Option (List Int):=
 loopL fun s=>Zq145.B list v3 v2 seen_2 s.1 s.2
def Zq146.B (list:List Inode_) (seen_:List Bool) (open_:List Int):Option (((List Bool)×List Int)⊕(List Bool)):=
 cond (decide ((open_.length:Int)>0)) (cond (inB (w64 ((open_.length:Int)-1)) open_.length) ((some (open_.getD ((w64 ((open_.length:Int)-1)).toNat) 0)).bind fun v=>cond (decide ((0:Int)≤(w64 ((open_.length:Int)-1)))&&decide ((w64 ((open_.length:Int)-1))≤(open_.length:Int))) ((some ((open_.drop 0).take (((w64 ((open_.length:Int)-1)).toNat)-0))).bind fun open_2=>cond (inB v seen_.length) (cond (seen_.getD v.toNat false) (some (.inl (seen_,open_2))) (cond (inB v seen_.length) (cond (inB v list.length) ((some ((list.getD v.toNat zInode_).2.2.2.2.1.length:Int)).bind fun v2=>(Zq145 list (list.getD v.toNat zInode_).2.2.2.2.1 v2 (seen_.set v.toNat true) (0,open_2)).bind fun o=>some (.inl (seen_.set v.toNat true,o))) none) none)) none) none) none) (some (.inr seen_))
def Zq146 (list:List Inode_):((List Bool)×List Int)→Option (List Bool):=
 loopL fun s=>Zq146.B list s.1 s.2
def Zq147.B (v5:Int) (o2:List Bool) (v6:Int) (out_:List Int):Option ((Int×List Int)⊕(List Int)):=
 cond (decide (v6<v5)) (cond (inB v6 o2.length) (cond (o2.getD v6.toNat false) (cond (decide ((out_++([v6])).length≤2147483648)) (some (.inl (w64 (v6+1),out_++([v6])))) none) (some (.inl (w64 (v6+1),out_)))) none) (some (.inr out_))
def Zq147 (v5:Int) (o2:List Bool):(Int×List Int)→Option (List Int):=
 loopL fun s=>Zq147.B v5 o2 s.1 s.2
def Zq148 (list:List Inode_) (from_:Int):Option (List Int):=
 cond (decide ((0:Int)≤(list.length:Int))&&(decide ((list.length:Int)≤(list.length:Int))&&decide ((list.length:Int)≤2147483648))) ((Zq146 list (List.replicate (list.length:Int).toNat false,[from_])).bind fun o2=>(Zq147 (o2.length:Int) o2 (0,[])).bind fun o3=>some o3) none
namespace Zq145
def c:=codeAt (bodyOf Proofs.Tryz.f112) [1,1,1,0,0,0,1,0,1,1,1,1,1,0,0]
def sp:SP:=⟨[(0,.cs (.sl tInode_)),(5,.seg 5 []),(6,.seg 6 []),(43,.cs (.sl tEntry_)),(44,.cs I64),(45,.cs I64)],[(5,.reg,.cd (.sl .bool)),(6,.reg,.cd SI)]⟩
def out (list:List Inode_) (v3:List Entry_) (v2:Int) (seen_2:List Bool):FOut (List Int):=fun bb0 _ kk0=>kk0 (.ex 2) ⟨[(0,.cs (.sl tInode_) list),(5,.seg 5 []),(6,.seg 6 [])],[sr 5 (.cd (.sl .bool) seen_2),sr 6 (.cd SI bb0)]⟩
def fr:=lfrag sp (fun x=>Zq145 x.1.1 x.1.2.2.2.1 x.1.2.2.2.2.1 x.2.1 (x.1.2.2.2.2.2.1,x.2.2.1)) fun x=>out x.1.1 x.1.2.2.2.1 x.1.2.2.2.2.1 x.2.1
theorem ok:CodeOk PR 69 2 (.loop c) fr:=
 lp_ok tbok hmix h0 .no (G:=(mkG [])) .nil (L:=mkL []) (l:=[]) hT [0,5,6,43,44,45] [5,6] [(2,([0,5,6],[5,6]))] ([],[]) (fun x s=>B x.1.1 x.1.2.2.2.1 x.1.2.2.2.2.1 x.2.1 s.1 s.2) (fun x s=>⟨[(0,.cs (.sl tInode_) x.1.1),(5,.seg 5 []),(6,.seg 6 []),(43,.cs (.sl tEntry_) x.1.2.2.2.1),(44,.cs I64 x.1.2.2.2.2.1),(45,.cs I64 s.1)],[sr 5 (.cd (.sl .bool) x.2.1),sr 6 (.cd SI s.2)]⟩) (fun x=>(x.1.2.2.2.2.2.1,x.2.2.1))
  (fun x s=>by simp only[B,mC,mB,mS,mO,mN];kernel_rfl)
end Zq145
namespace Zq146
def c:=codeAt (bodyOf Proofs.Tryz.f112) [1,1,1,0,0,0]
def sp:SP:=⟨[(0,.cs (.sl tInode_)),(5,.seg 5 []),(6,.seg 6 [])],[(5,.reg,.cd (.sl .bool)),(6,.reg,.cd SI)]⟩
def out (list:List Inode_):FOut (List Bool):=fun bb0 _ kk0=>kk0 (.ex 0) ⟨[(5,.seg 5 [])],[sr 5 (.cd (.sl .bool) bb0)]⟩
def fr:=lfrag sp (fun x=>Zq146 x.1.1 (x.2.1,x.2.2.1)) fun x=>out x.1.1
theorem ok:CodeOk PR 69 2 (.loop c) fr:=
 lp_ok tbok hmix h0 (.R (.one (.R (.R (.R (.R (.R (.one (.fr 1))))))))) (G:=(mkG [])) .nil (L:=mkL [(1,Zq145.fr)]) (l:=[(1,.loop Zq145.c)]) ⟨Lam.cons Zq145.ok,trivial⟩ [0,5,6] [5,6] [(0,([5],[5]))] ([],[]) (fun x s=>B x.1.1 s.1 s.2) (fun x s=>⟨[(0,.cs (.sl tInode_) x.1.1),(5,.seg 5 []),(6,.seg 6 [])],[sr 5 (.cd (.sl .bool) s.1),sr 6 (.cd SI s.2)]⟩) (fun x=>(x.2.1,x.2.2.1))
  (fun x s=>by simp only[B,mC,mB,mS,mO,mN];kernel_rfl)
end Zq146
namespace Zq147
def c:=codeAt (bodyOf Proofs.Tryz.f112) [1,1,1,1,1,0,1,0,0]
def sp:SP:=⟨[(10,.seg 10 []),(55,.seg 5 []),(56,.cs I64),(57,.cs I64)],[(5,.reg,.cd (.sl .bool)),(10,.reg,.cd SI)]⟩
def out (v5:Int) (o2:List Bool):FOut (List Int):=fun bb0 _ kk0=>kk0 (.ex 4) ⟨[(10,.seg 10 [])],[sr 10 (.cd SI bb0)]⟩
def fr:=lfrag sp (fun x=>Zq147 x.1.2.2.1 x.2.1 (x.1.2.2.2.1,x.2.2.1)) fun x=>out x.1.2.2.1 x.2.1
theorem ok:CodeOk PR 69 2 (.loop c) fr:=
 lp_ok tbok hmix h0 .no (G:=(mkG [])) .nil (L:=mkL []) (l:=[]) hT [10,55,56,57] [5,10] [(4,([10],[10]))] ([],[]) (fun x s=>B x.1.2.2.1 x.2.1 s.1 s.2) (fun x s=>⟨[(10,.seg 10 []),(55,.seg 5 []),(56,.cs I64 x.1.2.2.1),(57,.cs I64 s.1)],[sr 5 (.cd (.sl .bool) x.2.1),sr 10 (.cd SI s.2)]⟩) (fun x=>(x.1.2.2.2.1,x.2.2.1))
  (fun x s=>by simp only[B,mC,mB,mS,mO,mN];kernel_rfl)
end Zq147
namespace Zq148
def pts:List PT:=[.cs (.sl tInode_),.cs I64]
def FS:FS:=mkFS [.sh,.sh] pts (fun x=>Zq148 x.1 x.2.1) fun t=>⟨[.cd SI t],[]⟩
theorem ok:FsOk PR 112 FS:=
 fn_ok tbok hmix Proofs.Tryz.f112 h0 (.R (.R (.R (.two (.one (.fr 0)) (.R (.L (.R (.one (.fr 2))))))))) (G:=(mkG [])) .nil (L:=mkL [(1,Zq145.fr),(0,Zq146.fr),(2,Zq147.fr)]) (l:=[(0,.loop Zq146.c),(2,.loop Zq147.c)]) ⟨Lam.skip rfl (Lam.cons Zq146.ok),Lam.skip rfl (Lam.skip rfl (Lam.cons Zq147.ok)),trivial⟩
  (fun x=>by simp only[Zq148,mC,mB,mS,mO,mN];kernel_rfl)
end Zq148
def Zq149.B (at_:Int) (list:List Inode_) (v:Int) (v2:Int) (v4:List Entry_) (v3:Int) (count_2:Int) (v5:Int):Option ((Int×Int)⊕Int):=
 cond (decide (v5<v3)) (cond (inB v5 v4.length) (cond ((v4.getD v5.toNat zEntry_).2.1 == at_) (some (.inl (w64 (count_2+1),w64 (v5+1)))) (some (.inl (count_2,w64 (v5+1))))) none) (some (.inr count_2))
def Zq149 (at_:Int) (list:List Inode_) (v:Int) (v2:Int) (v4:List Entry_) (v3:Int):(Int×Int)→Option Int:=
 loopL fun s=>Zq149.B at_ list v v2 v4 v3 s.1 s.2
def Zq150.B (at_:Int) (list:List Inode_) (v:Int) (count_:Int) (v2:Int):Option ((Int×Int)⊕Int):=
 cond (decide (v2<v)) (cond (inB v2 list.length) ((some ((list.getD v2.toNat zInode_).2.2.2.2.1.length:Int)).bind fun v3=>(Zq149 at_ list v v2 (list.getD v2.toNat zInode_).2.2.2.2.1 v3 (count_,0)).bind fun o=>some (.inl (o,w64 (v2+1)))) none) (some (.inr count_))
def Zq150 (at_:Int) (list:List Inode_) (v:Int):(Int×Int)→Option Int:=
 loopL fun s=>Zq150.B at_ list v s.1 s.2
def Zq151 (list:List Inode_) (at_:Int):Option Int:=
 (Zq150 at_ list (list.length:Int) (0,0)).bind fun o2=>some o2
namespace Zq149
def c:=codeAt (bodyOf Proofs.Tryz.f113) [1,1,0,1,0,0,1,1,0,0,1,1,0,0]
def sp:SP:=⟨[(1,.cs I64),(5,.cs I64),(10,.cs (.sl tInode_)),(11,.cs I64),(12,.cs I64),(17,.cs (.sl tEntry_)),(18,.cs I64),(19,.cs I64)],[]⟩
def out (at_:Int) (list:List Inode_) (v:Int) (v2:Int) (v4:List Entry_) (v3:Int):FOut Int:=fun bb0 _ kk0=>kk0 (.ex 2) ⟨[(1,.cs I64 at_),(5,.cs I64 bb0),(10,.cs (.sl tInode_) list),(11,.cs I64 v),(12,.cs I64 v2)],[]⟩
def fr:=lfrag sp (fun x=>Zq149 x.1.1 x.1.2.2.1 x.1.2.2.2.1 x.1.2.2.2.2.1 x.1.2.2.2.2.2.1 x.1.2.2.2.2.2.2.1 (x.1.2.1,x.1.2.2.2.2.2.2.2.1)) fun x=>out x.1.1 x.1.2.2.1 x.1.2.2.2.1 x.1.2.2.2.2.1 x.1.2.2.2.2.2.1 x.1.2.2.2.2.2.2.1
theorem ok:CodeOk PR 32 2 (.loop c) fr:=
 lp_ok tbok hmix h0 .no (G:=(mkG [])) .nil (L:=mkL []) (l:=[]) hT [1,5,10,11,12,17,18,19] [] [(2,([1,5,10,11,12],[]))] ([],[]) (fun x s=>B x.1.1 x.1.2.2.1 x.1.2.2.2.1 x.1.2.2.2.2.1 x.1.2.2.2.2.2.1 x.1.2.2.2.2.2.2.1 s.1 s.2) (fun x s=>⟨[(1,.cs I64 x.1.1),(5,.cs I64 s.1),(10,.cs (.sl tInode_) x.1.2.2.1),(11,.cs I64 x.1.2.2.2.1),(12,.cs I64 x.1.2.2.2.2.1),(17,.cs (.sl tEntry_) x.1.2.2.2.2.2.1),(18,.cs I64 x.1.2.2.2.2.2.2.1),(19,.cs I64 s.2)],[]⟩) (fun x=>(x.1.2.1,x.1.2.2.2.2.2.2.2.1))
  (fun x s=>by simp only[B,mC,mB,mS,mO,mN];kernel_rfl)
end Zq149
namespace Zq150
def c:=codeAt (bodyOf Proofs.Tryz.f113) [1,1,0,1,0,0]
def sp:SP:=⟨[(1,.cs I64),(5,.cs I64),(10,.cs (.sl tInode_)),(11,.cs I64),(12,.cs I64)],[]⟩
def out (at_:Int) (list:List Inode_) (v:Int):FOut Int:=fun bb0 _ kk0=>kk0 (.ex 0) ⟨[(5,.cs I64 bb0)],[]⟩
def fr:=lfrag sp (fun x=>Zq150 x.1.1 x.1.2.2.1 x.1.2.2.2.1 (x.1.2.1,x.1.2.2.2.2.1)) fun x=>out x.1.1 x.1.2.2.1 x.1.2.2.2.1
theorem ok:CodeOk PR 32 2 (.loop c) fr:=
 lp_ok tbok hmix h0 (.R (.R (.L (.one (.R (.R (.one (.fr 1)))))))) (G:=(mkG [])) .nil (L:=mkL [(1,Zq149.fr)]) (l:=[(1,.loop Zq149.c)]) ⟨Lam.cons Zq149.ok,trivial⟩ [1,5,10,11,12] [] [(0,([5],[]))] ([],[]) (fun x s=>B x.1.1 x.1.2.2.1 x.1.2.2.2.1 s.1 s.2) (fun x s=>⟨[(1,.cs I64 x.1.1),(5,.cs I64 s.1),(10,.cs (.sl tInode_) x.1.2.2.1),(11,.cs I64 x.1.2.2.2.1),(12,.cs I64 s.2)],[]⟩) (fun x=>(x.1.2.1,x.1.2.2.2.2.1))
  (fun x s=>by simp only[B,mC,mB,mS,mO,mN];kernel_rfl)
end Zq150
namespace Zq151
def pts:List PT:=[.cs (.sl tInode_),.cs I64]
def FS:FS:=mkFS [.sh,.sh] pts (fun x=>Zq151 x.1 x.2.1) fun t=>⟨[.cs I64 t],[]⟩
theorem ok:FsOk PR 113 FS:=
 fn_ok tbok hmix Proofs.Tryz.f113 h0 (.R (.R (.L (.R (.one (.fr 0)))))) (G:=(mkG [])) .nil (L:=mkL [(1,Zq149.fr),(0,Zq150.fr)]) (l:=[(0,.loop Zq150.c)]) ⟨Lam.skip rfl (Lam.cons Zq150.ok),trivial⟩
  (fun x=>by simp only[Zq151,mC,mB,mS,mO,mN];kernel_rfl)
end Zq151
def Zq152.B (f:Fs_) (v:List Inode_) (v2:Int) (r:List Int) (v3:Int):Option (Int⊕((Int⊕Unit))):=
 cond (decide (v3<v2)) (cond (inB v3 v.length) ((Zq151 f.1 v3).bind fun r2=>(some (cond ((v.getD v3.toNat zInode_).1 == 1) ((v.getD v3.toNat zInode_).2.1 != r2) false)).bind fun v4=>cond v4 (some (.inr (.inl 1))) ((some (cond ((v.getD v3.toNat zInode_).1 == 2) (v3 == 0) false)).bind fun v5=>cond (cond v5 (r2 != 0) false) (some (.inr (.inl 1))) ((some (cond ((v.getD v3.toNat zInode_).1 == 2) (decide (v3>0)) false)).bind fun v6=>cond (cond v6 (r2 != 1) false) (some (.inr (.inl 1))) (cond ((v.getD v3.toNat zInode_).1 != 0) ((Zq106 r v3).bind fun r3=>cond (!r3) (some (.inr (.inl 1))) (some (.inl (w64 (v3+1))))) (some (.inl (w64 (v3+1)))))))) none) (some (.inr (.inr ())))
def Zq152 (f:Fs_) (v:List Inode_) (v2:Int) (r:List Int):Int→Option ((Int⊕Unit)):=
 loopL fun s=>Zq152.B f v v2 r s
def Zq153 (f:Fs_):Option Int:=
 (Zq148 f.1 0).bind fun r=>(Zq152 f f.1 (f.1.length:Int) r 0).bind fun o=>sel o (fun b=>some b) (fun c=>some 0)
namespace Zq153
def G:Gam:=mkG [(112,Zq148.FS),(113,Zq151.FS),(114,Zq106.FS)]
theorem Gok:GOk PR G:=.cons Zq148.ok (.cons Zq151.ok (.cons Zq106.ok .nil))
end Zq153
namespace Zq152
def c:=codeAt (bodyOf Proofs.Tryz.f90) [1,1,0,1,0,0]
def sp:SP:=⟨[(1,.pt tFs_),(3,.seg 3 []),(12,.cs (.sl tInode_)),(13,.cs I64),(14,.cs I64)],[(3,.reg,.cd SI)]⟩
def out (f:Fs_) (v:List Inode_) (v2:Int) (r:List Int):FOut ((Int⊕Unit)):=fun oo0 _ kk0=>sel oo0 (fun bb0=>kk0 (.rt) ⟨[(2,.cs I64 bb0)],[]⟩) (fun cc0=>kk0 (.ex 0) ⟨[],[]⟩)
def fr:=lfrag sp (fun x=>Zq152 x.1.1 x.1.2.2.1 x.1.2.2.2.1 x.2.1 x.1.2.2.2.2.1) fun x=>out x.1.1 x.1.2.2.1 x.1.2.2.2.1 x.2.1
theorem ok:CodeOk PR 66 1 (.loop c) fr:=
 lp_ok tbok hmix ⟨[1],[],[],0⟩ .no (G:=Zq153.G) Zq153.Gok (L:=mkL []) (l:=[]) hT [1,3,12,13,14] [3] [(0,([],[]))] ([2],[]) (fun x s=>B x.1.1 x.1.2.2.1 x.1.2.2.2.1 x.2.1 s) (fun x s=>⟨[(1,.pt tFs_ x.1.1),(3,.seg 3 []),(12,.cs (.sl tInode_) x.1.2.2.1),(13,.cs I64 x.1.2.2.2.1),(14,.cs I64 s)],[sr 3 (.cd SI x.2.1)]⟩) (fun x=>x.1.2.2.2.2.1)
  (fun x s=>by simp only[B,mC,mB,mS,mO,mN];kernel_rfl)
end Zq152
namespace Zq153
def pts:List PT:=[.cs tFs_]
def FS:FS:=mkFS [.sh] pts (fun x=>Zq153 x.1) fun t=>⟨[.cs I64 t],[]⟩
theorem ok:FsOk PR 90 FS:=
 fn_ok tbok hmix Proofs.Tryz.f90 ⟨[1],[],[],0⟩ (.R (.R (.L (.R (.one (.fr 0)))))) (G:=G) Gok (L:=mkL [(0,Zq152.fr)]) (l:=[(0,.loop Zq152.c)]) ⟨Lam.cons Zq152.ok,trivial⟩
  (fun x=>by simp only[Zq153,mC,mB,mS,mO,mN];kernel_rfl)
end Zq153
def Zq154 (l:List Int):Option Int:=
 some (l.length:Int)
namespace Zq154
def pts:List PT:=[.cs SB]
def FS:FS:=mkFS [.sh] pts (fun x=>Zq154 x.1) fun t=>⟨[.cs I64 t],[]⟩
theorem ok:FsOk PR 115 FS:=
 fn_ok tbok hmix Proofs.Tryz.f115 h0 .no (G:=(mkG [])) .nil (L:=mkL []) (l:=[]) hT
  (fun x=>by simp only[Zq154,mC,mB,mS,mO,mN];kernel_rfl)
end Zq154
def Zq155.B (f:Fs_) (r:List Int) (v:Int):Option (Int⊕((Int⊕Unit))):=
 cond (decide (v<20)) (cond (inB v 20) (cond (inB v f.2.1.length) ((Zq154 (f.2.1.getD v.toNat [])).bind fun r2=>cond (r2 != (r.getD v.toNat 0)) (some (.inr (.inl 1))) (some (.inl (w64 (v+1))))) none) none) (some (.inr (.inr ())))
def Zq155 (f:Fs_) (r:List Int):Int→Option ((Int⊕Unit)):=
 loopL fun s=>Zq155.B f r s
def Zq156 (f:Fs_):Option Int:=
 (Zq140 f.1).bind fun r=>(Zq155 f r 0).bind fun o=>sel o (fun b=>some b) (fun c=>some 0)
namespace Zq156
def G:Gam:=mkG [(54,Zq140.FS),(115,Zq154.FS)]
theorem Gok:GOk PR G:=.cons Zq140.ok (.cons Zq154.ok .nil)
end Zq156
namespace Zq155
def c:=codeAt (bodyOf Proofs.Tryz.f91) [1,0,1,0,0]
def sp:SP:=⟨[(1,.pt tFs_),(7,.cs (.arr 20 I64)),(8,.cs I64)],[]⟩
def out (f:Fs_) (r:List Int):FOut ((Int⊕Unit)):=fun oo0 _ kk0=>sel oo0 (fun bb0=>kk0 (.rt) ⟨[(2,.cs I64 bb0)],[]⟩) (fun cc0=>kk0 (.ex 0) ⟨[],[]⟩)
def fr:=lfrag sp (fun x=>Zq155 x.1.1 x.1.2.1 x.1.2.2.1) fun x=>out x.1.1 x.1.2.1
theorem ok:CodeOk PR 21 1 (.loop c) fr:=
 lp_ok tbok hmix ⟨[1],[],[],0⟩ .no (G:=Zq156.G) Zq156.Gok (L:=mkL []) (l:=[]) hT [1,7,8] [] [(0,([],[]))] ([2],[]) (fun x s=>B x.1.1 x.1.2.1 s) (fun x s=>⟨[(1,.pt tFs_ x.1.1),(7,.cs (.arr 20 I64) x.1.2.1),(8,.cs I64 s)],[]⟩) (fun x=>x.1.2.2.1)
  (fun x s=>by simp only[B,mC,mB,mS,mO,mN];kernel_rfl)
end Zq155
namespace Zq156
def pts:List PT:=[.cs tFs_]
def FS:FS:=mkFS [.sh] pts (fun x=>Zq156 x.1) fun t=>⟨[.cs I64 t],[]⟩
theorem ok:FsOk PR 91 FS:=
 fn_ok tbok hmix Proofs.Tryz.f91 ⟨[1],[],[],0⟩ (.R (.L (.R (.one (.fr 0))))) (G:=G) Gok (L:=mkL [(0,Zq155.fr)]) (l:=[(0,.loop Zq155.c)]) ⟨Lam.cons Zq155.ok,trivial⟩
  (fun x=>by simp only[Zq156,mC,mB,mS,mO,mN];kernel_rfl)
end Zq156
def Zq157 (f:Fs_):Option Int:=
 (Zq137 f).bind fun r=>cond (r != 0) (some r) ((Zq153 f).bind fun r2=>cond (r2 != 0) (some r2) ((Zq156 f).bind fun r3=>some r3))
namespace Zq157
def G:Gam:=mkG [(53,Zq137.FS),(90,Zq153.FS),(91,Zq156.FS)]
def pts:List PT:=[.cs tFs_]
def FS:FS:=mkFS [.sh] pts (fun x=>Zq157 x.1) fun t=>⟨[.cs I64 t],[]⟩
theorem ok:FsOk PR 58 FS:=
 fn_ok tbok hmix Proofs.Tryz.f58 ⟨[1],[],[],0⟩ .no (G:=G) (show GOk PR G from .cons Zq137.ok (.cons Zq153.ok (.cons Zq156.ok .nil))) (L:=mkL []) (l:=[]) hT
  (fun x=>by simp only[Zq157,mC,mB,mS,mO,mN];kernel_rfl)
end Zq157
def Zq158.B (d:Disk_) (v2:Fs_) (many_:Int) (v:Int) (f_:Fs_):Option ((Int×Int×Fs_)⊕(((Int×Fs_)⊕(Int×Fs_)))):=
 cond (decide (v<10)) ((Zq91 d (w64 ((17:Int)+v))).bind fun r=>(Zq120 r).bind fun r2=>cond (r2.2 != 0) (some (.inr (.inl (r2.2,([],[],()))))) ((some (f_.1++([(r2.1.1,r2.1.2.1,r2.1.2.2.1,r2.1.2.2.2.1,r2.1.2.2.2.2.1,r2.1.2.2.2.2.2)]))).bind fun v3=>cond (decide (v3.length≤2147483648)) (cond (decide ((r.length:Int)>0)) (some (.inl (w64 (v+1),w64 (v+1),(v3,f_.2)))) (some (.inl (many_,w64 (v+1),(v3,f_.2))))) none)) (some (.inr (.inr (many_,f_))))
def Zq158 (d:Disk_) (v2:Fs_):(Int×Int×Fs_)→Option (((Int×Fs_)⊕(Int×Fs_))):=
 loopL fun s=>Zq158.B d v2 s.1 s.2.1 s.2.2
def Zq159.B (d:Disk_) (v4:Int) (r4:List Int) (v7:Int) (r5:List Int) (v8:Int) (v9:List Int) (r7:Bool) (v10:List Int) (v6:Int) (v5:Fs_) (v11:Int) (f_3:Fs_):Option ((Int×Fs_)⊕Fs_):=
 cond (decide (v11<v6)) (cond (inB v11 v10.length) (cond (inB v4 f_3.2.1.length) ((some ((f_3.2.1.getD v4.toNat [])++([IntKind.u8.wrap (v10.getD v11.toNat 0)]))).bind fun v12=>cond (decide (v12.length≤2147483648)) (cond (inB v4 f_3.2.1.length) (cond (Nat.beq v4.toNat v4.toNat&&true) (some (.inl (w64 (v11+1),(f_3.1,f_3.2.1.set v4.toNat v12,f_3.2.2)))) none) none) none) none) none) (some (.inr f_3))
def Zq159 (d:Disk_) (v4:Int) (r4:List Int) (v7:Int) (r5:List Int) (v8:Int) (v9:List Int) (r7:Bool) (v10:List Int) (v6:Int) (v5:Fs_):(Int×Fs_)→Option Fs_:=
 loopL fun s=>Zq159.B d v4 r4 v7 r5 v8 v9 r7 v10 v6 v5 s.1 s.2
def Zq160.B (d:Disk_) (r4:List Int) (v5:Fs_) (v4:Int) (f_2:Fs_):Option ((Int×Fs_)⊕(((Int×Fs_)⊕Fs_))):=
 cond (decide (v4<20)) (cond (inB v4 20) ((Zq91 d (w64 ((27:Int)+v4))).bind fun r5=>(Zq95 r5).bind fun r6=>cond (decide (r6<(r4.getD v4.toNat 0))) (some (.inr (.inl (5,([],[],()))))) (cond (decide ((0:Int)≤(r4.getD v4.toNat 0))&&decide ((r4.getD v4.toNat 0)≤(r5.length:Int))) ((Zq144 ((r5.take ((r4.getD v4.toNat 0).toNat)).drop 0) ()).bind fun r7=>cond r7 (some (.inr (.inl (5,([],[],()))))) (cond (decide ((0:Int)≤(r4.getD v4.toNat 0))&&decide ((r4.getD v4.toNat 0)≤(r5.length:Int))) ((some (((r5.take ((r4.getD v4.toNat 0).toNat)).drop 0).length:Int)).bind fun v6=>(Zq159 d v4 r4 v4 r5 (r4.getD v4.toNat 0) ((r5.take ((r4.getD v4.toNat 0).toNat)).drop 0) r7 ((r5.take ((r4.getD v4.toNat 0).toNat)).drop 0) v6 v5 (0,f_2)).bind fun o2=>some (.inl (w64 (v4+1),o2))) none)) none)) none) (some (.inr (.inr f_2)))
def Zq160 (d:Disk_) (r4:List Int) (v5:Fs_):(Int×Fs_)→Option (((Int×Fs_)⊕Fs_)):=
 loopL fun s=>Zq160.B d r4 v5 s.1 s.2
def Zq161 (d:Disk_):Option (Fs_×Int):=
 cond (decide ((0:Int)≤(20:Int))&&(decide ((20:Int)≤(20:Int))&&decide ((20:Int)≤2147483648))) ((Zq158 d ([],[],()) (0,0,([],List.replicate (20:Int).toNat ([]:List Int),()))).bind fun o=>sel o (fun b=>some ((b.2.1,b.2.2.1,b.2.2.2),b.1)) (fun c=>cond (decide ((0:Int)≤c.1)&&decide (c.1≤(c.2.1.length:Int))) ((Zq137 ((c.2.1.drop 0).take (c.1.toNat-0),c.2.2.1,c.2.2.2)).bind fun r3=>cond (r3 != 0) (some (([],[],()),r3)) ((Zq140 ((c.2.1.drop 0).take (c.1.toNat-0))).bind fun r4=>(Zq160 d r4 ([],[],()) (0,((c.2.1.drop 0).take (c.1.toNat-0),c.2.2))).bind fun o3=>sel o3 (fun b2=>some ((b2.2.1,b2.2.2.1,b2.2.2.2),b2.1)) (fun c2=>(Zq157 (c2.1,c2.2.1,c2.2.2)).bind fun r8=>some ((c2.1,c2.2.1,c2.2.2),r8)))) none)) none
namespace Zq161
def G:Gam:=mkG [(50,Zq91.FS),(52,Zq120.FS),(53,Zq137.FS),(54,Zq140.FS),(55,Zq95.FS),(56,Zq144.FS),(58,Zq157.FS)]
theorem Gok:GOk PR G:=.cons Zq91.ok (.cons Zq120.ok (.cons Zq137.ok (.cons Zq140.ok (.cons Zq95.ok (.cons Zq144.ok (.cons Zq157.ok .nil))))))
end Zq161
namespace Zq158
def c:=codeAt (bodyOf Proofs.Tryz.f24) [1,1,1,0,1,0,0]
def sp:SP:=⟨[(1,.pt tDisk_),(2,.loc 2 []),(4,.loc 4 []),(5,.cs I64),(18,.cs I64)],[(2,.mem,.cd tFs_),(4,.mem,.cd tFs_)]⟩
def out (d:Disk_) (v2:Fs_):FOut (((Int×Fs_)⊕(Int×Fs_))):=fun oo0 _ kk0=>sel oo0 (fun bb0=>kk0 (.rt) ⟨[(2,.loc 2 []),(3,.cs I64 bb0.1)],[(2,some ⟨.mem,.cd tFs_ bb0.2⟩)]⟩) (fun cc0=>kk0 (.ex 0) ⟨[(1,.pt tDisk_ d),(2,.loc 2 []),(4,.loc 4 []),(5,.cs I64 cc0.1)],[(2,some ⟨.mem,.cd tFs_ v2⟩),(4,some ⟨.mem,.cd tFs_ cc0.2⟩)]⟩)
def fr:=lfrag sp (fun x=>Zq158 x.1.1 x.2.1 (x.1.2.2.2.1,x.1.2.2.2.2.1,x.2.2.1)) fun x=>out x.1.1 x.2.1
theorem ok:CodeOk PR 103 1 (.loop c) fr:=
 lp_ok tbok hmix ⟨[1],[],[],0⟩ .no (G:=Zq161.G) Zq161.Gok (L:=mkL []) (l:=[]) hT [1,2,4,5,18] [2,4] [(0,([1,2,4,5],[2,4]))] ([2,3],[2]) (fun x s=>B x.1.1 x.2.1 s.1 s.2.1 s.2.2) (fun x s=>⟨[(1,.pt tDisk_ x.1.1),(2,.loc 2 []),(4,.loc 4 []),(5,.cs I64 s.1),(18,.cs I64 s.2.1)],[(2,some ⟨.mem,.cd tFs_ x.2.1⟩),(4,some ⟨.mem,.cd tFs_ s.2.2⟩)]⟩) (fun x=>(x.1.2.2.2.1,x.1.2.2.2.2.1,x.2.2.1))
  (fun x s=>by simp only[B,mC,mB,mS,mO,mN];kernel_rfl)
end Zq158
namespace Zq159
def c:=codeAt (bodyOf Proofs.Tryz.f24) [1,1,1,1,1,1,0,1,0,0,1,1,0,0,1,1,1,1,0,0]
def sp:SP:=⟨[(1,.pt tDisk_),(2,.loc 2 []),(4,.loc 4 []),(11,.cs I64),(58,.cs (.arr 20 I64)),(59,.cs I64),(71,.cs SI),(72,.cs I64),(73,.cs SI),(74,.cs .bool),(79,.cs SI),(80,.cs I64),(81,.cs I64)],[(2,.mem,.cd tFs_),(4,.mem,.cd tFs_)]⟩
def out (d:Disk_) (v4:Int) (r4:List Int) (v7:Int) (r5:List Int) (v8:Int) (v9:List Int) (r7:Bool) (v10:List Int) (v6:Int) (v5:Fs_):FOut Fs_:=fun bb0 _ kk0=>kk0 (.ex 4) ⟨[(1,.pt tDisk_ d),(2,.loc 2 []),(4,.loc 4 []),(58,.cs (.arr 20 I64) r4),(59,.cs I64 v7),(71,.cs SI r5),(72,.cs I64 v8),(73,.cs SI v9),(74,.cs .bool r7)],[(2,some ⟨.mem,.cd tFs_ v5⟩),(4,some ⟨.mem,.cd tFs_ bb0⟩)]⟩
def fr:=lfrag sp (fun x=>Zq159 x.1.1 x.1.2.2.2.1 x.1.2.2.2.2.1 x.1.2.2.2.2.2.1 x.1.2.2.2.2.2.2.1 x.1.2.2.2.2.2.2.2.1 x.1.2.2.2.2.2.2.2.2.1 x.1.2.2.2.2.2.2.2.2.2.1 x.1.2.2.2.2.2.2.2.2.2.2.1 x.1.2.2.2.2.2.2.2.2.2.2.2.1 x.2.1 (x.1.2.2.2.2.2.2.2.2.2.2.2.2.1,x.2.2.1)) fun x=>out x.1.1 x.1.2.2.2.1 x.1.2.2.2.2.1 x.1.2.2.2.2.2.1 x.1.2.2.2.2.2.2.1 x.1.2.2.2.2.2.2.2.1 x.1.2.2.2.2.2.2.2.2.1 x.1.2.2.2.2.2.2.2.2.2.1 x.1.2.2.2.2.2.2.2.2.2.2.1 x.1.2.2.2.2.2.2.2.2.2.2.2.1 x.2.1
theorem ok:CodeOk PR 103 1 (.loop c) fr:=
 lp_ok tbok hmix ⟨[1],[],[],0⟩ .no (G:=Zq161.G) Zq161.Gok (L:=mkL []) (l:=[]) hT [1,2,4,11,58,59,71,72,73,74,79,80,81] [2,4] [(4,([1,2,4,58,59,71,72,73,74],[2,4]))] ([],[]) (fun x s=>B x.1.1 x.1.2.2.2.1 x.1.2.2.2.2.1 x.1.2.2.2.2.2.1 x.1.2.2.2.2.2.2.1 x.1.2.2.2.2.2.2.2.1 x.1.2.2.2.2.2.2.2.2.1 x.1.2.2.2.2.2.2.2.2.2.1 x.1.2.2.2.2.2.2.2.2.2.2.1 x.1.2.2.2.2.2.2.2.2.2.2.2.1 x.2.1 s.1 s.2) (fun x s=>⟨[(1,.pt tDisk_ x.1.1),(2,.loc 2 []),(4,.loc 4 []),(11,.cs I64 x.1.2.2.2.1),(58,.cs (.arr 20 I64) x.1.2.2.2.2.1),(59,.cs I64 x.1.2.2.2.2.2.1),(71,.cs SI x.1.2.2.2.2.2.2.1),(72,.cs I64 x.1.2.2.2.2.2.2.2.1),(73,.cs SI x.1.2.2.2.2.2.2.2.2.1),(74,.cs .bool x.1.2.2.2.2.2.2.2.2.2.1),(79,.cs SI x.1.2.2.2.2.2.2.2.2.2.2.1),(80,.cs I64 x.1.2.2.2.2.2.2.2.2.2.2.2.1),(81,.cs I64 s.1)],[(2,some ⟨.mem,.cd tFs_ x.2.1⟩),(4,some ⟨.mem,.cd tFs_ s.2⟩)]⟩) (fun x=>(x.1.2.2.2.2.2.2.2.2.2.2.2.2.1,x.2.2.1))
  (fun x s=>by simp only[B,mC,mB,mS,mO,mN];kernel_rfl)
end Zq159
namespace Zq160
def c:=codeAt (bodyOf Proofs.Tryz.f24) [1,1,1,1,1,1,0,1,0,0]
def sp:SP:=⟨[(1,.pt tDisk_),(2,.loc 2 []),(4,.loc 4 []),(58,.cs (.arr 20 I64)),(59,.cs I64)],[(2,.mem,.cd tFs_),(4,.mem,.cd tFs_)]⟩
def out (d:Disk_) (r4:List Int) (v5:Fs_):FOut (((Int×Fs_)⊕Fs_)):=fun oo0 _ kk0=>sel oo0 (fun bb0=>kk0 (.rt) ⟨[(2,.loc 2 []),(3,.cs I64 bb0.1)],[(2,some ⟨.mem,.cd tFs_ bb0.2⟩)]⟩) (fun cc0=>kk0 (.ex 2) ⟨[(2,.loc 2 []),(4,.loc 4 [])],[(2,some ⟨.mem,.cd tFs_ v5⟩),(4,some ⟨.mem,.cd tFs_ cc0⟩)]⟩)
def fr:=lfrag sp (fun x=>Zq160 x.1.1 x.1.2.2.2.1 x.2.1 (x.1.2.2.2.2.1,x.2.2.1)) fun x=>out x.1.1 x.1.2.2.2.1 x.2.1
theorem ok:CodeOk PR 103 1 (.loop c) fr:=
 lp_ok tbok hmix ⟨[1],[],[],0⟩ (.R (.R (.L (.one (.R (.R (.R (.R (.one (.fr 2)))))))))) (G:=Zq161.G) Zq161.Gok (L:=mkL [(2,Zq159.fr)]) (l:=[(2,.loop Zq159.c)]) ⟨Lam.cons Zq159.ok,trivial⟩ [1,2,4,58,59] [2,4] [(2,([2,4],[2,4]))] ([2,3],[2]) (fun x s=>B x.1.1 x.1.2.2.2.1 x.2.1 s.1 s.2) (fun x s=>⟨[(1,.pt tDisk_ x.1.1),(2,.loc 2 []),(4,.loc 4 []),(58,.cs (.arr 20 I64) x.1.2.2.2.1),(59,.cs I64 s.1)],[(2,some ⟨.mem,.cd tFs_ x.2.1⟩),(4,some ⟨.mem,.cd tFs_ s.2⟩)]⟩) (fun x=>(x.1.2.2.2.2.1,x.2.2.1))
  (fun x s=>by simp only[B,mC,mB,mS,mO,mN];kernel_rfl)
end Zq160
namespace Zq161
def pts:List PT:=[.cs tDisk_]
def FS:FS:=mkFS [.sh] pts (fun x=>Zq161 x.1) fun t=>⟨[.cd tFs_ t.1,.cs I64 t.2],[]⟩
theorem ok:FsOk PR 24 FS:=
 fn_ok tbok hmix Proofs.Tryz.f24 ⟨[1],[],[],0⟩ (.R (.R (.R (.two (.R (.one (.fr 0))) (.R (.R (.L (.R (.one (.fr 1)))))))))) (G:=G) Gok (L:=mkL [(0,Zq158.fr),(2,Zq159.fr),(1,Zq160.fr)]) (l:=[(0,.loop Zq158.c),(1,.loop Zq160.c)]) ⟨Lam.cons Zq158.ok,Lam.skip rfl (Lam.skip rfl (Lam.cons Zq160.ok)),trivial⟩
  (fun x=>by simp only[Zq161,mC,mB,mS,mO,mN];kernel_rfl)
end Zq161
def Zq162 (f:Fs_) (code:Int):Option (FsResult_×Unit):=
 cond (code != 0) (some ((code,([],[],()),()),())) (some ((0,(f.1,f.2.1,f.2.2),()),()))
namespace Zq162
def pts:List PT:=[.cd tFs_,.cs I64]
def FS:FS:=mkFS [.mu,.sh] pts (fun x=>Zq162 x.1 x.2.1) fun t=>⟨[.cd tFsResult_ t.1],[.pr (.dead 1) (.pr (.dead 1) (.cs .unit t.2))]⟩
theorem ok:FsOk PR 25 FS:=
 fn_okW tbok hmix Proofs.Tryz.f25 ⟨[2],[],[],0⟩ .no (G:=(mkG [])) .nil (L:=mkL []) (l:=[]) hT
  (fun x=>by simp only[Zq162,mC,mB,mS,mO,mN];kernel_rfl)
end Zq162
def Zq163 (d:Disk_):Option FsResult_:=
 (Zq93 d).bind fun r=>cond (r.2 != 0) (some (r.2,([],[],()),())) ((Zq161 d).bind fun r2=>(Zq162 (r2.1.1,r2.1.2.1,r2.1.2.2) r2.2).bind fun r3=>some (r3.1.1,(r3.1.2.1.1,r3.1.2.1.2.1,r3.1.2.1.2.2),r3.1.2.2))
namespace Zq163
def G:Gam:=mkG [(23,Zq93.FS),(24,Zq161.FS),(25,Zq162.FS)]
def pts:List PT:=[.cs tDisk_]
def FS:FS:=mkFS [.sh] pts (fun x=>Zq163 x.1) fun t=>⟨[.cd tFsResult_ t],[]⟩
theorem ok:FsOk PR 7 FS:=
 fn_ok tbok hmix Proofs.Tryz.f7 ⟨[1],[],[],0⟩ .no (G:=G) (show GOk PR G from .cons Zq93.ok (.cons Zq161.ok (.cons Zq162.ok .nil))) (L:=mkL []) (l:=[]) hT
  (fun x=>by simp only[Zq163,mC,mB,mS,mO,mN];kernel_rfl)
end Zq163
def Zq164.B (a:List Int) (b:List Int) (i_:Int):Option (Int⊕((Bool⊕Unit))):=
 cond (decide (i_<(a.length:Int))) (cond (inB i_ a.length) (cond (inB i_ b.length) (cond ((a.getD i_.toNat 0) != (b.getD i_.toNat 0)) (some (.inr (.inl false))) (some (.inl (w64 (i_+1))))) none) none) (some (.inr (.inr ())))
def Zq164 (a:List Int) (b:List Int):Int→Option ((Bool⊕Unit)):=
 loopL fun s=>Zq164.B a b s
def Zq165 (a:List Int) (b:List Int):Option Bool:=
 cond ((a.length:Int) != (b.length:Int)) (some false) ((Zq164 a b 0).bind fun o=>sel o (fun b2=>some b2) (fun c=>some true))
namespace Zq164
def c:=codeAt (bodyOf Proofs.Tryz.f61) [1,1,0,1,0,0]
def sp:SP:=⟨[(0,.cs SI),(1,.cs SI),(5,.cs I64)],[]⟩
def out (a:List Int) (b:List Int):FOut ((Bool⊕Unit)):=fun oo0 _ kk0=>sel oo0 (fun bb0=>kk0 (.rt) ⟨[(4,.cs .bool bb0)],[]⟩) (fun cc0=>kk0 (.ex 0) ⟨[],[]⟩)
def fr:=lfrag sp (fun x=>Zq164 x.1.1 x.1.2.1 x.1.2.2.1) fun x=>out x.1.1 x.1.2.1
theorem ok:CodeOk PR 26 2 (.loop c) fr:=
 lp_ok tbok hmix h0 .no (G:=(mkG [])) .nil (L:=mkL []) (l:=[]) hT [0,1,5] [] [(0,([],[]))] ([4],[]) (fun x s=>B x.1.1 x.1.2.1 s) (fun x s=>⟨[(0,.cs SI x.1.1),(1,.cs SI x.1.2.1),(5,.cs I64 s)],[]⟩) (fun x=>x.1.2.2.1)
  (fun x s=>by simp only[B,mC,mB,mS,mO,mN];kernel_rfl)
end Zq164
namespace Zq165
def pts:List PT:=[.cs SI,.cs SI]
def FS:FS:=mkFS [.sh,.sh] pts (fun x=>Zq165 x.1 x.2.1) fun t=>⟨[.cs .bool t],[]⟩
theorem ok:FsOk PR 61 FS:=
 fn_ok tbok hmix Proofs.Tryz.f61 h0 (.R (.R (.L (.R (.one (.fr 0)))))) (G:=(mkG [])) .nil (L:=mkL [(0,Zq164.fr)]) (l:=[(0,.loop Zq164.c)]) ⟨Lam.cons Zq164.ok,trivial⟩
  (fun x=>by simp only[Zq165,mC,mB,mS,mO,mN];kernel_rfl)
end Zq165
def Zq166 (a:Entry_) (b:Entry_):Option Bool:=
 cond (!(a.1 == b.1)) (some false) (cond (a.2.1 != b.2.1) (some false) (some true))
namespace Zq166
def pts:List PT:=[.cs tEntry_,.cs tEntry_]
def FS:FS:=mkFS [.sh,.sh] pts (fun x=>Zq166 x.1 x.2.1) fun t=>⟨[.cs .bool t],[]⟩
theorem ok:FsOk PR 124 FS:=
 fn_ok tbok hmix Proofs.Tryz.f124 ⟨[2,3],[],[],0⟩ .no (G:=(mkG [])) .nil (L:=mkL []) (l:=[]) hT
  (fun x=>by simp only[Zq166,mC,mB,mS,mO,mN];kernel_rfl)
end Zq166
def Zq167.B (a:List Entry_) (b:List Entry_) (i_:Int):Option (Int⊕((Bool⊕Unit))):=
 cond (decide (i_<(a.length:Int))) (cond (inB i_ a.length) (cond (inB i_ b.length) ((Zq166 (a.getD i_.toNat zEntry_) (b.getD i_.toNat zEntry_)).bind fun r=>cond (!r) (some (.inr (.inl false))) (some (.inl (w64 (i_+1))))) none) none) (some (.inr (.inr ())))
def Zq167 (a:List Entry_) (b:List Entry_):Int→Option ((Bool⊕Unit)):=
 loopL fun s=>Zq167.B a b s
def Zq168 (a:List Entry_) (b:List Entry_):Option Bool:=
 cond ((a.length:Int) != (b.length:Int)) (some false) ((Zq167 a b 0).bind fun o=>sel o (fun b2=>some b2) (fun c=>some true))
namespace Zq168
def G:Gam:=mkG [(124,Zq166.FS)]
theorem Gok:GOk PR G:=.cons Zq166.ok .nil
end Zq168
namespace Zq167
def c:=codeAt (bodyOf Proofs.Tryz.f116) [1,1,0,1,0,0]
def sp:SP:=⟨[(0,.cs (.sl tEntry_)),(1,.cs (.sl tEntry_)),(5,.cs I64)],[]⟩
def out (a:List Entry_) (b:List Entry_):FOut ((Bool⊕Unit)):=fun oo0 _ kk0=>sel oo0 (fun bb0=>kk0 (.rt) ⟨[(4,.cs .bool bb0)],[]⟩) (fun cc0=>kk0 (.ex 0) ⟨[],[]⟩)
def fr:=lfrag sp (fun x=>Zq167 x.1.1 x.1.2.1 x.1.2.2.1) fun x=>out x.1.1 x.1.2.1
theorem ok:CodeOk PR 27 2 (.loop c) fr:=
 lp_ok tbok hmix h0 .no (G:=Zq168.G) Zq168.Gok (L:=mkL []) (l:=[]) hT [0,1,5] [] [(0,([],[]))] ([4],[]) (fun x s=>B x.1.1 x.1.2.1 s) (fun x s=>⟨[(0,.cs (.sl tEntry_) x.1.1),(1,.cs (.sl tEntry_) x.1.2.1),(5,.cs I64 s)],[]⟩) (fun x=>x.1.2.2.1)
  (fun x s=>by simp only[B,mC,mB,mS,mO,mN];kernel_rfl)
end Zq167
namespace Zq168
def pts:List PT:=[.cs (.sl tEntry_),.cs (.sl tEntry_)]
def FS:FS:=mkFS [.sh,.sh] pts (fun x=>Zq168 x.1 x.2.1) fun t=>⟨[.cs .bool t],[]⟩
theorem ok:FsOk PR 116 FS:=
 fn_ok tbok hmix Proofs.Tryz.f116 h0 (.R (.R (.L (.R (.one (.fr 0)))))) (G:=G) Gok (L:=mkL [(0,Zq167.fr)]) (l:=[(0,.loop Zq167.c)]) ⟨Lam.cons Zq167.ok,trivial⟩
  (fun x=>by simp only[Zq168,mC,mB,mS,mO,mN];kernel_rfl)
end Zq168
def Zq169 (a:Inode_) (b:Inode_):Option Bool:=
 cond (a.1 != b.1) (some false) (cond (a.2.1 != b.2.1) (some false) (cond (a.2.2.1 != b.2.2.1) (some false) ((Zq165 a.2.2.2.1 b.2.2.2.1).bind fun r=>cond (!r) (some false) ((Zq168 a.2.2.2.2.1 b.2.2.2.2.1).bind fun r2=>cond (!r2) (some false) (some true)))))
namespace Zq169
def G:Gam:=mkG [(61,Zq165.FS),(116,Zq168.FS)]
def pts:List PT:=[.cs tInode_,.cs tInode_]
def FS:FS:=mkFS [.sh,.sh] pts (fun x=>Zq169 x.1 x.2.1) fun t=>⟨[.cs .bool t],[]⟩
theorem ok:FsOk PR 92 FS:=
 fn_ok tbok hmix Proofs.Tryz.f92 ⟨[2,3],[],[],0⟩ .no (G:=G) (show GOk PR G from .cons Zq165.ok (.cons Zq168.ok .nil)) (L:=mkL []) (l:=[]) hT
  (fun x=>by simp only[Zq169,mC,mB,mS,mO,mN];kernel_rfl)
end Zq169
def Zq170.B (a:List Inode_) (b:List Inode_) (i_:Int):Option (Int⊕((Bool⊕Unit))):=
 cond (decide (i_<(a.length:Int))) (cond (inB i_ a.length) (cond (inB i_ b.length) ((Zq169 (a.getD i_.toNat zInode_) (b.getD i_.toNat zInode_)).bind fun r=>cond (!r) (some (.inr (.inl false))) (some (.inl (w64 (i_+1))))) none) none) (some (.inr (.inr ())))
def Zq170 (a:List Inode_) (b:List Inode_):Int→Option ((Bool⊕Unit)):=
 loopL fun s=>Zq170.B a b s
def Zq171 (a:List Inode_) (b:List Inode_):Option Bool:=
 cond ((a.length:Int) != (b.length:Int)) (some false) ((Zq170 a b 0).bind fun o=>sel o (fun b2=>some b2) (fun c=>some true))
namespace Zq171
def G:Gam:=mkG [(92,Zq169.FS)]
theorem Gok:GOk PR G:=.cons Zq169.ok .nil
end Zq171
namespace Zq170
def c:=codeAt (bodyOf Proofs.Tryz.f59) [1,1,0,1,0,0]
def sp:SP:=⟨[(0,.cs (.sl tInode_)),(1,.cs (.sl tInode_)),(5,.cs I64)],[]⟩
def out (a:List Inode_) (b:List Inode_):FOut ((Bool⊕Unit)):=fun oo0 _ kk0=>sel oo0 (fun bb0=>kk0 (.rt) ⟨[(4,.cs .bool bb0)],[]⟩) (fun cc0=>kk0 (.ex 0) ⟨[],[]⟩)
def fr:=lfrag sp (fun x=>Zq170 x.1.1 x.1.2.1 x.1.2.2.1) fun x=>out x.1.1 x.1.2.1
theorem ok:CodeOk PR 27 2 (.loop c) fr:=
 lp_ok tbok hmix h0 .no (G:=Zq171.G) Zq171.Gok (L:=mkL []) (l:=[]) hT [0,1,5] [] [(0,([],[]))] ([4],[]) (fun x s=>B x.1.1 x.1.2.1 s) (fun x s=>⟨[(0,.cs (.sl tInode_) x.1.1),(1,.cs (.sl tInode_) x.1.2.1),(5,.cs I64 s)],[]⟩) (fun x=>x.1.2.2.1)
  (fun x s=>by simp only[B,mC,mB,mS,mO,mN];kernel_rfl)
end Zq170
namespace Zq171
def pts:List PT:=[.cs (.sl tInode_),.cs (.sl tInode_)]
def FS:FS:=mkFS [.sh,.sh] pts (fun x=>Zq171 x.1 x.2.1) fun t=>⟨[.cs .bool t],[]⟩
theorem ok:FsOk PR 59 FS:=
 fn_ok tbok hmix Proofs.Tryz.f59 h0 (.R (.R (.L (.R (.one (.fr 0)))))) (G:=G) Gok (L:=mkL [(0,Zq170.fr)]) (l:=[(0,.loop Zq170.c)]) ⟨Lam.cons Zq170.ok,trivial⟩
  (fun x=>by simp only[Zq171,mC,mB,mS,mO,mN];kernel_rfl)
end Zq171
def Zq172.B (a:List Int) (b:List Int) (i_:Int):Option (Int⊕((Bool⊕Unit))):=
 cond (decide (i_<(a.length:Int))) (cond (inB i_ a.length) (cond (inB i_ b.length) (cond ((a.getD i_.toNat 0) != (b.getD i_.toNat 0)) (some (.inr (.inl false))) (some (.inl (w64 (i_+1))))) none) none) (some (.inr (.inr ())))
def Zq172 (a:List Int) (b:List Int):Int→Option ((Bool⊕Unit)):=
 loopL fun s=>Zq172.B a b s
def Zq173 (a:List Int) (b:List Int):Option Bool:=
 cond ((a.length:Int) != (b.length:Int)) (some false) ((Zq172 a b 0).bind fun o=>sel o (fun b2=>some b2) (fun c=>some true))
namespace Zq172
def c:=codeAt (bodyOf Proofs.Tryz.f93) [1,1,0,1,0,0]
def sp:SP:=⟨[(0,.cs SB),(1,.cs SB),(5,.cs I64)],[]⟩
def out (a:List Int) (b:List Int):FOut ((Bool⊕Unit)):=fun oo0 _ kk0=>sel oo0 (fun bb0=>kk0 (.rt) ⟨[(4,.cs .bool bb0)],[]⟩) (fun cc0=>kk0 (.ex 0) ⟨[],[]⟩)
def fr:=lfrag sp (fun x=>Zq172 x.1.1 x.1.2.1 x.1.2.2.1) fun x=>out x.1.1 x.1.2.1
theorem ok:CodeOk PR 26 2 (.loop c) fr:=
 lp_ok tbok hmix h0 .no (G:=(mkG [])) .nil (L:=mkL []) (l:=[]) hT [0,1,5] [] [(0,([],[]))] ([4],[]) (fun x s=>B x.1.1 x.1.2.1 s) (fun x s=>⟨[(0,.cs SB x.1.1),(1,.cs SB x.1.2.1),(5,.cs I64 s)],[]⟩) (fun x=>x.1.2.2.1)
  (fun x s=>by simp only[B,mC,mB,mS,mO,mN];kernel_rfl)
end Zq172
namespace Zq173
def pts:List PT:=[.cs SB,.cs SB]
def FS:FS:=mkFS [.sh,.sh] pts (fun x=>Zq173 x.1 x.2.1) fun t=>⟨[.cs .bool t],[]⟩
theorem ok:FsOk PR 93 FS:=
 fn_ok tbok hmix Proofs.Tryz.f93 h0 (.R (.R (.L (.R (.one (.fr 0)))))) (G:=(mkG [])) .nil (L:=mkL [(0,Zq172.fr)]) (l:=[(0,.loop Zq172.c)]) ⟨Lam.cons Zq172.ok,trivial⟩
  (fun x=>by simp only[Zq173,mC,mB,mS,mO,mN];kernel_rfl)
end Zq173
def Zq174.B (a:List (List Int)) (b:List (List Int)) (i_:Int):Option (Int⊕((Bool⊕Unit))):=
 cond (decide (i_<(a.length:Int))) (cond (inB i_ a.length) (cond (inB i_ b.length) ((Zq173 (a.getD i_.toNat []) (b.getD i_.toNat [])).bind fun r=>cond (!r) (some (.inr (.inl false))) (some (.inl (w64 (i_+1))))) none) none) (some (.inr (.inr ())))
def Zq174 (a:List (List Int)) (b:List (List Int)):Int→Option ((Bool⊕Unit)):=
 loopL fun s=>Zq174.B a b s
def Zq175 (a:List (List Int)) (b:List (List Int)):Option Bool:=
 cond ((a.length:Int) != (b.length:Int)) (some false) ((Zq174 a b 0).bind fun o=>sel o (fun b2=>some b2) (fun c=>some true))
namespace Zq175
def G:Gam:=mkG [(93,Zq173.FS)]
theorem Gok:GOk PR G:=.cons Zq173.ok .nil
end Zq175
namespace Zq174
def c:=codeAt (bodyOf Proofs.Tryz.f60) [1,1,0,1,0,0]
def sp:SP:=⟨[(0,.cs (.sl SB)),(1,.cs (.sl SB)),(5,.cs I64)],[]⟩
def out (a:List (List Int)) (b:List (List Int)):FOut ((Bool⊕Unit)):=fun oo0 _ kk0=>sel oo0 (fun bb0=>kk0 (.rt) ⟨[(4,.cs .bool bb0)],[]⟩) (fun cc0=>kk0 (.ex 0) ⟨[],[]⟩)
def fr:=lfrag sp (fun x=>Zq174 x.1.1 x.1.2.1 x.1.2.2.1) fun x=>out x.1.1 x.1.2.1
theorem ok:CodeOk PR 27 2 (.loop c) fr:=
 lp_ok tbok hmix h0 .no (G:=Zq175.G) Zq175.Gok (L:=mkL []) (l:=[]) hT [0,1,5] [] [(0,([],[]))] ([4],[]) (fun x s=>B x.1.1 x.1.2.1 s) (fun x s=>⟨[(0,.cs (.sl SB) x.1.1),(1,.cs (.sl SB) x.1.2.1),(5,.cs I64 s)],[]⟩) (fun x=>x.1.2.2.1)
  (fun x s=>by simp only[B,mC,mB,mS,mO,mN];kernel_rfl)
end Zq174
namespace Zq175
def pts:List PT:=[.cs (.sl SB),.cs (.sl SB)]
def FS:FS:=mkFS [.sh,.sh] pts (fun x=>Zq175 x.1 x.2.1) fun t=>⟨[.cs .bool t],[]⟩
theorem ok:FsOk PR 60 FS:=
 fn_ok tbok hmix Proofs.Tryz.f60 h0 (.R (.R (.L (.R (.one (.fr 0)))))) (G:=G) Gok (L:=mkL [(0,Zq174.fr)]) (l:=[(0,.loop Zq174.c)]) ⟨Lam.cons Zq174.ok,trivial⟩
  (fun x=>by simp only[Zq175,mC,mB,mS,mO,mN];kernel_rfl)
end Zq175
def Zq176 (a:Fs_) (b:Fs_):Option Bool:=
 (Zq171 a.1 b.1).bind fun r=>cond (!r) (some false) ((Zq175 a.2.1 b.2.1).bind fun r2=>cond (!r2) (some false) (some true))
namespace Zq176
def G:Gam:=mkG [(59,Zq171.FS),(60,Zq175.FS)]
def pts:List PT:=[.cs tFs_,.cs tFs_]
def FS:FS:=mkFS [.sh,.sh] pts (fun x=>Zq176 x.1 x.2.1) fun t=>⟨[.cs .bool t],[]⟩
theorem ok:FsOk PR 26 FS:=
 fn_ok tbok hmix Proofs.Tryz.f26 ⟨[2,3],[],[],0⟩ .no (G:=G) (show GOk PR G from .cons Zq171.ok (.cons Zq175.ok .nil)) (L:=mkL []) (l:=[]) hT
  (fun x=>by simp only[Zq176,mC,mB,mS,mO,mN];kernel_rfl)
end Zq176
def Zq177 (a:FsResult_) (b:FsResult_):Option Bool:=
 cond (a.1 != b.1) (some false) ((Zq176 a.2.1 b.2.1).bind fun r=>cond (!r) (some false) (some true))
namespace Zq177
def G:Gam:=mkG [(26,Zq176.FS)]
def pts:List PT:=[.cs tFsResult_,.cs tFsResult_]
def FS:FS:=mkFS [.sh,.sh] pts (fun x=>Zq177 x.1 x.2.1) fun t=>⟨[.cs .bool t],[]⟩
theorem ok:FsOk PR 8 FS:=
 fn_ok tbok hmix Proofs.Tryz.f8 ⟨[2,3],[],[],0⟩ .no (G:=G) (show GOk PR G from .cons Zq176.ok .nil) (L:=mkL []) (l:=[]) hT
  (fun x=>by simp only[Zq177,mC,mB,mS,mO,mN];kernel_rfl)
end Zq177
def Zq178.B (a:List (List Int)) (b:List (List Int)) (i_:Int):Option (Int⊕((Bool⊕Unit))):=
 cond (decide (i_<(a.length:Int))) (cond (inB i_ a.length) (cond (inB i_ b.length) ((Zq165 (a.getD i_.toNat []) (b.getD i_.toNat [])).bind fun r=>cond (!r) (some (.inr (.inl false))) (some (.inl (w64 (i_+1))))) none) none) (some (.inr (.inr ())))
def Zq178 (a:List (List Int)) (b:List (List Int)):Int→Option ((Bool⊕Unit)):=
 loopL fun s=>Zq178.B a b s
def Zq179 (a:List (List Int)) (b:List (List Int)):Option Bool:=
 cond ((a.length:Int) != (b.length:Int)) (some false) ((Zq178 a b 0).bind fun o=>sel o (fun b2=>some b2) (fun c=>some true))
namespace Zq179
def G:Gam:=mkG [(61,Zq165.FS)]
theorem Gok:GOk PR G:=.cons Zq165.ok .nil
end Zq179
namespace Zq178
def c:=codeAt (bodyOf Proofs.Tryz.f27) [1,1,0,1,0,0]
def sp:SP:=⟨[(0,.cs (.sl SI)),(1,.cs (.sl SI)),(5,.cs I64)],[]⟩
def out (a:List (List Int)) (b:List (List Int)):FOut ((Bool⊕Unit)):=fun oo0 _ kk0=>sel oo0 (fun bb0=>kk0 (.rt) ⟨[(4,.cs .bool bb0)],[]⟩) (fun cc0=>kk0 (.ex 0) ⟨[],[]⟩)
def fr:=lfrag sp (fun x=>Zq178 x.1.1 x.1.2.1 x.1.2.2.1) fun x=>out x.1.1 x.1.2.1
theorem ok:CodeOk PR 27 2 (.loop c) fr:=
 lp_ok tbok hmix h0 .no (G:=Zq179.G) Zq179.Gok (L:=mkL []) (l:=[]) hT [0,1,5] [] [(0,([],[]))] ([4],[]) (fun x s=>B x.1.1 x.1.2.1 s) (fun x s=>⟨[(0,.cs (.sl SI) x.1.1),(1,.cs (.sl SI) x.1.2.1),(5,.cs I64 s)],[]⟩) (fun x=>x.1.2.2.1)
  (fun x s=>by simp only[B,mC,mB,mS,mO,mN];kernel_rfl)
end Zq178
namespace Zq179
def pts:List PT:=[.cs (.sl SI),.cs (.sl SI)]
def FS:FS:=mkFS [.sh,.sh] pts (fun x=>Zq179 x.1 x.2.1) fun t=>⟨[.cs .bool t],[]⟩
theorem ok:FsOk PR 27 FS:=
 fn_ok tbok hmix Proofs.Tryz.f27 h0 (.R (.R (.L (.R (.one (.fr 0)))))) (G:=G) Gok (L:=mkL [(0,Zq178.fr)]) (l:=[(0,.loop Zq178.c)]) ⟨Lam.cons Zq178.ok,trivial⟩
  (fun x=>by simp only[Zq179,mC,mB,mS,mO,mN];kernel_rfl)
end Zq179
def Zq180 (a:Put_) (b:Put_):Option Bool:=
 cond (a.1 != b.1) (some false) ((Zq165 a.2.1 b.2.1).bind fun r=>cond (!r) (some false) (some true))
namespace Zq180
def G:Gam:=mkG [(61,Zq165.FS)]
def pts:List PT:=[.cs tPut_,.cs tPut_]
def FS:FS:=mkFS [.sh,.sh] pts (fun x=>Zq180 x.1 x.2.1) fun t=>⟨[.cs .bool t],[]⟩
theorem ok:FsOk PR 62 FS:=
 fn_ok tbok hmix Proofs.Tryz.f62 ⟨[2,3],[],[],0⟩ .no (G:=G) (show GOk PR G from .cons Zq165.ok .nil) (L:=mkL []) (l:=[]) hT
  (fun x=>by simp only[Zq180,mC,mB,mS,mO,mN];kernel_rfl)
end Zq180
def Zq181.B (a:List Put_) (b:List Put_) (i_:Int):Option (Int⊕((Bool⊕Unit))):=
 cond (decide (i_<(a.length:Int))) (cond (inB i_ a.length) (cond (inB i_ b.length) ((Zq180 (a.getD i_.toNat zPut_) (b.getD i_.toNat zPut_)).bind fun r=>cond (!r) (some (.inr (.inl false))) (some (.inl (w64 (i_+1))))) none) none) (some (.inr (.inr ())))
def Zq181 (a:List Put_) (b:List Put_):Int→Option ((Bool⊕Unit)):=
 loopL fun s=>Zq181.B a b s
def Zq182 (a:List Put_) (b:List Put_):Option Bool:=
 cond ((a.length:Int) != (b.length:Int)) (some false) ((Zq181 a b 0).bind fun o=>sel o (fun b2=>some b2) (fun c=>some true))
namespace Zq182
def G:Gam:=mkG [(62,Zq180.FS)]
theorem Gok:GOk PR G:=.cons Zq180.ok .nil
end Zq182
namespace Zq181
def c:=codeAt (bodyOf Proofs.Tryz.f28) [1,1,0,1,0,0]
def sp:SP:=⟨[(0,.cs (.sl tPut_)),(1,.cs (.sl tPut_)),(5,.cs I64)],[]⟩
def out (a:List Put_) (b:List Put_):FOut ((Bool⊕Unit)):=fun oo0 _ kk0=>sel oo0 (fun bb0=>kk0 (.rt) ⟨[(4,.cs .bool bb0)],[]⟩) (fun cc0=>kk0 (.ex 0) ⟨[],[]⟩)
def fr:=lfrag sp (fun x=>Zq181 x.1.1 x.1.2.1 x.1.2.2.1) fun x=>out x.1.1 x.1.2.1
theorem ok:CodeOk PR 27 2 (.loop c) fr:=
 lp_ok tbok hmix h0 .no (G:=Zq182.G) Zq182.Gok (L:=mkL []) (l:=[]) hT [0,1,5] [] [(0,([],[]))] ([4],[]) (fun x s=>B x.1.1 x.1.2.1 s) (fun x s=>⟨[(0,.cs (.sl tPut_) x.1.1),(1,.cs (.sl tPut_) x.1.2.1),(5,.cs I64 s)],[]⟩) (fun x=>x.1.2.2.1)
  (fun x s=>by simp only[B,mC,mB,mS,mO,mN];kernel_rfl)
end Zq181
namespace Zq182
def pts:List PT:=[.cs (.sl tPut_),.cs (.sl tPut_)]
def FS:FS:=mkFS [.sh,.sh] pts (fun x=>Zq182 x.1 x.2.1) fun t=>⟨[.cs .bool t],[]⟩
theorem ok:FsOk PR 28 FS:=
 fn_ok tbok hmix Proofs.Tryz.f28 h0 (.R (.R (.L (.R (.one (.fr 0)))))) (G:=G) Gok (L:=mkL [(0,Zq181.fr)]) (l:=[(0,.loop Zq181.c)]) ⟨Lam.cons Zq181.ok,trivial⟩
  (fun x=>by simp only[Zq182,mC,mB,mS,mO,mN];kernel_rfl)
end Zq182
def Zq183 (a:Disk_) (b:Disk_):Option Bool:=
 (Zq179 a.1 b.1).bind fun r=>cond (!r) (some false) ((Zq182 a.2.1 b.2.1).bind fun r2=>cond (!r2) (some false) (some true))
namespace Zq183
def G:Gam:=mkG [(27,Zq179.FS),(28,Zq182.FS)]
def pts:List PT:=[.cs tDisk_,.cs tDisk_]
def FS:FS:=mkFS [.sh,.sh] pts (fun x=>Zq183 x.1 x.2.1) fun t=>⟨[.cs .bool t],[]⟩
theorem ok:FsOk PR 9 FS:=
 fn_ok tbok hmix Proofs.Tryz.f9 ⟨[2,3],[],[],0⟩ .no (G:=G) (show GOk PR G from .cons Zq179.ok (.cons Zq182.ok .nil)) (L:=mkL []) (l:=[]) hT
  (fun x=>by simp only[Zq183,mC,mB,mS,mO,mN];kernel_rfl)
end Zq183
def Zq184.B (k_:Int) (i_:Int) (a_:List Int):Option ((Int×Int×List Int)⊕(Int×List Int)):=
 cond (decide (i_<(a_.length:Int))) (cond (inB i_ a_.length) (some (.inl (w64 (k_+1),w64 (i_+1),a_.set i_.toNat k_))) none) (some (.inr (k_,a_)))
def Zq184 :(Int×Int×List Int)→Option (Int×List Int):=
 loopL fun s=>Zq184.B s.1 s.2.1 s.2.2
def Zq185 (a:List Int) (k:Int):Option (Int×List Int):=
 (Zq184 (k,0,a)).bind fun o=>some (o.1,o.2)
namespace Zq184
def c:=codeAt (bodyOf Proofs.Tryz.f63) [1,0,1,0,0]
def sp:SP:=⟨[(0,.seg 0 []),(1,.cs I64),(5,.cs I64)],[(0,.reg,.cd SI)]⟩
def out :FOut (Int×List Int):=fun bb0 _ kk0=>kk0 (.ex 0) ⟨[(1,.cs I64 bb0.1)],[sr 0 (.cd SI bb0.2)]⟩
def fr:=lfrag sp (fun x=>Zq184  (x.1.2.1,x.1.2.2.1,x.2.1)) fun x=>out
theorem ok:CodeOk PR 19 2 (.loop c) fr:=
 lp_ok tbok hmix h0 .no (G:=(mkG [])) .nil (L:=mkL []) (l:=[]) hT [0,1,5] [0] [(0,([1],[0]))] ([],[]) (fun x s=>B  s.1 s.2.1 s.2.2) (fun x s=>⟨[(0,.seg 0 []),(1,.cs I64 s.1),(5,.cs I64 s.2.1)],[sr 0 (.cd SI s.2.2)]⟩) (fun x=>(x.1.2.1,x.1.2.2.1,x.2.1))
  (fun x s=>by simp only[B,mC,mB,mS,mO,mN];kernel_rfl)
end Zq184
namespace Zq185
def pts:List PT:=[.cd SI,.cs I64]
def FS:FS:=mkFS [.mu,.sh] pts (fun x=>Zq185 x.1 x.2.1) fun t=>⟨[.cs I64 t.1],[.cd SI t.2]⟩
theorem ok:FsOk PR 63 FS:=
 fn_ok tbok hmix Proofs.Tryz.f63 h0 (.R (.L (.R (.one (.fr 0))))) (G:=(mkG [])) .nil (L:=mkL [(0,Zq184.fr)]) (l:=[(0,.loop Zq184.c)]) ⟨Lam.cons Zq184.ok,trivial⟩
  (fun x=>by simp only[Zq185,mC,mB,mS,mO,mN];kernel_rfl)
end Zq185
def Zq186.B (k_:Int) (i_:Int) (a_:List (List Int)):Option ((Int×Int×List (List Int))⊕(Int×List (List Int))):=
 cond (decide (i_<(a_.length:Int))) (cond (inB i_ a_.length) ((Zq185 (a_.getD i_.toNat []) k_).bind fun r=>some (.inl (r.1,w64 (i_+1),a_.set i_.toNat r.2))) none) (some (.inr (k_,a_)))
def Zq186 :(Int×Int×List (List Int))→Option (Int×List (List Int)):=
 loopL fun s=>Zq186.B s.1 s.2.1 s.2.2
def Zq187 (a:List (List Int)) (k:Int):Option (Int×List (List Int)):=
 (Zq186 (k,0,a)).bind fun o=>some (o.1,o.2)
namespace Zq187
def G:Gam:=mkG [(63,Zq185.FS)]
theorem Gok:GOk PR G:=.cons Zq185.ok .nil
end Zq187
namespace Zq186
def c:=codeAt (bodyOf Proofs.Tryz.f29) [1,0,1,0,0]
def sp:SP:=⟨[(0,.seg 0 []),(1,.cs I64),(5,.cs I64)],[(0,.reg,.cd (.sl SI))]⟩
def out :FOut (Int×List (List Int)):=fun bb0 _ kk0=>kk0 (.ex 0) ⟨[(1,.cs I64 bb0.1)],[sr 0 (.cd (.sl SI) bb0.2)]⟩
def fr:=lfrag sp (fun x=>Zq186  (x.1.2.1,x.1.2.2.1,x.2.1)) fun x=>out
theorem ok:CodeOk PR 19 2 (.loop c) fr:=
 lp_ok tbok hmix h0 .no (G:=Zq187.G) Zq187.Gok (L:=mkL []) (l:=[]) hT [0,1,5] [0] [(0,([1],[0]))] ([],[]) (fun x s=>B  s.1 s.2.1 s.2.2) (fun x s=>⟨[(0,.seg 0 []),(1,.cs I64 s.1),(5,.cs I64 s.2.1)],[sr 0 (.cd (.sl SI) s.2.2)]⟩) (fun x=>(x.1.2.1,x.1.2.2.1,x.2.1))
  (fun x s=>by simp only[B,mC,mB,mS,mO,mN];kernel_rfl)
end Zq186
namespace Zq187
def pts:List PT:=[.cd (.sl SI),.cs I64]
def FS:FS:=mkFS [.mu,.sh] pts (fun x=>Zq187 x.1 x.2.1) fun t=>⟨[.cs I64 t.1],[.cd (.sl SI) t.2]⟩
theorem ok:FsOk PR 29 FS:=
 fn_ok tbok hmix Proofs.Tryz.f29 h0 (.R (.L (.R (.one (.fr 0))))) (G:=G) Gok (L:=mkL [(0,Zq186.fr)]) (l:=[(0,.loop Zq186.c)]) ⟨Lam.cons Zq186.ok,trivial⟩
  (fun x=>by simp only[Zq187,mC,mB,mS,mO,mN];kernel_rfl)
end Zq187
end Mf
