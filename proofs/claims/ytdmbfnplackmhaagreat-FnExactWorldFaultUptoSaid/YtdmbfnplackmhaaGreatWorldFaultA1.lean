import Derived.Test.YtdmbfnplackmhaaGreatWorldFaultH
import Derived.Test.YtdmbfnplackmhaaGreatMf8
import Derived.Test.YtdmbfnplackmhaaGreatProg
import Derived.KernelRfl
import Derived.Shelf.SortM.Plain
import Derived.Shelf.SortM.SortNone
import Derived.Shelf.SlGeneric
import Derived.Ground.SlgmProg
namespace Go.Proofs
open Go.Shelf
def Tryz.sortLay_ren:Go.Shelf.Ren:=⟨fun | 5=>190 | 8=>245 | 7=>244 | 19=>284 | 20=>285 | 10=>275 | 11=>276 | 12=>277 | 13=>278 | 14=>279 | 15=>280 | 16=>281 | 17=>282 | 18=>283 | 30=>309 | 31=>310 | 32=>311 | 33=>312 | 34=>313 | 35=>314 | 40=>324 | n=>n,fun | 23=>66 | 25=>2 | 3=>3 | 32=>265 | 22=>66 | 0=>0 | 44=>290 | 46=>292 | 4=>4 | 36=>282 | 35=>281 | 41=>287 | 5=>5 | 9=>9 | 53=>317 | 57=>321 | 63=>334 | 64=>335 | n=>n,fun | n=>n⟩
theorem Tryz.sortLay:Go.Proofs.SlLaysM.n5 Tryz.prog Tryz.sortLay_ren:={
 mixed:=by kernel_rfl
 f5:=⟨Tryz.f190.name,by decide,Tryz.func190.trans (congrArg some (by kernel_rfl))⟩
 f7:=⟨Tryz.f244.name,by decide,Tryz.func244.trans (congrArg some (by kernel_rfl))⟩
 f8:=Tryz.func245.trans (congrArg some (by kernel_rfl))
 f10:=⟨Tryz.f275.name,by decide,Tryz.func275.trans (congrArg some (by kernel_rfl))⟩
 f11:=⟨Tryz.f276.name,by decide,Tryz.func276.trans (congrArg some (by kernel_rfl))⟩
 f12:=⟨Tryz.f277.name,by decide,Tryz.func277.trans (congrArg some (by kernel_rfl))⟩
 f13:=⟨Tryz.f278.name,by decide,Tryz.func278.trans (congrArg some (by kernel_rfl))⟩
 f14:=⟨Tryz.f279.name,by decide,Tryz.func279.trans (congrArg some (by kernel_rfl))⟩
 f15:=⟨Tryz.f280.name,by decide,Tryz.func280.trans (congrArg some (by kernel_rfl))⟩
 f16:=⟨Tryz.f281.name,by decide,Tryz.func281.trans (congrArg some (by kernel_rfl))⟩
 f17:=⟨Tryz.f282.name,by decide,Tryz.func282.trans (congrArg some (by kernel_rfl))⟩
 f18:=⟨Tryz.f283.name,by decide,Tryz.func283.trans (congrArg some (by kernel_rfl))⟩
 f19:=Tryz.func284.trans (congrArg some (by kernel_rfl))
 f20:=Tryz.func285.trans (congrArg some (by kernel_rfl))
 f30:=⟨Tryz.f309.name,by decide,Tryz.func309.trans (congrArg some (by kernel_rfl))⟩
 f31:=Tryz.func310.trans (congrArg some (by kernel_rfl))
 f32:=Tryz.func311.trans (congrArg some (by kernel_rfl))
 f33:=⟨Tryz.f312.name,by decide,Tryz.func312.trans (congrArg some (by kernel_rfl))⟩
 f34:=⟨Tryz.f313.name,by decide,Tryz.func313.trans (congrArg some (by kernel_rfl))⟩
 f35:=⟨Tryz.f314.name,by decide,Tryz.func314.trans (congrArg some (by kernel_rfl))⟩
 f40:=⟨Tryz.f324.name,by decide,Tryz.func324.trans (congrArg some (by kernel_rfl))⟩
 t0:=Tryz.underlying0
 a0:=Tryz.isAgg0
 z0:=Tryz.sizeOf0
 v0:=Tryz.zeroValue0
 t3:=Tryz.underlying3
 a3:=Tryz.isAgg3
 z3:=Tryz.sizeOf3
 v3:=Tryz.zeroValue3
 t4:=Tryz.underlying4
 a4:=Tryz.isAgg4
 z4:=Tryz.sizeOf4
 v4:=Tryz.zeroValue4
 t5:=Tryz.underlying5
 a5:=Tryz.isAgg5
 z5:=Tryz.sizeOf5
 v5:=Tryz.zeroValue5
 t9:=Tryz.underlying9
 a9:=Tryz.isAgg9
 z9:=Tryz.sizeOf9
 v9:=Tryz.zeroValue9
 t22:=Tryz.underlying66
 a22:=Tryz.isAgg66
 z22:=Tryz.sizeOf66
 v22:=Tryz.zeroValue66
 t23:=Tryz.underlying66
 a23:=Tryz.isAgg66
 z23:=Tryz.sizeOf66
 v23:=Tryz.zeroValue66
 t25:=Tryz.underlying2
 a25:=Tryz.isAgg2
 z25:=Tryz.sizeOf2
 v25:=Tryz.zeroValue2
 t32:=Tryz.underlying265
 a32:=Tryz.isAgg265
 z32:=Tryz.sizeOf265
 v32:=Tryz.zeroValue265
 t35:=Tryz.underlying281
 a35:=Tryz.isAgg281
 z35:=Tryz.sizeOf281
 v35:=Tryz.zeroValue281
 t36:=Tryz.underlying282
 a36:=Tryz.isAgg282
 z36:=Tryz.sizeOf282
 v36:=Tryz.zeroValue282
 t41:=Tryz.underlying287
 a41:=Tryz.isAgg287
 z41:=Tryz.sizeOf287
 v41:=Tryz.zeroValue287
 t44:=Tryz.underlying290
 a44:=Tryz.isAgg290
 z44:=Tryz.sizeOf290
 v44:=Tryz.zeroValue290
 t46:=Tryz.underlying292
 a46:=Tryz.isAgg292
 z46:=Tryz.sizeOf292
 v46:=Tryz.zeroValue292
 t53:=Tryz.underlying317
 a53:=Tryz.isAgg317
 z53:=Tryz.sizeOf317
 v53:=Tryz.zeroValue317
 t57:=Tryz.underlying321
 a57:=Tryz.isAgg321
 z57:=Tryz.sizeOf321
 v57:=Tryz.zeroValue321
 t63:=Tryz.underlying334
 a63:=Tryz.isAgg334
 z63:=Tryz.sizeOf334
 v63:=Tryz.zeroValue334
 t64:=Tryz.underlying335
 a64:=Tryz.isAgg335
 z64:=Tryz.sizeOf335
 v64:=Tryz.zeroValue335 }
end Go.Proofs
noncomputable section
namespace Mf
open Go
set_option linter.unusedVariables false
set_option linter.unusedSimpArgs false
set_option maxRecDepth 100000
abbrev tPut_:Ty:=(.pair (.int .i64) (.pair (.sl (.int .i64)) .unit))
abbrev Put_:Type:=Int×(List Int)×Unit
def zPut_:Put_:=(0,[],())
abbrev tDisk_:Ty:=(.pair (.sl (.sl (.int .i64))) (.pair (.sl tPut_) .unit))
abbrev Disk_:Type:=(List (List Int))×(List Put_)×Unit
def zDisk_:Disk_:=([],[],())
abbrev tStep_:Ty:=(.pair .bool tPut_)
abbrev Step_:Type:=Bool×Put_
def zStep_:Step_:=(false,0,[],())
abbrev tEntry_:Ty:=(.pair .str (.pair (.int .i64) .unit))
abbrev Entry_:Type:=(List UInt8)×Int×Unit
def zEntry_:Entry_:=([],0,())
abbrev tInode_:Ty:=(.pair (.int .i64) (.pair (.int .i64) (.pair (.int .i64) (.pair (.sl (.int .i64)) (.pair (.sl tEntry_) .unit)))))
abbrev Inode_:Type:=Int×Int×Int×(List Int)×(List Entry_)×Unit
def zInode_:Inode_:=(0,0,0,[],[],())
abbrev tFs_:Ty:=(.pair (.sl tInode_) (.pair (.sl (.sl (.int .u8))) .unit))
abbrev Fs_:Type:=(List Inode_)×(List (List Int))×Unit
def zFs_:Fs_:=([],[],())
abbrev tWorld_:Ty:=(.pair tDisk_ (.pair tFs_ (.pair tFs_ .unit)))
abbrev World_:Type:=Disk_×Fs_×Fs_×Unit
def zWorld_:World_:=(([],[],()),([],[],()),([],[],()),())
abbrev tBytesResult_:Ty:=(.pair (.int .i64) (.pair (.sl (.int .u8)) .unit))
abbrev BytesResult_:Type:=Int×(List Int)×Unit
def zBytesResult_:BytesResult_:=(0,[],())
abbrev tCall_:Ty:=(.pair (.int .i64) (.pair .str (.pair .str (.pair (.int .i64) tBytesResult_))))
abbrev Call_:Type:=Int×(List UInt8)×(List UInt8)×Int×BytesResult_
def zCall_:Call_:=(0,[],[],0,0,[],())
abbrev tCallResult_:Ty:=(.pair (.int .i64) (.pair (.int .i64) (.pair (.int .i64) (.pair (.sl (.int .u8)) (.pair (.sl .str) (.pair tFs_ .unit))))))
abbrev CallResult_:Type:=Int×Int×Int×(List Int)×(List (List UInt8))×Fs_×Unit
def zCallResult_:CallResult_:=(0,0,0,[],[],([],[],()),())
abbrev tDiskResult_:Ty:=(.pair (.int .i64) (.pair tDisk_ .unit))
abbrev DiskResult_:Type:=Int×Disk_×Unit
def zDiskResult_:DiskResult_:=(0,([],[],()),())
abbrev tFsResult_:Ty:=(.pair (.int .i64) (.pair tFs_ .unit))
abbrev FsResult_:Type:=Int×Fs_×Unit
def zFsResult_:FsResult_:=(0,([],[],()),())
abbrev tIntResult_:Ty:=(.pair (.int .i64) (.pair (.int .i64) .unit))
abbrev IntResult_:Type:=Int×Int×Unit
def zIntResult_:IntResult_:=(0,0,())
abbrev tNamesResult_:Ty:=(.pair (.int .i64) (.pair (.sl .str) .unit))
abbrev NamesResult_:Type:=Int×(List (List UInt8))×Unit
def zNamesResult_:NamesResult_:=(0,[],())
abbrev tPutsResult_:Ty:=(.pair (.int .i64) (.pair (.sl tPut_) .unit))
abbrev PutsResult_:Type:=Int×(List Put_)×Unit
def zPutsResult_:PutsResult_:=(0,[],())
abbrev tStatResult_:Ty:=(.pair (.int .i64) (.pair (.int .i64) (.pair (.int .i64) tIntResult_)))
abbrev StatResult_:Type:=Int×Int×Int×IntResult_
def zStatResult_:StatResult_:=(0,0,0,0,0,())
abbrev tStepsResult_:Ty:=(.pair (.int .i64) (.pair (.sl tStep_) .unit))
abbrev StepsResult_:Type:=Int×(List Step_)×Unit
def zStepsResult_:StepsResult_:=(0,[],())
abbrev tWorldResult_:Ty:=(.pair (.int .i64) (.pair tCallResult_ (.pair tWorld_ .unit)))
abbrev WorldResult_:Type:=Int×CallResult_×World_×Unit
def zWorldResult_:WorldResult_:=(0,(0,0,0,[],[],([],[],()),()),(([],[],()),([],[],()),([],[],()),()),())
abbrev tLook_:Ty:=(.pair tFs_ (.pair (.sl .bool) (.pair (.sl (.sl tEntry_)) (.pair (.int .i64) (.pair (.sl (.int .i64)) (.pair (.sl (.int .i64)) .unit))))))
abbrev Look_:Type:=Fs_×(List Bool)×(List (List Entry_))×Int×(List Int)×(List Int)×Unit
def zLook_:Look_:=(([],[],()),[],[],0,[],[],())
abbrev tBoundsError_:Ty:=(.pair (.int .i64) (.pair (.int .i64) (.pair .bool (.pair (.int .u8) .unit))))
abbrev BoundsError_:Type:=Int×Int×Bool×Int×Unit
def zBoundsError_:BoundsError_:=(0,0,false,0,())
abbrev tErrorAddressString_:Ty:=(.pair .str (.pair (.int .u64) .unit))
abbrev ErrorAddressString_:Type:=(List UInt8)×Int×Unit
def zErrorAddressString_:ErrorAddressString_:=([],0,())
abbrev tL1Src_:Ty:=(.pair (.sl (.int .u8)) (.pair (.int .i64) .unit))
abbrev L1Src_:Type:=(List Int)×Int×Unit
def zL1Src_:L1Src_:=([],0,())
abbrev PR:Program:=Go.Proofs.Tryz.prog
def tb:Tb:=[(2,⟨.int .i64,(.int .i64),8⟩),(3,⟨.int .i64,(.int .i64),8⟩),(4,⟨.bool,.bool,1⟩),(5,⟨.int .u8,(.int .u8),1⟩),(6,⟨.int .u8,(.int .u8),1⟩),(7,⟨.st [0,1,2,3],tBoundsError_,24⟩),(8,⟨.st [0,1,2,3],tBoundsError_,24⟩),(9,⟨.str,.str,16⟩),(10,⟨.str,.str,16⟩),(11,⟨.str,.str,16⟩),(12,⟨.int .u64,(.int .u64),8⟩),(13,⟨.st [0,1],tErrorAddressString_,24⟩),(14,⟨.st [0,1],tErrorAddressString_,24⟩),(21,⟨.int .i32,(.int .i32),4⟩),(22,⟨.sl 66,(.sl (.sl (.int .i64))),24⟩),(23,⟨.sl 174,(.sl tPut_),24⟩),(24,⟨.st [0,1],tDisk_,48⟩),(25,⟨.st [0,1],tDisk_,48⟩),(26,⟨.sl 178,(.sl tInode_),24⟩),(27,⟨.sl 60,(.sl (.sl (.int .u8))),24⟩),(28,⟨.st [0,1],tFs_,48⟩),(29,⟨.st [0,1],tFs_,48⟩),(30,⟨.st [0,2,4],tWorld_,144⟩),(31,⟨.st [0,2,4],tWorld_,144⟩),(34,⟨.sl 85,(.sl tPut_),24⟩),(35,⟨.st [0,1],tDisk_,48⟩),(36,⟨.st [0,1],tDisk_,48⟩),(37,⟨.sl 136,(.sl tInode_),24⟩),(38,⟨.st [0,1],tFs_,48⟩),(39,⟨.st [0,1],tFs_,48⟩),(40,⟨.st [0,2,4],tWorld_,144⟩),(41,⟨.st [0,2,4],tWorld_,144⟩),(47,⟨.sl 186,(.sl tStep_),24⟩),(48,⟨.st [0,1],tStepsResult_,32⟩),(49,⟨.st [0,1],tStepsResult_,32⟩),(60,⟨.sl 5,(.sl (.int .u8)),24⟩),(63,⟨.st [0,1],tFsResult_,56⟩),(64,⟨.st [0,1],tFsResult_,56⟩),(66,⟨.sl 2,(.sl (.int .i64)),24⟩),(67,⟨.st [0,1],tPut_,32⟩),(68,⟨.st [0,1],tPut_,32⟩),(76,⟨.st [0,1],tPutsResult_,32⟩),(77,⟨.st [0,1],tPutsResult_,32⟩),(79,⟨.st [0,1],tDiskResult_,56⟩),(80,⟨.st [0,1],tDiskResult_,56⟩),(84,⟨.st [0,1],tPut_,32⟩),(85,⟨.st [0,1],tPut_,32⟩),(87,⟨.st [0,1],tIntResult_,16⟩),(88,⟨.st [0,1],tIntResult_,16⟩),(90,⟨.sl 9,(.sl .str),24⟩),(91,⟨.st [0,1,2,3,4,5],tCallResult_,120⟩),(92,⟨.st [0,1,2,3,4,5],tCallResult_,120⟩),(93,⟨.st [0,1,8],tWorldResult_,272⟩),(94,⟨.st [0,1,8],tWorldResult_,272⟩),(134,⟨.sl 201,(.sl tEntry_),24⟩),(135,⟨.st [0,1,2,3,4],tInode_,72⟩),(136,⟨.st [0,1,2,3,4],tInode_,72⟩),(174,⟨.st [0,1],tPut_,32⟩),(176,⟨.sl 270,(.sl tEntry_),24⟩),(177,⟨.st [0,1,2,3,4],tInode_,72⟩),(178,⟨.st [0,1,2,3,4],tInode_,72⟩),(185,⟨.st [0,1,2],tStep_,40⟩),(186,⟨.st [0,1,2],tStep_,40⟩),(200,⟨.st [0,1],tEntry_,24⟩),(201,⟨.st [0,1],tEntry_,0⟩),(204,⟨.st [0,1],tL1Src_,32⟩),(205,⟨.st [0,1],tL1Src_,32⟩),(207,⟨.sl 4,(.sl .bool),24⟩),(208,⟨.sl 134,(.sl (.sl tEntry_)),24⟩),(209,⟨.st [0,2,3,4,5,6],tLook_,152⟩),(210,⟨.st [0,2,3,4,5,6],tLook_,152⟩),(214,⟨.arr 20 2,(.arr 20 (.int .i64)),160⟩),(251,⟨.sl 47,(.sl (.sl tStep_)),24⟩),(256,⟨.st [0,1,2,3,4,5],tCall_,80⟩),(257,⟨.st [0,1,2,3,4,5],tCall_,80⟩),(265,⟨.int .u64,(.int .u64),8⟩),(270,⟨.st [0,1],tEntry_,24⟩),(281,⟨.int .i64,(.int .i64),8⟩),(290,⟨.int .u32,(.int .u32),4⟩),(292,⟨.int .u64,(.int .u64),8⟩),(299,⟨.st [0,1],tBytesResult_,32⟩),(300,⟨.st [0,1],tBytesResult_,32⟩),(309,⟨.st [0,1,2,3,4],tStatResult_,40⟩),(310,⟨.st [0,1,2,3,4],tStatResult_,40⟩),(312,⟨.st [0,1],tNamesResult_,32⟩),(313,⟨.st [0,1],tNamesResult_,32⟩),(317,⟨.int .u64,(.int .u64),8⟩),(349,⟨.int .u8,(.int .u8),1⟩),(350,⟨.int .u8,(.int .u8),1⟩),(353,⟨.int .i32,(.int .i32),4⟩),(354,⟨.int .i32,(.int .i32),4⟩)]
theorem tbok:TbOk Go.Proofs.Tryz.prog tb:=tbB_ok (by kernel_rfl)
theorem hmix:Go.Proofs.Tryz.prog.follows .mixedOrders=true:=by kernel_rfl
def Zq0 (a:List Int) (left:Int):Option Int:=
 cond (decide ((w64 (left-(a.length:Int)))<0)) (some (-1)) (some (w64 (left-(a.length:Int))))
namespace Zq0
def pts:List PT:=[.cs SI,.cs I64]
def FS:FS:=mkFS [.sh,.sh] pts (fun x=>Zq0 x.1 x.2.1) fun t=>⟨[.cs I64 t],[]⟩
theorem ok:FsOk PR 136 FS:=
 fn_ok tbok hmix Proofs.Tryz.f136 h0 .no (G:=(mkG [])) .nil (L:=mkL []) (l:=[]) hT
  (fun x=>by simp only[Zq0,mC,mB,mS,mO,mN];kernel_rfl)
end Zq0
def Zq1.B (a:List (List Int)) (left_:Int) (i_:Int):Option ((Int×Int)⊕((Int⊕Int))):=
 cond (decide (i_<(a.length:Int))) (cond (inB i_ a.length) ((Zq0 (a.getD i_.toNat []) left_).bind fun r=>cond (decide (r<0)) (some (.inr (.inl (-1)))) (some (.inl (r,w64 (i_+1))))) none) (some (.inr (.inr left_)))
def Zq1 (a:List (List Int)):(Int×Int)→Option ((Int⊕Int)):=
 loopL fun s=>Zq1.B a s.1 s.2
def Zq2 (a:List (List Int)) (left:Int):Option Int:=
 cond (decide ((w64 (left-(a.length:Int)))<0)) (some (-1)) ((Zq1 a (w64 (left-(a.length:Int)),0)).bind fun o=>sel o (fun b=>some b) (fun c=>some c))
namespace Zq2
def G:Gam:=mkG [(136,Zq0.FS)]
theorem Gok:GOk PR G:=.cons Zq0.ok .nil
end Zq2
namespace Zq1
def c:=codeAt (bodyOf Proofs.Tryz.f58) [1,1,1,0,1,0,0]
def sp:SP:=⟨[(0,.cs (.sl SI)),(1,.cs I64),(5,.cs I64)],[]⟩
def out (a:List (List Int)):FOut ((Int⊕Int)):=fun oo0 _ kk0=>sel oo0 (fun bb0=>kk0 (.rt) ⟨[(4,.cs I64 bb0)],[]⟩) (fun cc0=>kk0 (.ex 0) ⟨[(1,.cs I64 cc0)],[]⟩)
def fr:=lfrag sp (fun x=>Zq1 x.1.1 (x.1.2.1,x.1.2.2.1)) fun x=>out x.1.1
theorem ok:CodeOk PR 27 2 (.loop c) fr:=
 lp_ok tbok hmix h0 .no (G:=Zq2.G) Zq2.Gok (L:=mkL []) (l:=[]) hT [0,1,5] [] [(0,([1],[]))] ([4],[]) (fun x s=>B x.1.1 s.1 s.2) (fun x s=>⟨[(0,.cs (.sl SI) x.1.1),(1,.cs I64 s.1),(5,.cs I64 s.2)],[]⟩) (fun x=>(x.1.2.1,x.1.2.2.1))
  (fun x s=>by simp only[B,mC,mB,mS,mO,mN];kernel_rfl)
end Zq1
namespace Zq2
def pts:List PT:=[.cs (.sl SI),.cs I64]
def FS:FS:=mkFS [.sh,.sh] pts (fun x=>Zq2 x.1 x.2.1) fun t=>⟨[.cs I64 t],[]⟩
theorem ok:FsOk PR 58 FS:=
 fn_ok tbok hmix Proofs.Tryz.f58 h0 (.R (.R (.R (.L (.R (.one (.fr 0))))))) (G:=G) Gok (L:=mkL [(0,Zq1.fr)]) (l:=[(0,.loop Zq1.c)]) ⟨Lam.cons Zq1.ok,trivial⟩
  (fun x=>by simp only[Zq2,mC,mB,mS,mO,mN];kernel_rfl)
end Zq2
def Zq3 (a:Put_) (left:Int):Option Int:=
 (Zq0 a.2.1 left).bind fun r=>cond (decide (r<0)) (some (-1)) (some r)
namespace Zq3
def G:Gam:=mkG [(136,Zq0.FS)]
def pts:List PT:=[.cs tPut_,.cs I64]
def FS:FS:=mkFS [.sh,.sh] pts (fun x=>Zq3 x.1 x.2.1) fun t=>⟨[.cs I64 t],[]⟩
theorem ok:FsOk PR 137 FS:=
 fn_ok tbok hmix Proofs.Tryz.f137 ⟨[2],[],[],0⟩ .no (G:=G) (show GOk PR G from .cons Zq0.ok .nil) (L:=mkL []) (l:=[]) hT
  (fun x=>by simp only[Zq3,mC,mB,mS,mO,mN];kernel_rfl)
end Zq3
def Zq4.B (a:List Put_) (left_:Int) (i_:Int):Option ((Int×Int)⊕((Int⊕Int))):=
 cond (decide (i_<(a.length:Int))) (cond (inB i_ a.length) ((Zq3 (a.getD i_.toNat zPut_) left_).bind fun r=>cond (decide (r<0)) (some (.inr (.inl (-1)))) (some (.inl (r,w64 (i_+1))))) none) (some (.inr (.inr left_)))
def Zq4 (a:List Put_):(Int×Int)→Option ((Int⊕Int)):=
 loopL fun s=>Zq4.B a s.1 s.2
def Zq5 (a:List Put_) (left:Int):Option Int:=
 cond (decide ((w64 (left-(a.length:Int)))<0)) (some (-1)) ((Zq4 a (w64 (left-(a.length:Int)),0)).bind fun o=>sel o (fun b=>some b) (fun c=>some c))
namespace Zq5
def G:Gam:=mkG [(137,Zq3.FS)]
theorem Gok:GOk PR G:=.cons Zq3.ok .nil
end Zq5
namespace Zq4
def c:=codeAt (bodyOf Proofs.Tryz.f59) [1,1,1,0,1,0,0]
def sp:SP:=⟨[(0,.cs (.sl tPut_)),(1,.cs I64),(5,.cs I64)],[]⟩
def out (a:List Put_):FOut ((Int⊕Int)):=fun oo0 _ kk0=>sel oo0 (fun bb0=>kk0 (.rt) ⟨[(4,.cs I64 bb0)],[]⟩) (fun cc0=>kk0 (.ex 0) ⟨[(1,.cs I64 cc0)],[]⟩)
def fr:=lfrag sp (fun x=>Zq4 x.1.1 (x.1.2.1,x.1.2.2.1)) fun x=>out x.1.1
theorem ok:CodeOk PR 27 2 (.loop c) fr:=
 lp_ok tbok hmix h0 .no (G:=Zq5.G) Zq5.Gok (L:=mkL []) (l:=[]) hT [0,1,5] [] [(0,([1],[]))] ([4],[]) (fun x s=>B x.1.1 s.1 s.2) (fun x s=>⟨[(0,.cs (.sl tPut_) x.1.1),(1,.cs I64 s.1),(5,.cs I64 s.2)],[]⟩) (fun x=>(x.1.2.1,x.1.2.2.1))
  (fun x s=>by simp only[B,mC,mB,mS,mO,mN];kernel_rfl)
end Zq4
namespace Zq5
def pts:List PT:=[.cs (.sl tPut_),.cs I64]
def FS:FS:=mkFS [.sh,.sh] pts (fun x=>Zq5 x.1 x.2.1) fun t=>⟨[.cs I64 t],[]⟩
theorem ok:FsOk PR 59 FS:=
 fn_ok tbok hmix Proofs.Tryz.f59 h0 (.R (.R (.R (.L (.R (.one (.fr 0))))))) (G:=G) Gok (L:=mkL [(0,Zq4.fr)]) (l:=[(0,.loop Zq4.c)]) ⟨Lam.cons Zq4.ok,trivial⟩
  (fun x=>by simp only[Zq5,mC,mB,mS,mO,mN];kernel_rfl)
end Zq5
def Zq6 (a:Disk_) (left:Int):Option Int:=
 (Zq2 a.1 left).bind fun r=>cond (decide (r<0)) (some (-1)) ((Zq5 a.2.1 r).bind fun r2=>cond (decide (r2<0)) (some (-1)) (some r2))
namespace Zq6
def G:Gam:=mkG [(58,Zq2.FS),(59,Zq5.FS)]
def pts:List PT:=[.cs tDisk_,.cs I64]
def FS:FS:=mkFS [.sh,.sh] pts (fun x=>Zq6 x.1 x.2.1) fun t=>⟨[.cs I64 t],[]⟩
theorem ok:FsOk PR 14 FS:=
 fn_ok tbok hmix Proofs.Tryz.f14 ⟨[2],[],[],0⟩ .no (G:=G) (show GOk PR G from .cons Zq2.ok (.cons Zq5.ok .nil)) (L:=mkL []) (l:=[]) hT
  (fun x=>by simp only[Zq6,mC,mB,mS,mO,mN];kernel_rfl)
end Zq6
def Zq7 (a:Entry_) (left:Int):Option Int:=
 cond (decide ((w64 (left-(a.1.length:Int)))<0)) (some (-1)) (some (w64 (left-(a.1.length:Int))))
namespace Zq7
def pts:List PT:=[.cs tEntry_,.cs I64]
def FS:FS:=mkFS [.sh,.sh] pts (fun x=>Zq7 x.1 x.2.1) fun t=>⟨[.cs I64 t],[]⟩
theorem ok:FsOk PR 257 FS:=
 fn_ok tbok hmix Proofs.Tryz.f257 ⟨[2],[],[],0⟩ .no (G:=(mkG [])) .nil (L:=mkL []) (l:=[]) hT
  (fun x=>by simp only[Zq7,mC,mB,mS,mO,mN];kernel_rfl)
end Zq7
def Zq8.B (a:List Entry_) (left_:Int) (i_:Int):Option ((Int×Int)⊕((Int⊕Int))):=
 cond (decide (i_<(a.length:Int))) (cond (inB i_ a.length) ((Zq7 (a.getD i_.toNat zEntry_) left_).bind fun r=>cond (decide (r<0)) (some (.inr (.inl (-1)))) (some (.inl (r,w64 (i_+1))))) none) (some (.inr (.inr left_)))
def Zq8 (a:List Entry_):(Int×Int)→Option ((Int⊕Int)):=
 loopL fun s=>Zq8.B a s.1 s.2
def Zq9 (a:List Entry_) (left:Int):Option Int:=
 cond (decide ((w64 (left-(a.length:Int)))<0)) (some (-1)) ((Zq8 a (w64 (left-(a.length:Int)),0)).bind fun o=>sel o (fun b=>some b) (fun c=>some c))
namespace Zq9
def G:Gam:=mkG [(257,Zq7.FS)]
theorem Gok:GOk PR G:=.cons Zq7.ok .nil
end Zq9
namespace Zq8
def c:=codeAt (bodyOf Proofs.Tryz.f217) [1,1,1,0,1,0,0]
def sp:SP:=⟨[(0,.cs (.sl tEntry_)),(1,.cs I64),(5,.cs I64)],[]⟩
def out (a:List Entry_):FOut ((Int⊕Int)):=fun oo0 _ kk0=>sel oo0 (fun bb0=>kk0 (.rt) ⟨[(4,.cs I64 bb0)],[]⟩) (fun cc0=>kk0 (.ex 0) ⟨[(1,.cs I64 cc0)],[]⟩)
def fr:=lfrag sp (fun x=>Zq8 x.1.1 (x.1.2.1,x.1.2.2.1)) fun x=>out x.1.1
theorem ok:CodeOk PR 27 2 (.loop c) fr:=
 lp_ok tbok hmix h0 .no (G:=Zq9.G) Zq9.Gok (L:=mkL []) (l:=[]) hT [0,1,5] [] [(0,([1],[]))] ([4],[]) (fun x s=>B x.1.1 s.1 s.2) (fun x s=>⟨[(0,.cs (.sl tEntry_) x.1.1),(1,.cs I64 s.1),(5,.cs I64 s.2)],[]⟩) (fun x=>(x.1.2.1,x.1.2.2.1))
  (fun x s=>by simp only[B,mC,mB,mS,mO,mN];kernel_rfl)
end Zq8
namespace Zq9
def pts:List PT:=[.cs (.sl tEntry_),.cs I64]
def FS:FS:=mkFS [.sh,.sh] pts (fun x=>Zq9 x.1 x.2.1) fun t=>⟨[.cs I64 t],[]⟩
theorem ok:FsOk PR 217 FS:=
 fn_ok tbok hmix Proofs.Tryz.f217 h0 (.R (.R (.R (.L (.R (.one (.fr 0))))))) (G:=G) Gok (L:=mkL [(0,Zq8.fr)]) (l:=[(0,.loop Zq8.c)]) ⟨Lam.cons Zq8.ok,trivial⟩
  (fun x=>by simp only[Zq9,mC,mB,mS,mO,mN];kernel_rfl)
end Zq9
def Zq10 (a:Inode_) (left:Int):Option Int:=
 (Zq0 a.2.2.2.1 left).bind fun r=>cond (decide (r<0)) (some (-1)) ((Zq9 a.2.2.2.2.1 r).bind fun r2=>cond (decide (r2<0)) (some (-1)) (some r2))
namespace Zq10
def G:Gam:=mkG [(136,Zq0.FS),(217,Zq9.FS)]
def pts:List PT:=[.cs tInode_,.cs I64]
def FS:FS:=mkFS [.sh,.sh] pts (fun x=>Zq10 x.1 x.2.1) fun t=>⟨[.cs I64 t],[]⟩
theorem ok:FsOk PR 138 FS:=
 fn_ok tbok hmix Proofs.Tryz.f138 ⟨[2],[],[],0⟩ .no (G:=G) (show GOk PR G from .cons Zq0.ok (.cons Zq9.ok .nil)) (L:=mkL []) (l:=[]) hT
  (fun x=>by simp only[Zq10,mC,mB,mS,mO,mN];kernel_rfl)
end Zq10
def Zq11.B (a:List Inode_) (left_:Int) (i_:Int):Option ((Int×Int)⊕((Int⊕Int))):=
 cond (decide (i_<(a.length:Int))) (cond (inB i_ a.length) ((Zq10 (a.getD i_.toNat zInode_) left_).bind fun r=>cond (decide (r<0)) (some (.inr (.inl (-1)))) (some (.inl (r,w64 (i_+1))))) none) (some (.inr (.inr left_)))
def Zq11 (a:List Inode_):(Int×Int)→Option ((Int⊕Int)):=
 loopL fun s=>Zq11.B a s.1 s.2
def Zq12 (a:List Inode_) (left:Int):Option Int:=
 cond (decide ((w64 (left-(a.length:Int)))<0)) (some (-1)) ((Zq11 a (w64 (left-(a.length:Int)),0)).bind fun o=>sel o (fun b=>some b) (fun c=>some c))
namespace Zq12
def G:Gam:=mkG [(138,Zq10.FS)]
theorem Gok:GOk PR G:=.cons Zq10.ok .nil
end Zq12
namespace Zq11
def c:=codeAt (bodyOf Proofs.Tryz.f60) [1,1,1,0,1,0,0]
def sp:SP:=⟨[(0,.cs (.sl tInode_)),(1,.cs I64),(5,.cs I64)],[]⟩
def out (a:List Inode_):FOut ((Int⊕Int)):=fun oo0 _ kk0=>sel oo0 (fun bb0=>kk0 (.rt) ⟨[(4,.cs I64 bb0)],[]⟩) (fun cc0=>kk0 (.ex 0) ⟨[(1,.cs I64 cc0)],[]⟩)
def fr:=lfrag sp (fun x=>Zq11 x.1.1 (x.1.2.1,x.1.2.2.1)) fun x=>out x.1.1
theorem ok:CodeOk PR 27 2 (.loop c) fr:=
 lp_ok tbok hmix h0 .no (G:=Zq12.G) Zq12.Gok (L:=mkL []) (l:=[]) hT [0,1,5] [] [(0,([1],[]))] ([4],[]) (fun x s=>B x.1.1 s.1 s.2) (fun x s=>⟨[(0,.cs (.sl tInode_) x.1.1),(1,.cs I64 s.1),(5,.cs I64 s.2)],[]⟩) (fun x=>(x.1.2.1,x.1.2.2.1))
  (fun x s=>by simp only[B,mC,mB,mS,mO,mN];kernel_rfl)
end Zq11
namespace Zq12
def pts:List PT:=[.cs (.sl tInode_),.cs I64]
def FS:FS:=mkFS [.sh,.sh] pts (fun x=>Zq12 x.1 x.2.1) fun t=>⟨[.cs I64 t],[]⟩
theorem ok:FsOk PR 60 FS:=
 fn_ok tbok hmix Proofs.Tryz.f60 h0 (.R (.R (.R (.L (.R (.one (.fr 0))))))) (G:=G) Gok (L:=mkL [(0,Zq11.fr)]) (l:=[(0,.loop Zq11.c)]) ⟨Lam.cons Zq11.ok,trivial⟩
  (fun x=>by simp only[Zq12,mC,mB,mS,mO,mN];kernel_rfl)
end Zq12
def Zq13 (a:List Int) (left:Int):Option Int:=
 cond (decide ((w64 (left-(a.length:Int)))<0)) (some (-1)) (some (w64 (left-(a.length:Int))))
namespace Zq13
def pts:List PT:=[.cs SB,.cs I64]
def FS:FS:=mkFS [.sh,.sh] pts (fun x=>Zq13 x.1 x.2.1) fun t=>⟨[.cs I64 t],[]⟩
theorem ok:FsOk PR 139 FS:=
 fn_ok tbok hmix Proofs.Tryz.f139 h0 .no (G:=(mkG [])) .nil (L:=mkL []) (l:=[]) hT
  (fun x=>by simp only[Zq13,mC,mB,mS,mO,mN];kernel_rfl)
end Zq13
def Zq14.B (a:List (List Int)) (left_:Int) (i_:Int):Option ((Int×Int)⊕((Int⊕Int))):=
 cond (decide (i_<(a.length:Int))) (cond (inB i_ a.length) ((Zq13 (a.getD i_.toNat []) left_).bind fun r=>cond (decide (r<0)) (some (.inr (.inl (-1)))) (some (.inl (r,w64 (i_+1))))) none) (some (.inr (.inr left_)))
def Zq14 (a:List (List Int)):(Int×Int)→Option ((Int⊕Int)):=
 loopL fun s=>Zq14.B a s.1 s.2
def Zq15 (a:List (List Int)) (left:Int):Option Int:=
 cond (decide ((w64 (left-(a.length:Int)))<0)) (some (-1)) ((Zq14 a (w64 (left-(a.length:Int)),0)).bind fun o=>sel o (fun b=>some b) (fun c=>some c))
namespace Zq15
def G:Gam:=mkG [(139,Zq13.FS)]
theorem Gok:GOk PR G:=.cons Zq13.ok .nil
end Zq15
namespace Zq14
def c:=codeAt (bodyOf Proofs.Tryz.f61) [1,1,1,0,1,0,0]
def sp:SP:=⟨[(0,.cs (.sl SB)),(1,.cs I64),(5,.cs I64)],[]⟩
def out (a:List (List Int)):FOut ((Int⊕Int)):=fun oo0 _ kk0=>sel oo0 (fun bb0=>kk0 (.rt) ⟨[(4,.cs I64 bb0)],[]⟩) (fun cc0=>kk0 (.ex 0) ⟨[(1,.cs I64 cc0)],[]⟩)
def fr:=lfrag sp (fun x=>Zq14 x.1.1 (x.1.2.1,x.1.2.2.1)) fun x=>out x.1.1
theorem ok:CodeOk PR 27 2 (.loop c) fr:=
 lp_ok tbok hmix h0 .no (G:=Zq15.G) Zq15.Gok (L:=mkL []) (l:=[]) hT [0,1,5] [] [(0,([1],[]))] ([4],[]) (fun x s=>B x.1.1 s.1 s.2) (fun x s=>⟨[(0,.cs (.sl SB) x.1.1),(1,.cs I64 s.1),(5,.cs I64 s.2)],[]⟩) (fun x=>(x.1.2.1,x.1.2.2.1))
  (fun x s=>by simp only[B,mC,mB,mS,mO,mN];kernel_rfl)
end Zq14
namespace Zq15
def pts:List PT:=[.cs (.sl SB),.cs I64]
def FS:FS:=mkFS [.sh,.sh] pts (fun x=>Zq15 x.1 x.2.1) fun t=>⟨[.cs I64 t],[]⟩
theorem ok:FsOk PR 61 FS:=
 fn_ok tbok hmix Proofs.Tryz.f61 h0 (.R (.R (.R (.L (.R (.one (.fr 0))))))) (G:=G) Gok (L:=mkL [(0,Zq14.fr)]) (l:=[(0,.loop Zq14.c)]) ⟨Lam.cons Zq14.ok,trivial⟩
  (fun x=>by simp only[Zq15,mC,mB,mS,mO,mN];kernel_rfl)
end Zq15
def Zq16 (a:Fs_) (left:Int):Option Int:=
 (Zq12 a.1 left).bind fun r=>cond (decide (r<0)) (some (-1)) ((Zq15 a.2.1 r).bind fun r2=>cond (decide (r2<0)) (some (-1)) (some r2))
namespace Zq16
def G:Gam:=mkG [(60,Zq12.FS),(61,Zq15.FS)]
def pts:List PT:=[.cs tFs_,.cs I64]
def FS:FS:=mkFS [.sh,.sh] pts (fun x=>Zq16 x.1 x.2.1) fun t=>⟨[.cs I64 t],[]⟩
theorem ok:FsOk PR 15 FS:=
 fn_ok tbok hmix Proofs.Tryz.f15 ⟨[2],[],[],0⟩ .no (G:=G) (show GOk PR G from .cons Zq12.ok (.cons Zq15.ok .nil)) (L:=mkL []) (l:=[]) hT
  (fun x=>by simp only[Zq16,mC,mB,mS,mO,mN];kernel_rfl)
end Zq16
def Zq17 (a:World_) (left:Int):Option Int:=
 (Zq6 a.1 left).bind fun r=>cond (decide (r<0)) (some (-1)) ((Zq16 a.2.1 r).bind fun r2=>cond (decide (r2<0)) (some (-1)) ((Zq16 a.2.2.1 r2).bind fun r3=>cond (decide (r3<0)) (some (-1)) (some r3)))
namespace Zq17
def G:Gam:=mkG [(14,Zq6.FS),(15,Zq16.FS)]
def pts:List PT:=[.cs tWorld_,.cs I64]
def FS:FS:=mkFS [.sh,.sh] pts (fun x=>Zq17 x.1 x.2.1) fun t=>⟨[.cs I64 t],[]⟩
theorem ok:FsOk PR 9 FS:=
 fn_ok tbok hmix Proofs.Tryz.f9 ⟨[2],[],[],0⟩ .no (G:=G) (show GOk PR G from .cons Zq6.ok (.cons Zq16.ok .nil)) (L:=mkL []) (l:=[]) hT
  (fun x=>by simp only[Zq17,mC,mB,mS,mO,mN];kernel_rfl)
end Zq17
def Zq18.B (a:List Int) (i_:Int) (out_:List Int):Option ((Int×List Int)⊕(List Int)):=
 cond (decide (i_<(a.length:Int))) (cond (inB i_ a.length) (cond (inB i_ out_.length) (some (.inl (w64 (i_+1),out_.set i_.toNat (a.getD i_.toNat 0)))) none) none) (some (.inr out_))
def Zq18 (a:List Int):(Int×List Int)→Option (List Int):=
 loopL fun s=>Zq18.B a s.1 s.2
def Zq19 (a:List Int):Option (List Int):=
 cond (decide ((0:Int)≤(a.length:Int))&&(decide ((a.length:Int)≤(a.length:Int))&&decide ((a.length:Int)≤2147483648))) ((Zq18 a (0,List.replicate (a.length:Int).toNat 0)).bind fun o=>some o) none
namespace Zq18
def c:=codeAt (bodyOf Proofs.Tryz.f151) [1,1,0,1,0,0]
def sp:SP:=⟨[(0,.cs SI),(3,.seg 3 []),(4,.cs I64)],[(3,.reg,.cd SI)]⟩
def out (a:List Int):FOut (List Int):=fun bb0 _ kk0=>kk0 (.ex 0) ⟨[(3,.seg 3 [])],[sr 3 (.cd SI bb0)]⟩
def fr:=lfrag sp (fun x=>Zq18 x.1.1 (x.1.2.2.1,x.2.1)) fun x=>out x.1.1
theorem ok:CodeOk PR 22 1 (.loop c) fr:=
 lp_ok tbok hmix h0 .no (G:=(mkG [])) .nil (L:=mkL []) (l:=[]) hT [0,3,4] [3] [(0,([3],[3]))] ([],[]) (fun x s=>B x.1.1 s.1 s.2) (fun x s=>⟨[(0,.cs SI x.1.1),(3,.seg 3 []),(4,.cs I64 s.1)],[sr 3 (.cd SI s.2)]⟩) (fun x=>(x.1.2.2.1,x.2.1))
  (fun x s=>by simp only[B,mC,mB,mS,mO,mN];kernel_rfl)
end Zq18
namespace Zq19
def pts:List PT:=[.cs SI]
def FS:FS:=mkFS [.sh] pts (fun x=>Zq19 x.1) fun t=>⟨[.cd SI t],[]⟩
theorem ok:FsOk PR 151 FS:=
 fn_ok tbok hmix Proofs.Tryz.f151 h0 (.R (.R (.L (.R (.one (.fr 0)))))) (G:=(mkG [])) .nil (L:=mkL [(0,Zq18.fr)]) (l:=[(0,.loop Zq18.c)]) ⟨Lam.cons Zq18.ok,trivial⟩
  (fun x=>by simp only[Zq19,mC,mB,mS,mO,mN];kernel_rfl)
end Zq19
def Zq20.B (a:List (List Int)) (i_:Int) (out_:List (List Int)):Option ((Int×List (List Int))⊕(List (List Int))):=
 cond (decide (i_<(a.length:Int))) (cond (inB i_ a.length) ((Zq19 (a.getD i_.toNat [])).bind fun r=>cond (inB i_ out_.length) (some (.inl (w64 (i_+1),out_.set i_.toNat r))) none) none) (some (.inr out_))
def Zq20 (a:List (List Int)):(Int×List (List Int))→Option (List (List Int)):=
 loopL fun s=>Zq20.B a s.1 s.2
def Zq21 (a:List (List Int)):Option (List (List Int)):=
 cond (decide ((0:Int)≤(a.length:Int))&&(decide ((a.length:Int)≤(a.length:Int))&&decide ((a.length:Int)≤2147483648))) ((some (List.replicate (a.length:Int).toNat ([]:List Int))).bind fun v=>(Zq20 a (0,v)).bind fun o=>some o) none
namespace Zq21
def G:Gam:=mkG [(151,Zq19.FS)]
theorem Gok:GOk PR G:=.cons Zq19.ok .nil
end Zq21
namespace Zq20
def c:=codeAt (bodyOf Proofs.Tryz.f65) [1,1,0,1,0,0]
def sp:SP:=⟨[(0,.cs (.sl SI)),(3,.seg 3 []),(4,.cs I64)],[(3,.reg,.cd (.sl SI))]⟩
def out (a:List (List Int)):FOut (List (List Int)):=fun bb0 _ kk0=>kk0 (.ex 0) ⟨[(3,.seg 3 [])],[sr 3 (.cd (.sl SI) bb0)]⟩
def fr:=lfrag sp (fun x=>Zq20 x.1.1 (x.1.2.2.1,x.2.1)) fun x=>out x.1.1
theorem ok:CodeOk PR 23 1 (.loop c) fr:=
 lp_ok tbok hmix h0 .no (G:=Zq21.G) Zq21.Gok (L:=mkL []) (l:=[]) hT [0,3,4] [3] [(0,([3],[3]))] ([],[]) (fun x s=>B x.1.1 s.1 s.2) (fun x s=>⟨[(0,.cs (.sl SI) x.1.1),(3,.seg 3 []),(4,.cs I64 s.1)],[sr 3 (.cd (.sl SI) s.2)]⟩) (fun x=>(x.1.2.2.1,x.2.1))
  (fun x s=>by simp only[B,mC,mB,mS,mO,mN];kernel_rfl)
end Zq20
namespace Zq21
def pts:List PT:=[.cs (.sl SI)]
def FS:FS:=mkFS [.sh] pts (fun x=>Zq21 x.1) fun t=>⟨[.cd (.sl SI) t],[]⟩
theorem ok:FsOk PR 65 FS:=
 fn_ok tbok hmix Proofs.Tryz.f65 h0 (.R (.R (.L (.R (.one (.fr 0)))))) (G:=G) Gok (L:=mkL [(0,Zq20.fr)]) (l:=[(0,.loop Zq20.c)]) ⟨Lam.cons Zq20.ok,trivial⟩
  (fun x=>by simp only[Zq21,mC,mB,mS,mO,mN];kernel_rfl)
end Zq21
def Zq22 (a:Put_):Option Put_:=
 (Zq19 a.2.1).bind fun r=>some (a.1,r,())
namespace Zq22
def G:Gam:=mkG [(151,Zq19.FS)]
def pts:List PT:=[.cs tPut_]
def FS:FS:=mkFS [.sh] pts (fun x=>Zq22 x.1) fun t=>⟨[.cd tPut_ t],[]⟩
theorem ok:FsOk PR 152 FS:=
 fn_ok tbok hmix Proofs.Tryz.f152 ⟨[1],[],[],0⟩ .no (G:=G) (show GOk PR G from .cons Zq19.ok .nil) (L:=mkL []) (l:=[]) hT
  (fun x=>by simp only[Zq22,mC,mB,mS,mO,mN];kernel_rfl)
end Zq22
def Zq23.B (a:List Put_) (i_:Int) (out_:List Put_):Option ((Int×List Put_)⊕(List Put_)):=
 cond (decide (i_<(a.length:Int))) (cond (inB i_ a.length) ((Zq22 (a.getD i_.toNat zPut_)).bind fun r=>cond (inB i_ out_.length) (some (.inl (w64 (i_+1),out_.set i_.toNat (r.1,r.2.1,r.2.2)))) none) none) (some (.inr out_))
def Zq23 (a:List Put_):(Int×List Put_)→Option (List Put_):=
 loopL fun s=>Zq23.B a s.1 s.2
def Zq24 (a:List Put_):Option (List Put_):=
 cond (decide ((0:Int)≤(a.length:Int))&&(decide ((a.length:Int)≤(a.length:Int))&&decide ((a.length:Int)≤2147483648))) ((Zq23 a (0,List.replicate (a.length:Int).toNat zPut_)).bind fun o=>some o) none
namespace Zq24
def G:Gam:=mkG [(152,Zq22.FS)]
theorem Gok:GOk PR G:=.cons Zq22.ok .nil
end Zq24
namespace Zq23
def c:=codeAt (bodyOf Proofs.Tryz.f66) [1,1,0,1,0,0]
def sp:SP:=⟨[(0,.cs (.sl tPut_)),(3,.seg 3 []),(4,.cs I64)],[(3,.reg,.cd (.sl tPut_))]⟩
def out (a:List Put_):FOut (List Put_):=fun bb0 _ kk0=>kk0 (.ex 0) ⟨[(3,.seg 3 [])],[sr 3 (.cd (.sl tPut_) bb0)]⟩
def fr:=lfrag sp (fun x=>Zq23 x.1.1 (x.1.2.2.1,x.2.1)) fun x=>out x.1.1
theorem ok:CodeOk PR 23 1 (.loop c) fr:=
 lp_ok tbok hmix h0 .no (G:=Zq24.G) Zq24.Gok (L:=mkL []) (l:=[]) hT [0,3,4] [3] [(0,([3],[3]))] ([],[]) (fun x s=>B x.1.1 s.1 s.2) (fun x s=>⟨[(0,.cs (.sl tPut_) x.1.1),(3,.seg 3 []),(4,.cs I64 s.1)],[sr 3 (.cd (.sl tPut_) s.2)]⟩) (fun x=>(x.1.2.2.1,x.2.1))
  (fun x s=>by simp only[B,mC,mB,mS,mO,mN];kernel_rfl)
end Zq23
namespace Zq24
def pts:List PT:=[.cs (.sl tPut_)]
def FS:FS:=mkFS [.sh] pts (fun x=>Zq24 x.1) fun t=>⟨[.cd (.sl tPut_) t],[]⟩
theorem ok:FsOk PR 66 FS:=
 fn_ok tbok hmix Proofs.Tryz.f66 h0 (.R (.R (.L (.R (.one (.fr 0)))))) (G:=G) Gok (L:=mkL [(0,Zq23.fr)]) (l:=[(0,.loop Zq23.c)]) ⟨Lam.cons Zq23.ok,trivial⟩
  (fun x=>by simp only[Zq24,mC,mB,mS,mO,mN];kernel_rfl)
end Zq24
def Zq25 (a:Disk_):Option Disk_:=
 (Zq21 a.1).bind fun r=>(Zq24 a.2.1).bind fun r2=>some (r,r2,())
namespace Zq25
def G:Gam:=mkG [(65,Zq21.FS),(66,Zq24.FS)]
def pts:List PT:=[.cs tDisk_]
def FS:FS:=mkFS [.sh] pts (fun x=>Zq25 x.1) fun t=>⟨[.cd tDisk_ t],[]⟩
theorem ok:FsOk PR 17 FS:=
 fn_ok tbok hmix Proofs.Tryz.f17 ⟨[1],[],[],0⟩ .no (G:=G) (show GOk PR G from .cons Zq21.ok (.cons Zq24.ok .nil)) (L:=mkL []) (l:=[]) hT
  (fun x=>by simp only[Zq25,mC,mB,mS,mO,mN];kernel_rfl)
end Zq25
def Zq26 (a:Entry_):Option Entry_:=
 some (a.1,a.2.1,())
namespace Zq26
def pts:List PT:=[.cs tEntry_]
def FS:FS:=mkFS [.sh] pts (fun x=>Zq26 x.1) fun t=>⟨[.cs tEntry_ t],[]⟩
theorem ok:FsOk PR 258 FS:=
 fn_ok tbok hmix Proofs.Tryz.f258 ⟨[1],[],[],0⟩ .no (G:=(mkG [])) .nil (L:=mkL []) (l:=[]) hT
  (fun x=>by simp only[Zq26,mC,mB,mS,mO,mN];kernel_rfl)
end Zq26
def Zq27.B (a:List Entry_) (i_:Int) (out_:List Entry_):Option ((Int×List Entry_)⊕(List Entry_)):=
 cond (decide (i_<(a.length:Int))) (cond (inB i_ a.length) ((Zq26 (a.getD i_.toNat zEntry_)).bind fun r=>cond (inB i_ out_.length) (some (.inl (w64 (i_+1),out_.set i_.toNat r))) none) none) (some (.inr out_))
def Zq27 (a:List Entry_):(Int×List Entry_)→Option (List Entry_):=
 loopL fun s=>Zq27.B a s.1 s.2
def Zq28 (a:List Entry_):Option (List Entry_):=
 cond (decide ((0:Int)≤(a.length:Int))&&(decide ((a.length:Int)≤(a.length:Int))&&decide ((a.length:Int)≤2147483648))) ((Zq27 a (0,List.replicate (a.length:Int).toNat zEntry_)).bind fun o=>some o) none
namespace Zq28
def G:Gam:=mkG [(258,Zq26.FS)]
theorem Gok:GOk PR G:=.cons Zq26.ok .nil
end Zq28
namespace Zq27
def c:=codeAt (bodyOf Proofs.Tryz.f226) [1,1,0,1,0,0]
def sp:SP:=⟨[(0,.cs (.sl tEntry_)),(3,.seg 3 []),(4,.cs I64)],[(3,.reg,.cd (.sl tEntry_))]⟩
def out (a:List Entry_):FOut (List Entry_):=fun bb0 _ kk0=>kk0 (.ex 0) ⟨[(3,.seg 3 [])],[sr 3 (.cd (.sl tEntry_) bb0)]⟩
def fr:=lfrag sp (fun x=>Zq27 x.1.1 (x.1.2.2.1,x.2.1)) fun x=>out x.1.1
theorem ok:CodeOk PR 23 1 (.loop c) fr:=
 lp_ok tbok hmix h0 .no (G:=Zq28.G) Zq28.Gok (L:=mkL []) (l:=[]) hT [0,3,4] [3] [(0,([3],[3]))] ([],[]) (fun x s=>B x.1.1 s.1 s.2) (fun x s=>⟨[(0,.cs (.sl tEntry_) x.1.1),(3,.seg 3 []),(4,.cs I64 s.1)],[sr 3 (.cd (.sl tEntry_) s.2)]⟩) (fun x=>(x.1.2.2.1,x.2.1))
  (fun x s=>by simp only[B,mC,mB,mS,mO,mN];kernel_rfl)
end Zq27
namespace Zq28
def pts:List PT:=[.cs (.sl tEntry_)]
def FS:FS:=mkFS [.sh] pts (fun x=>Zq28 x.1) fun t=>⟨[.cd (.sl tEntry_) t],[]⟩
theorem ok:FsOk PR 226 FS:=
 fn_ok tbok hmix Proofs.Tryz.f226 h0 (.R (.R (.L (.R (.one (.fr 0)))))) (G:=G) Gok (L:=mkL [(0,Zq27.fr)]) (l:=[(0,.loop Zq27.c)]) ⟨Lam.cons Zq27.ok,trivial⟩
  (fun x=>by simp only[Zq28,mC,mB,mS,mO,mN];kernel_rfl)
end Zq28
def Zq29 (a:Inode_):Option Inode_:=
 (Zq19 a.2.2.2.1).bind fun r=>(Zq28 a.2.2.2.2.1).bind fun r2=>some (a.1,a.2.1,a.2.2.1,r,r2,())
namespace Zq29
def G:Gam:=mkG [(151,Zq19.FS),(226,Zq28.FS)]
def pts:List PT:=[.cs tInode_]
def FS:FS:=mkFS [.sh] pts (fun x=>Zq29 x.1) fun t=>⟨[.cd tInode_ t],[]⟩
theorem ok:FsOk PR 153 FS:=
 fn_ok tbok hmix Proofs.Tryz.f153 ⟨[1],[],[],0⟩ .no (G:=G) (show GOk PR G from .cons Zq19.ok (.cons Zq28.ok .nil)) (L:=mkL []) (l:=[]) hT
  (fun x=>by simp only[Zq29,mC,mB,mS,mO,mN];kernel_rfl)
end Zq29
def Zq30.B (a:List Inode_) (i_:Int) (out_:List Inode_):Option ((Int×List Inode_)⊕(List Inode_)):=
 cond (decide (i_<(a.length:Int))) (cond (inB i_ a.length) ((Zq29 (a.getD i_.toNat zInode_)).bind fun r=>cond (inB i_ out_.length) ((some (out_.set i_.toNat (r.1,r.2.1,r.2.2.1,r.2.2.2.1,r.2.2.2.2.1,r.2.2.2.2.2))).bind fun out_2=>some (.inl (w64 (i_+1),out_2))) none) none) (some (.inr out_))
def Zq30 (a:List Inode_):(Int×List Inode_)→Option (List Inode_):=
 loopL fun s=>Zq30.B a s.1 s.2
def Zq31 (a:List Inode_):Option (List Inode_):=
 cond (decide ((0:Int)≤(a.length:Int))&&(decide ((a.length:Int)≤(a.length:Int))&&decide ((a.length:Int)≤2147483648))) ((Zq30 a (0,List.replicate (a.length:Int).toNat zInode_)).bind fun o=>some o) none
namespace Zq31
def G:Gam:=mkG [(153,Zq29.FS)]
theorem Gok:GOk PR G:=.cons Zq29.ok .nil
end Zq31
namespace Zq30
def c:=codeAt (bodyOf Proofs.Tryz.f67) [1,1,0,1,0,0]
def sp:SP:=⟨[(0,.cs (.sl tInode_)),(3,.seg 3 []),(4,.cs I64)],[(3,.reg,.cd (.sl tInode_))]⟩
def out (a:List Inode_):FOut (List Inode_):=fun bb0 _ kk0=>kk0 (.ex 0) ⟨[(3,.seg 3 [])],[sr 3 (.cd (.sl tInode_) bb0)]⟩
def fr:=lfrag sp (fun x=>Zq30 x.1.1 (x.1.2.2.1,x.2.1)) fun x=>out x.1.1
theorem ok:CodeOk PR 23 1 (.loop c) fr:=
 lp_ok tbok hmix h0 .no (G:=Zq31.G) Zq31.Gok (L:=mkL []) (l:=[]) hT [0,3,4] [3] [(0,([3],[3]))] ([],[]) (fun x s=>B x.1.1 s.1 s.2) (fun x s=>⟨[(0,.cs (.sl tInode_) x.1.1),(3,.seg 3 []),(4,.cs I64 s.1)],[sr 3 (.cd (.sl tInode_) s.2)]⟩) (fun x=>(x.1.2.2.1,x.2.1))
  (fun x s=>by simp only[B,mC,mB,mS,mO,mN];kernel_rfl)
end Zq30
namespace Zq31
def pts:List PT:=[.cs (.sl tInode_)]
def FS:FS:=mkFS [.sh] pts (fun x=>Zq31 x.1) fun t=>⟨[.cd (.sl tInode_) t],[]⟩
theorem ok:FsOk PR 67 FS:=
 fn_ok tbok hmix Proofs.Tryz.f67 h0 (.R (.R (.L (.R (.one (.fr 0)))))) (G:=G) Gok (L:=mkL [(0,Zq30.fr)]) (l:=[(0,.loop Zq30.c)]) ⟨Lam.cons Zq30.ok,trivial⟩
  (fun x=>by simp only[Zq31,mC,mB,mS,mO,mN];kernel_rfl)
end Zq31
def Zq32.B (a:List Int) (i_:Int) (out_:List Int):Option ((Int×List Int)⊕(List Int)):=
 cond (decide (i_<(a.length:Int))) (cond (inB i_ a.length) (cond (inB i_ out_.length) (some (.inl (w64 (i_+1),out_.set i_.toNat (a.getD i_.toNat 0)))) none) none) (some (.inr out_))
def Zq32 (a:List Int):(Int×List Int)→Option (List Int):=
 loopL fun s=>Zq32.B a s.1 s.2
def Zq33 (a:List Int):Option (List Int):=
 cond (decide ((0:Int)≤(a.length:Int))&&(decide ((a.length:Int)≤(a.length:Int))&&decide ((a.length:Int)≤2147483648))) ((Zq32 a (0,List.replicate (a.length:Int).toNat 0)).bind fun o=>some o) none
namespace Zq32
def c:=codeAt (bodyOf Proofs.Tryz.f154) [1,1,0,1,0,0]
def sp:SP:=⟨[(0,.cs SB),(3,.seg 3 []),(4,.cs I64)],[(3,.reg,.cd SB)]⟩
def out (a:List Int):FOut (List Int):=fun bb0 _ kk0=>kk0 (.ex 0) ⟨[(3,.seg 3 [])],[sr 3 (.cd SB bb0)]⟩
def fr:=lfrag sp (fun x=>Zq32 x.1.1 (x.1.2.2.1,x.2.1)) fun x=>out x.1.1
theorem ok:CodeOk PR 22 1 (.loop c) fr:=
 lp_ok tbok hmix h0 .no (G:=(mkG [])) .nil (L:=mkL []) (l:=[]) hT [0,3,4] [3] [(0,([3],[3]))] ([],[]) (fun x s=>B x.1.1 s.1 s.2) (fun x s=>⟨[(0,.cs SB x.1.1),(3,.seg 3 []),(4,.cs I64 s.1)],[sr 3 (.cd SB s.2)]⟩) (fun x=>(x.1.2.2.1,x.2.1))
  (fun x s=>by simp only[B,mC,mB,mS,mO,mN];kernel_rfl)
end Zq32
namespace Zq33
def pts:List PT:=[.cs SB]
def FS:FS:=mkFS [.sh] pts (fun x=>Zq33 x.1) fun t=>⟨[.cd SB t],[]⟩
theorem ok:FsOk PR 154 FS:=
 fn_ok tbok hmix Proofs.Tryz.f154 h0 (.R (.R (.L (.R (.one (.fr 0)))))) (G:=(mkG [])) .nil (L:=mkL [(0,Zq32.fr)]) (l:=[(0,.loop Zq32.c)]) ⟨Lam.cons Zq32.ok,trivial⟩
  (fun x=>by simp only[Zq33,mC,mB,mS,mO,mN];kernel_rfl)
end Zq33
def Zq34.B (a:List (List Int)) (i_:Int) (out_:List (List Int)):Option ((Int×List (List Int))⊕(List (List Int))):=
 cond (decide (i_<(a.length:Int))) (cond (inB i_ a.length) ((Zq33 (a.getD i_.toNat [])).bind fun r=>cond (inB i_ out_.length) (some (.inl (w64 (i_+1),out_.set i_.toNat r))) none) none) (some (.inr out_))
def Zq34 (a:List (List Int)):(Int×List (List Int))→Option (List (List Int)):=
 loopL fun s=>Zq34.B a s.1 s.2
def Zq35 (a:List (List Int)):Option (List (List Int)):=
 cond (decide ((0:Int)≤(a.length:Int))&&(decide ((a.length:Int)≤(a.length:Int))&&decide ((a.length:Int)≤2147483648))) ((some (List.replicate (a.length:Int).toNat ([]:List Int))).bind fun v=>(Zq34 a (0,v)).bind fun o=>some o) none
namespace Zq35
def G:Gam:=mkG [(154,Zq33.FS)]
theorem Gok:GOk PR G:=.cons Zq33.ok .nil
end Zq35
namespace Zq34
def c:=codeAt (bodyOf Proofs.Tryz.f68) [1,1,0,1,0,0]
def sp:SP:=⟨[(0,.cs (.sl SB)),(3,.seg 3 []),(4,.cs I64)],[(3,.reg,.cd (.sl SB))]⟩
def out (a:List (List Int)):FOut (List (List Int)):=fun bb0 _ kk0=>kk0 (.ex 0) ⟨[(3,.seg 3 [])],[sr 3 (.cd (.sl SB) bb0)]⟩
def fr:=lfrag sp (fun x=>Zq34 x.1.1 (x.1.2.2.1,x.2.1)) fun x=>out x.1.1
theorem ok:CodeOk PR 23 1 (.loop c) fr:=
 lp_ok tbok hmix h0 .no (G:=Zq35.G) Zq35.Gok (L:=mkL []) (l:=[]) hT [0,3,4] [3] [(0,([3],[3]))] ([],[]) (fun x s=>B x.1.1 s.1 s.2) (fun x s=>⟨[(0,.cs (.sl SB) x.1.1),(3,.seg 3 []),(4,.cs I64 s.1)],[sr 3 (.cd (.sl SB) s.2)]⟩) (fun x=>(x.1.2.2.1,x.2.1))
  (fun x s=>by simp only[B,mC,mB,mS,mO,mN];kernel_rfl)
end Zq34
namespace Zq35
def pts:List PT:=[.cs (.sl SB)]
def FS:FS:=mkFS [.sh] pts (fun x=>Zq35 x.1) fun t=>⟨[.cd (.sl SB) t],[]⟩
theorem ok:FsOk PR 68 FS:=
 fn_ok tbok hmix Proofs.Tryz.f68 h0 (.R (.R (.L (.R (.one (.fr 0)))))) (G:=G) Gok (L:=mkL [(0,Zq34.fr)]) (l:=[(0,.loop Zq34.c)]) ⟨Lam.cons Zq34.ok,trivial⟩
  (fun x=>by simp only[Zq35,mC,mB,mS,mO,mN];kernel_rfl)
end Zq35
def Zq36 (a:Fs_):Option Fs_:=
 (Zq31 a.1).bind fun r=>(Zq35 a.2.1).bind fun r2=>some (r,r2,())
namespace Zq36
def G:Gam:=mkG [(67,Zq31.FS),(68,Zq35.FS)]
def pts:List PT:=[.cs tFs_]
def FS:FS:=mkFS [.sh] pts (fun x=>Zq36 x.1) fun t=>⟨[.cd tFs_ t],[]⟩
theorem ok:FsOk PR 18 FS:=
 fn_ok tbok hmix Proofs.Tryz.f18 ⟨[1],[],[],0⟩ .no (G:=G) (show GOk PR G from .cons Zq31.ok (.cons Zq35.ok .nil)) (L:=mkL []) (l:=[]) hT
  (fun x=>by simp only[Zq36,mC,mB,mS,mO,mN];kernel_rfl)
end Zq36
def Zq37 (a:World_):Option World_:=
 (Zq25 a.1).bind fun r=>(Zq36 a.2.1).bind fun r2=>(Zq36 a.2.2.1).bind fun r3=>some ((r.1,r.2.1,r.2.2),(r2.1,r2.2.1,r2.2.2),(r3.1,r3.2.1,r3.2.2),())
namespace Zq37
def G:Gam:=mkG [(17,Zq25.FS),(18,Zq36.FS)]
def pts:List PT:=[.cs tWorld_]
def FS:FS:=mkFS [.sh] pts (fun x=>Zq37 x.1) fun t=>⟨[.cd tWorld_ t],[]⟩
theorem ok:FsOk PR 11 FS:=
 fn_ok tbok hmix Proofs.Tryz.f11 ⟨[1],[],[],0⟩ .no (G:=G) (show GOk PR G from .cons Zq25.ok (.cons Zq36.ok .nil)) (L:=mkL []) (l:=[]) hT
  (fun x=>by simp only[Zq37,mC,mB,mS,mO,mN];kernel_rfl)
end Zq37
def Zq38 (v:Int) (low:Int) (high:Int):Option Bool:=
 (some (cond (decide (v≥low)) (decide (v≤high)) false)).bind fun v2=>some v2
namespace Zq38
def pts:List PT:=[.cs I64,.cs I64,.cs I64]
def FS:FS:=mkFS [.sh,.sh,.sh] pts (fun x=>Zq38 x.1 x.2.1 x.2.2.1) fun t=>⟨[.cs .bool t],[]⟩
theorem ok:FsOk PR 219 FS:=
 fn_ok tbok hmix Proofs.Tryz.f219 h0 .no (G:=(mkG [])) .nil (L:=mkL []) (l:=[]) hT
  (fun x=>by simp only[Zq38,mC,mB,mS,mO,mN];kernel_rfl)
end Zq38
def Zq39.B (w:List Int) (i_:Int):Option (Int⊕((Int⊕Unit))):=
 cond (decide (i_<(w.length:Int))) (cond (inB i_ w.length) ((Zq38 (w.getD i_.toNat 0) 0 65535).bind fun r=>cond (!r) (some (.inr (.inl 3))) (some (.inl (w64 (i_+1))))) none) (some (.inr (.inr ())))
def Zq39 (w:List Int):Int→Option ((Int⊕Unit)):=
 loopL fun s=>Zq39.B w s
def Zq40 (w:List Int):Option Int:=
 cond (decide ((w.length:Int)>64)) (some 2) ((Zq39 w 0).bind fun o=>sel o (fun b=>some b) (fun c=>some 0))
namespace Zq40
def G:Gam:=mkG [(219,Zq38.FS)]
theorem Gok:GOk PR G:=.cons Zq38.ok .nil
end Zq40
namespace Zq39
def c:=codeAt (bodyOf Proofs.Tryz.f218) [1,1,0,1,0,0]
def sp:SP:=⟨[(0,.cs SI),(3,.cs I64)],[]⟩
def out (w:List Int):FOut ((Int⊕Unit)):=fun oo0 _ kk0=>sel oo0 (fun bb0=>kk0 (.rt) ⟨[(2,.cs I64 bb0)],[]⟩) (fun cc0=>kk0 (.ex 0) ⟨[],[]⟩)
def fr:=lfrag sp (fun x=>Zq39 x.1.1 x.1.2.1) fun x=>out x.1.1
theorem ok:CodeOk PR 19 1 (.loop c) fr:=
 lp_ok tbok hmix h0 .no (G:=Zq40.G) Zq40.Gok (L:=mkL []) (l:=[]) hT [0,3] [] [(0,([],[]))] ([2],[]) (fun x s=>B x.1.1 s) (fun x s=>⟨[(0,.cs SI x.1.1),(3,.cs I64 s)],[]⟩) (fun x=>x.1.2.1)
  (fun x s=>by simp only[B,mC,mB,mS,mO,mN];kernel_rfl)
end Zq39
namespace Zq40
def pts:List PT:=[.cs SI]
def FS:FS:=mkFS [.sh] pts (fun x=>Zq40 x.1) fun t=>⟨[.cs I64 t],[]⟩
theorem ok:FsOk PR 218 FS:=
 fn_ok tbok hmix Proofs.Tryz.f218 h0 (.R (.R (.L (.R (.one (.fr 0)))))) (G:=G) Gok (L:=mkL [(0,Zq39.fr)]) (l:=[(0,.loop Zq39.c)]) ⟨Lam.cons Zq39.ok,trivial⟩
  (fun x=>by simp only[Zq40,mC,mB,mS,mO,mN];kernel_rfl)
end Zq40
def Zq41.B (d:Disk_) (i_:Int):Option (Int⊕((Int⊕Unit))):=
 cond (decide (i_<(d.1.length:Int))) (cond (inB i_ d.1.length) ((Zq40 (d.1.getD i_.toNat [])).bind fun r=>cond (r != 0) (some (.inr (.inl r))) (some (.inl (w64 (i_+1))))) none) (some (.inr (.inr ())))
def Zq41 (d:Disk_):Int→Option ((Int⊕Unit)):=
 loopL fun s=>Zq41.B d s
def Zq42.B (d:Disk_) (i_2:Int):Option (Int⊕((Int⊕Unit))):=
 cond (decide (i_2<(d.2.1.length:Int))) (cond (inB i_2 d.2.1.length) ((Zq38 (d.2.1.getD i_2.toNat zPut_).1 0 (w64 ((d.1.length:Int)-1))).bind fun r2=>cond (!r2) (some (.inr (.inl 3))) (cond (inB i_2 d.2.1.length) ((Zq40 (d.2.1.getD i_2.toNat zPut_).2.1).bind fun r3=>cond (r3 != 0) (some (.inr (.inl r3))) (some (.inl (w64 (i_2+1))))) none)) none) (some (.inr (.inr ())))
def Zq42 (d:Disk_):Int→Option ((Int⊕Unit)):=
 loopL fun s=>Zq42.B d s
def Zq43 (d:Disk_):Option Int:=
 (some (cond (decide ((d.1.length:Int)>60)) true (decide ((d.2.1.length:Int)>200)))).bind fun v=>cond v (some 2) ((Zq41 d 0).bind fun o=>sel o (fun b=>some b) (fun c=>(Zq42 d 0).bind fun o2=>sel o2 (fun b2=>some b2) (fun c2=>some 0)))
namespace Zq43
def G:Gam:=mkG [(218,Zq40.FS),(219,Zq38.FS)]
theorem Gok:GOk PR G:=.cons Zq40.ok (.cons Zq38.ok .nil)
end Zq43
namespace Zq41
def c:=codeAt (bodyOf Proofs.Tryz.f140) [1,1,0,1,0,0]
def sp:SP:=⟨[(0,.pt tDisk_),(3,.cs I64)],[]⟩
def out (d:Disk_):FOut ((Int⊕Unit)):=fun oo0 _ kk0=>sel oo0 (fun bb0=>kk0 (.rt) ⟨[(2,.cs I64 bb0)],[]⟩) (fun cc0=>kk0 (.ex 0) ⟨[(0,.pt tDisk_ d)],[]⟩)
def fr:=lfrag sp (fun x=>Zq41 x.1.1 x.1.2.1) fun x=>out x.1.1
theorem ok:CodeOk PR 78 1 (.loop c) fr:=
 lp_ok tbok hmix h0 .no (G:=Zq43.G) Zq43.Gok (L:=mkL []) (l:=[]) hT [0,3] [] [(0,([0],[]))] ([2],[]) (fun x s=>B x.1.1 s) (fun x s=>⟨[(0,.pt tDisk_ x.1.1),(3,.cs I64 s)],[]⟩) (fun x=>x.1.2.1)
  (fun x s=>by simp only[B,mC,mB,mS,mO,mN];kernel_rfl)
end Zq41
namespace Zq42
def c:=codeAt (bodyOf Proofs.Tryz.f140) [1,1,1,0,1,0,0]
def sp:SP:=⟨[(0,.pt tDisk_),(5,.cs I64)],[]⟩
def out (d:Disk_):FOut ((Int⊕Unit)):=fun oo0 _ kk0=>sel oo0 (fun bb0=>kk0 (.rt) ⟨[(2,.cs I64 bb0)],[]⟩) (fun cc0=>kk0 (.ex 2) ⟨[],[]⟩)
def fr:=lfrag sp (fun x=>Zq42 x.1.1 x.1.2.1) fun x=>out x.1.1
theorem ok:CodeOk PR 78 1 (.loop c) fr:=
 lp_ok tbok hmix h0 .no (G:=Zq43.G) Zq43.Gok (L:=mkL []) (l:=[]) hT [0,5] [] [(2,([],[]))] ([2],[]) (fun x s=>B x.1.1 s) (fun x s=>⟨[(0,.pt tDisk_ x.1.1),(5,.cs I64 s)],[]⟩) (fun x=>x.1.2.1)
  (fun x s=>by simp only[B,mC,mB,mS,mO,mN];kernel_rfl)
end Zq42
namespace Zq43
def pts:List PT:=[.pt tDisk_]
def FS:FS:=mkFS [.sh] pts (fun x=>Zq43 x.1) fun t=>⟨[.cs I64 t],[]⟩
theorem ok:FsOk PR 140 FS:=
 fn_ok tbok hmix Proofs.Tryz.f140 h0 (.R (.R (.two (.R (.one (.fr 0))) (.L (.R (.one (.fr 1))))))) (G:=G) Gok (L:=mkL [(0,Zq41.fr),(1,Zq42.fr)]) (l:=[(0,.loop Zq41.c),(1,.loop Zq42.c)]) ⟨Lam.cons Zq41.ok,Lam.skip rfl (Lam.cons Zq42.ok),trivial⟩
  (fun x=>by simp only[Zq43,mC,mB,mS,mO,mN];kernel_rfl)
end Zq43
def Zq44.B (d:Disk_) (at_:Int) (i_:Int):Option (Int⊕(((List Int)⊕Unit))):=
 cond (decide (i_≥0)) (cond (inB i_ d.2.1.length) (cond ((d.2.1.getD i_.toNat zPut_).1 == at_) (cond (inB i_ d.2.1.length) (some (.inr (.inl (d.2.1.getD i_.toNat zPut_).2.1))) none) (some (.inl (w64 (i_-1))))) none) (some (.inr (.inr ())))
def Zq44 (d:Disk_) (at_:Int):Int→Option (((List Int)⊕Unit)):=
 loopL fun s=>Zq44.B d at_ s
def Zq45 (d:Disk_) (at_:Int):Option (List Int):=
 (Zq44 d at_ (w64 ((d.2.1.length:Int)-1))).bind fun o=>sel o (fun b=>some b) (fun c=>cond (inB at_ d.1.length) (some (d.1.getD at_.toNat [])) none)
namespace Zq44
def c:=codeAt (bodyOf Proofs.Tryz.f141) [1,0,1,0,0]
def sp:SP:=⟨[(0,.pt tDisk_),(1,.cs I64),(5,.cs I64)],[]⟩
def out (d:Disk_) (at_:Int):FOut (((List Int)⊕Unit)):=fun oo0 _ kk0=>sel oo0 (fun bb0=>kk0 (.rt) ⟨[(4,.cs SI bb0)],[]⟩) (fun cc0=>kk0 (.ex 0) ⟨[(0,.pt tDisk_ d),(1,.cs I64 at_)],[]⟩)
def fr:=lfrag sp (fun x=>Zq44 x.1.1 x.1.2.1 x.1.2.2.1) fun x=>out x.1.1 x.1.2.1
theorem ok:CodeOk PR 41 2 (.loop c) fr:=
 lp_ok tbok hmix h0 .no (G:=(mkG [])) .nil (L:=mkL []) (l:=[]) hT [0,1,5] [] [(0,([0,1],[]))] ([4],[]) (fun x s=>B x.1.1 x.1.2.1 s) (fun x s=>⟨[(0,.pt tDisk_ x.1.1),(1,.cs I64 x.1.2.1),(5,.cs I64 s)],[]⟩) (fun x=>x.1.2.2.1)
  (fun x s=>by simp only[B,mC,mB,mS,mO,mN];kernel_rfl)
end Zq44
namespace Zq45
def pts:List PT:=[.pt tDisk_,.cs I64]
def FS:FS:=mkFS [.sh,.sh] pts (fun x=>Zq45 x.1 x.2.1) fun t=>⟨[.cs SI t],[]⟩
theorem ok:FsOk PR 141 FS:=
 fn_ok tbok hmix Proofs.Tryz.f141 h0 (.R (.L (.R (.one (.fr 0))))) (G:=(mkG [])) .nil (L:=mkL [(0,Zq44.fr)]) (l:=[(0,.loop Zq44.c)]) ⟨Lam.cons Zq44.ok,trivial⟩
  (fun x=>by simp only[Zq45,mC,mB,mS,mO,mN];kernel_rfl)
end Zq45
def Zq46 (n:Int):Option Bool:=
 (Zq38 n 1 60000).bind fun r=>some r
namespace Zq46
def G:Gam:=mkG [(219,Zq38.FS)]
def pts:List PT:=[.cs I64]
def FS:FS:=mkFS [.sh] pts (fun x=>Zq46 x.1) fun t=>⟨[.cs .bool t],[]⟩
theorem ok:FsOk PR 142 FS:=
 fn_ok tbok hmix Proofs.Tryz.f142 h0 .no (G:=G) (show GOk PR G from .cons Zq38.ok .nil) (L:=mkL []) (l:=[]) hT
  (fun x=>by simp only[Zq46,mC,mB,mS,mO,mN];kernel_rfl)
end Zq46
def Zq47 (d:Disk_):Option IntResult_:=
 (Zq43 d).bind fun r=>cond (r != 0) (some (r,0,())) (cond ((d.1.length:Int) != 47) (some (1,0,())) ((Zq45 d 0).bind fun r2=>cond (cond (!((r2.length:Int) != 2)) (inB 0 r2.length) true) ((some (cond ((r2.length:Int) != 2) true ((r2.getD (0:Int).toNat 0) != 7))).bind fun v=>cond v (some (5,0,())) (cond (inB 1 r2.length) ((Zq46 (r2.getD (1:Int).toNat 0)).bind fun r3=>cond (!r3) (some (5,0,())) (cond (inB 1 r2.length) (some (0,r2.getD (1:Int).toNat 0,())) none)) none)) none))
namespace Zq47
def G:Gam:=mkG [(140,Zq43.FS),(141,Zq45.FS),(142,Zq46.FS)]
def pts:List PT:=[.cs tDisk_]
def FS:FS:=mkFS [.sh] pts (fun x=>Zq47 x.1) fun t=>⟨[.cs tIntResult_ t],[]⟩
theorem ok:FsOk PR 62 FS:=
 fn_ok tbok hmix Proofs.Tryz.f62 ⟨[1],[],[],0⟩ .no (G:=G) (show GOk PR G from .cons Zq43.ok (.cons Zq45.ok (.cons Zq46.ok .nil))) (L:=mkL []) (l:=[]) hT
  (fun x=>by simp only[Zq47,mC,mB,mS,mO,mN];kernel_rfl)
end Zq47
def Zq48 (n:Int):Option Bool:=
 (Zq38 n 0 32).bind fun r=>some r
namespace Zq48
def G:Gam:=mkG [(219,Zq38.FS)]
def pts:List PT:=[.cs I64]
def FS:FS:=mkFS [.sh] pts (fun x=>Zq48 x.1) fun t=>⟨[.cs .bool t],[]⟩
theorem ok:FsOk PR 307 FS:=
 fn_ok tbok hmix Proofs.Tryz.f307 h0 .no (G:=G) (show GOk PR G from .cons Zq38.ok .nil) (L:=mkL []) (l:=[]) hT
  (fun x=>by simp only[Zq48,mC,mB,mS,mO,mN];kernel_rfl)
end Zq48
def Zq49 (size:Int):Option Int:=
 cond (!((8:Int) == 0)) (some (w64 ((w64 ((w64 (size+8))-1)).tdiv 8))) none
namespace Zq49
def pts:List PT:=[.cs I64]
def FS:FS:=mkFS [.sh] pts (fun x=>Zq49 x.1) fun t=>⟨[.cs I64 t],[]⟩
theorem ok:FsOk PR 239 FS:=
 fn_ok tbok hmix Proofs.Tryz.f239 h0 .no (G:=(mkG [])) .nil (L:=mkL []) (l:=[]) hT
  (fun x=>by simp only[Zq49,mC,mB,mS,mO,mN];kernel_rfl)
end Zq49
def Zq50.B (x:Inode_) (i_:Int):Option (Int⊕((Int⊕Unit))):=
 cond (decide (i_<(x.2.2.2.1.length:Int))) (cond (inB i_ x.2.2.2.1.length) ((Zq38 (x.2.2.2.1.getD i_.toNat 0) 0 19).bind fun r4=>cond (!r4) (some (.inr (.inl 3))) (some (.inl (w64 (i_+1))))) none) (some (.inr (.inr ())))
def Zq50 (x:Inode_):Int→Option ((Int⊕Unit)):=
 loopL fun s=>Zq50.B x s
def Zq51.B (x:Inode_) (i_2:Int) (k_:Int):Option (Int⊕((Int⊕Unit))):=
 cond (decide (k_<i_2)) (cond (inB k_ x.2.2.2.1.length) (cond (inB i_2 x.2.2.2.1.length) ((some ((x.2.2.2.1.getD k_.toNat 0) == (x.2.2.2.1.getD i_2.toNat 0))).bind fun v=>cond v (some (.inr (.inl 7))) (some (.inl (w64 (k_+1))))) none) none) (some (.inr (.inr ())))
def Zq51 (x:Inode_) (i_2:Int):Int→Option ((Int⊕Unit)):=
 loopL fun s=>Zq51.B x i_2 s
def Zq52.B (x:Inode_) (i_2:Int):Option (Int⊕((Int⊕Unit))):=
 cond (decide (i_2<(x.2.2.2.1.length:Int))) ((Zq51 x i_2 0).bind fun o2=>sel o2 (fun b2=>some (.inr (.inl b2))) (fun c2=>some (.inl (w64 (i_2+1))))) (some (.inr (.inr ())))
def Zq52 (x:Inode_):Int→Option ((Int⊕Unit)):=
 loopL fun s=>Zq52.B x s
def Zq53 (x:Inode_):Option Int:=
 (Zq38 x.2.1 1 60).bind fun r=>cond (!r) (some 3) ((Zq48 x.2.2.1).bind fun r2=>cond (!r2) (some 3) ((Zq49 x.2.2.1).bind fun r3=>cond ((x.2.2.2.1.length:Int) != r3) (some 1) ((Zq50 x 0).bind fun o=>sel o (fun b=>some b) (fun c=>(Zq52 x 0).bind fun o3=>sel o3 (fun b3=>some b3) (fun c3=>some 0)))))
namespace Zq53
def G:Gam:=mkG [(219,Zq38.FS),(307,Zq48.FS),(239,Zq49.FS)]
theorem Gok:GOk PR G:=.cons Zq38.ok (.cons Zq48.ok (.cons Zq49.ok .nil))
end Zq53
namespace Zq50
def c:=codeAt (bodyOf Proofs.Tryz.f272) [1,1,1,0,1,0,0]
def sp:SP:=⟨[(0,.pt tInode_),(3,.cs I64)],[]⟩
def out (x:Inode_):FOut ((Int⊕Unit)):=fun oo0 _ kk0=>sel oo0 (fun bb0=>kk0 (.rt) ⟨[(2,.cs I64 bb0)],[]⟩) (fun cc0=>kk0 (.ex 0) ⟨[(0,.pt tInode_ x)],[]⟩)
def fr:=lfrag sp (fun x=>Zq50 x.1.1 x.1.2.1) fun x=>out x.1.1
theorem ok:CodeOk PR 78 1 (.loop c) fr:=
 lp_ok tbok hmix h0 .no (G:=Zq53.G) Zq53.Gok (L:=mkL []) (l:=[]) hT [0,3] [] [(0,([0],[]))] ([2],[]) (fun x s=>B x.1.1 s) (fun x s=>⟨[(0,.pt tInode_ x.1.1),(3,.cs I64 s)],[]⟩) (fun x=>x.1.2.1)
  (fun x s=>by simp only[B,mC,mB,mS,mO,mN];kernel_rfl)
end Zq50
namespace Zq51
def c:=codeAt (bodyOf Proofs.Tryz.f272) [1,1,1,1,0,1,0,0,1,0,0,1,0,0]
def sp:SP:=⟨[(0,.pt tInode_),(4,.cs I64),(5,.cs I64)],[]⟩
def out (x:Inode_) (i_2:Int):FOut ((Int⊕Unit)):=fun oo0 _ kk0=>sel oo0 (fun bb0=>kk0 (.rt) ⟨[(2,.cs I64 bb0)],[]⟩) (fun cc0=>kk0 (.ex 4) ⟨[(0,.pt tInode_ x),(4,.cs I64 i_2)],[]⟩)
def fr:=lfrag sp (fun x=>Zq51 x.1.1 x.1.2.1 x.1.2.2.1) fun x=>out x.1.1 x.1.2.1
theorem ok:CodeOk PR 78 1 (.loop c) fr:=
 lp_ok tbok hmix h0 .no (G:=Zq53.G) Zq53.Gok (L:=mkL []) (l:=[]) hT [0,4,5] [] [(4,([0,4],[]))] ([2],[]) (fun x s=>B x.1.1 x.1.2.1 s) (fun x s=>⟨[(0,.pt tInode_ x.1.1),(4,.cs I64 x.1.2.1),(5,.cs I64 s)],[]⟩) (fun x=>x.1.2.2.1)
  (fun x s=>by simp only[B,mC,mB,mS,mO,mN];kernel_rfl)
end Zq51
namespace Zq52
def c:=codeAt (bodyOf Proofs.Tryz.f272) [1,1,1,1,0,1,0,0]
def sp:SP:=⟨[(0,.pt tInode_),(4,.cs I64)],[]⟩
def out (x:Inode_):FOut ((Int⊕Unit)):=fun oo0 _ kk0=>sel oo0 (fun bb0=>kk0 (.rt) ⟨[(2,.cs I64 bb0)],[]⟩) (fun cc0=>kk0 (.ex 2) ⟨[],[]⟩)
def fr:=lfrag sp (fun x=>Zq52 x.1.1 x.1.2.1) fun x=>out x.1.1
theorem ok:CodeOk PR 78 1 (.loop c) fr:=
 lp_ok tbok hmix h0 (.R (.L (.one (.R (.one (.fr 2)))))) (G:=Zq53.G) Zq53.Gok (L:=mkL [(2,Zq51.fr)]) (l:=[(2,.loop Zq51.c)]) ⟨Lam.cons Zq51.ok,trivial⟩ [0,4] [] [(2,([],[]))] ([2],[]) (fun x s=>B x.1.1 s) (fun x s=>⟨[(0,.pt tInode_ x.1.1),(4,.cs I64 s)],[]⟩) (fun x=>x.1.2.1)
  (fun x s=>by simp only[B,mC,mB,mS,mO,mN];kernel_rfl)
end Zq52
namespace Zq53
def pts:List PT:=[.pt tInode_]
def FS:FS:=mkFS [.sh] pts (fun x=>Zq53 x.1) fun t=>⟨[.cs I64 t],[]⟩
theorem ok:FsOk PR 272 FS:=
 fn_ok tbok hmix Proofs.Tryz.f272 h0 (.R (.R (.R (.two (.R (.one (.fr 0))) (.L (.R (.one (.fr 1)))))))) (G:=G) Gok (L:=mkL [(0,Zq50.fr),(2,Zq51.fr),(1,Zq52.fr)]) (l:=[(0,.loop Zq50.c),(1,.loop Zq52.c)]) ⟨Lam.cons Zq50.ok,Lam.skip rfl (Lam.skip rfl (Lam.cons Zq52.ok)),trivial⟩
  (fun x=>by simp only[Zq53,mC,mB,mS,mO,mN];kernel_rfl)
end Zq53
def Zq54.B (name:List UInt8) (i_:Int):Option (Int⊕((Int⊕Unit))):=
 cond (decide (i_<(name.length:Int))) (cond (inB i_ name.length) ((some (decide (((name.getD i_.toNat 0).toNat:Int)<97))).bind fun v=>cond (cond (!v) (inB i_ name.length) true) ((some (cond v true (decide (((name.getD i_.toNat 0).toNat:Int)>122)))).bind fun v2=>cond v2 (some (.inr (.inl 5))) (some (.inl (w64 (i_+1))))) none) none) (some (.inr (.inr ())))
def Zq54 (name:List UInt8):Int→Option ((Int⊕Unit)):=
 loopL fun s=>Zq54.B name s
def Zq55 (name:List UInt8):Option Int:=
 (Zq54 name 0).bind fun o=>sel o (fun b=>some b) (fun c=>cond (name == ([]:List UInt8)) (some 5) (cond (decide ((name.length:Int)>4)) (some 2) (some 0)))
namespace Zq54
def c:=codeAt (bodyOf Proofs.Tryz.f308) [1,0,1,0,0]
def sp:SP:=⟨[(0,.cs .str),(3,.cs I64)],[]⟩
def out (name:List UInt8):FOut ((Int⊕Unit)):=fun oo0 _ kk0=>sel oo0 (fun bb0=>kk0 (.rt) ⟨[(2,.cs I64 bb0)],[]⟩) (fun cc0=>kk0 (.ex 0) ⟨[(0,.cs .str name)],[]⟩)
def fr:=lfrag sp (fun x=>Zq54 x.1.1 x.1.2.1) fun x=>out x.1.1
theorem ok:CodeOk PR 25 1 (.loop c) fr:=
 lp_ok tbok hmix h0 .no (G:=(mkG [])) .nil (L:=mkL []) (l:=[]) hT [0,3] [] [(0,([0],[]))] ([2],[]) (fun x s=>B x.1.1 s) (fun x s=>⟨[(0,.cs .str x.1.1),(3,.cs I64 s)],[]⟩) (fun x=>x.1.2.1)
  (fun x s=>by simp only[B,mC,mB,mS,mO,mN];kernel_rfl)
end Zq54
namespace Zq55
def pts:List PT:=[.cs .str]
def FS:FS:=mkFS [.sh] pts (fun x=>Zq55 x.1) fun t=>⟨[.cs I64 t],[]⟩
theorem ok:FsOk PR 308 FS:=
 fn_ok tbok hmix Proofs.Tryz.f308 h0 (.R (.L (.R (.one (.fr 0))))) (G:=(mkG [])) .nil (L:=mkL [(0,Zq54.fr)]) (l:=[(0,.loop Zq54.c)]) ⟨Lam.cons Zq54.ok,trivial⟩
  (fun x=>by simp only[Zq55,mC,mB,mS,mO,mN];kernel_rfl)
end Zq55
def Zq56.B (x:Inode_) (i_:Int):Option (Int⊕((Int⊕Unit))):=
 cond (decide (i_<(x.2.2.2.2.1.length:Int))) (cond (inB i_ x.2.2.2.2.1.length) ((Zq55 (x.2.2.2.2.1.getD i_.toNat zEntry_).1).bind fun r=>cond (r != 0) (some (.inr (.inl r))) (cond (inB i_ x.2.2.2.2.1.length) ((Zq38 (x.2.2.2.2.1.getD i_.toNat zEntry_).2.1 0 9).bind fun r2=>cond (!r2) (some (.inr (.inl 3))) (cond (cond (decide (i_>0)) (inB i_ x.2.2.2.2.1.length) true) (cond (cond (decide (i_>0)) (inB (w64 (i_-1)) x.2.2.2.2.1.length) true) ((some (cond (decide (i_>0)) (leB (x.2.2.2.2.1.getD i_.toNat zEntry_).1 (x.2.2.2.2.1.getD (w64 (i_-1)).toNat zEntry_).1 || (x.2.2.2.2.1.getD i_.toNat zEntry_).1 == (x.2.2.2.2.1.getD (w64 (i_-1)).toNat zEntry_).1) false)).bind fun v=>cond v (some (.inr (.inl 1))) (some (.inl (w64 (i_+1))))) none) none)) none)) none) (some (.inr (.inr ())))
def Zq56 (x:Inode_):Int→Option ((Int⊕Unit)):=
 loopL fun s=>Zq56.B x s
def Zq57 (x:Inode_):Option Int:=
 cond (decide ((x.2.2.2.2.1.length:Int)>6)) (some 2) ((Zq56 x 0).bind fun o=>sel o (fun b=>some b) (fun c=>some 0))
namespace Zq57
def G:Gam:=mkG [(308,Zq55.FS),(219,Zq38.FS)]
theorem Gok:GOk PR G:=.cons Zq55.ok (.cons Zq38.ok .nil)
end Zq57
namespace Zq56
def c:=codeAt (bodyOf Proofs.Tryz.f273) [1,1,0,1,0,0]
def sp:SP:=⟨[(0,.pt tInode_),(3,.cs I64)],[]⟩
def out (x:Inode_):FOut ((Int⊕Unit)):=fun oo0 _ kk0=>sel oo0 (fun bb0=>kk0 (.rt) ⟨[(2,.cs I64 bb0)],[]⟩) (fun cc0=>kk0 (.ex 0) ⟨[],[]⟩)
def fr:=lfrag sp (fun x=>Zq56 x.1.1 x.1.2.1) fun x=>out x.1.1
theorem ok:CodeOk PR 64 1 (.loop c) fr:=
 lp_ok tbok hmix h0 .no (G:=Zq57.G) Zq57.Gok (L:=mkL []) (l:=[]) hT [0,3] [] [(0,([],[]))] ([2],[]) (fun x s=>B x.1.1 s) (fun x s=>⟨[(0,.pt tInode_ x.1.1),(3,.cs I64 s)],[]⟩) (fun x=>x.1.2.1)
  (fun x s=>by simp only[B,mC,mB,mS,mO,mN];kernel_rfl)
end Zq56
namespace Zq57
def pts:List PT:=[.pt tInode_]
def FS:FS:=mkFS [.sh] pts (fun x=>Zq57 x.1) fun t=>⟨[.cs I64 t],[]⟩
theorem ok:FsOk PR 273 FS:=
 fn_ok tbok hmix Proofs.Tryz.f273 h0 (.R (.R (.L (.R (.one (.fr 0)))))) (G:=G) Gok (L:=mkL [(0,Zq56.fr)]) (l:=[(0,.loop Zq56.c)]) ⟨Lam.cons Zq56.ok,trivial⟩
  (fun x=>by simp only[Zq57,mC,mB,mS,mO,mN];kernel_rfl)
end Zq57
def Zq58 (x:Inode_):Option Int:=
 (Zq38 x.1 0 2).bind fun r=>cond (!r) (some 1) ((some (cond (x.1 != 1) (cond (cond (x.2.1 != 0) true (x.2.2.1 != 0)) true (decide ((x.2.2.2.1.length:Int)>0))) false)).bind fun v=>(some (cond v true (cond (x.1 != 2) (decide ((x.2.2.2.2.1.length:Int)>0)) false))).bind fun v2=>cond v2 (some 1) (cond (x.1 == 1) ((Zq53 x).bind fun r2=>some r2) (cond (x.1 == 2) ((Zq57 x).bind fun r3=>some r3) (some 0))))
namespace Zq58
def G:Gam:=mkG [(219,Zq38.FS),(272,Zq53.FS),(273,Zq57.FS)]
def pts:List PT:=[.pt tInode_]
def FS:FS:=mkFS [.sh] pts (fun x=>Zq58 x.1) fun t=>⟨[.cs I64 t],[]⟩
theorem ok:FsOk PR 241 FS:=
 fn_ok tbok hmix Proofs.Tryz.f241 h0 .no (G:=G) (show GOk PR G from .cons Zq38.ok (.cons Zq53.ok (.cons Zq57.ok .nil))) (L:=mkL []) (l:=[]) hT
  (fun x=>by simp only[Zq58,mC,mB,mS,mO,mN];kernel_rfl)
end Zq58
def Zq59.B (list:List Inode_) (i_:Int):Option (Int⊕((Int⊕Unit))):=
 cond (decide (i_<(list.length:Int))) (cond (inB i_ list.length) ((Zq58 (list.getD i_.toNat zInode_)).bind fun r=>cond (r != 0) (some (.inr (.inl r))) (some (.inl (w64 (i_+1))))) none) (some (.inr (.inr ())))
def Zq59 (list:List Inode_):Int→Option ((Int⊕Unit)):=
 loopL fun s=>Zq59.B list s
def Zq60 (list:List Inode_):Option Int:=
 cond (decide ((list.length:Int)>10)) (some 2) ((Zq59 list 0).bind fun o=>sel o (fun b=>some b) (fun c=>some 0))
namespace Zq60
def G:Gam:=mkG [(241,Zq58.FS)]
theorem Gok:GOk PR G:=.cons Zq58.ok .nil
end Zq60
namespace Zq59
def c:=codeAt (bodyOf Proofs.Tryz.f181) [1,1,0,1,0,0]
def sp:SP:=⟨[(0,.cs (.sl tInode_)),(3,.cs I64)],[]⟩
def out (list:List Inode_):FOut ((Int⊕Unit)):=fun oo0 _ kk0=>sel oo0 (fun bb0=>kk0 (.rt) ⟨[(2,.cs I64 bb0)],[]⟩) (fun cc0=>kk0 (.ex 0) ⟨[],[]⟩)
def fr:=lfrag sp (fun x=>Zq59 x.1.1 x.1.2.1) fun x=>out x.1.1
theorem ok:CodeOk PR 21 1 (.loop c) fr:=
 lp_ok tbok hmix h0 .no (G:=Zq60.G) Zq60.Gok (L:=mkL []) (l:=[]) hT [0,3] [] [(0,([],[]))] ([2],[]) (fun x s=>B x.1.1 s) (fun x s=>⟨[(0,.cs (.sl tInode_) x.1.1),(3,.cs I64 s)],[]⟩) (fun x=>x.1.2.1)
  (fun x s=>by simp only[B,mC,mB,mS,mO,mN];kernel_rfl)
end Zq59
namespace Zq60
def pts:List PT:=[.cs (.sl tInode_)]
def FS:FS:=mkFS [.sh] pts (fun x=>Zq60 x.1) fun t=>⟨[.cs I64 t],[]⟩
theorem ok:FsOk PR 181 FS:=
 fn_ok tbok hmix Proofs.Tryz.f181 h0 (.R (.R (.L (.R (.one (.fr 0)))))) (G:=G) Gok (L:=mkL [(0,Zq59.fr)]) (l:=[(0,.loop Zq59.c)]) ⟨Lam.cons Zq59.ok,trivial⟩
  (fun x=>by simp only[Zq60,mC,mB,mS,mO,mN];kernel_rfl)
end Zq60
def Zq61.B (list:List Inode_) (at_:Int) (i_:Int) (n_2:Int) (k_:Int):Option ((Int×Int)⊕Int):=
 cond (inB i_ list.length) ((some ((list.getD i_.toNat zInode_).2.2.2.1.length:Int)).bind fun v=>cond (decide (k_<v)) (cond (inB i_ list.length) (cond (inB k_ ((list.getD i_.toNat zInode_).2.2.2.1.length)) ((some ((list.getD i_.toNat zInode_).2.2.2.1.getD k_.toNat 0)).bind fun v2=>cond (v2 == at_) (some (.inl (w64 (n_2+1),w64 (k_+1)))) (some (.inl (n_2,w64 (k_+1))))) none) none) (some (.inr n_2))) none
def Zq61 (list:List Inode_) (at_:Int) (i_:Int):(Int×Int)→Option Int:=
 loopL fun s=>Zq61.B list at_ i_ s.1 s.2
def Zq62.B (list:List Inode_) (at_:Int) (n_:Int) (i_:Int):Option ((Int×Int)⊕Int):=
 cond (decide (i_<(list.length:Int))) ((Zq61 list at_ i_ (n_,0)).bind fun o=>some (.inl (o,w64 (i_+1)))) (some (.inr n_))
def Zq62 (list:List Inode_) (at_:Int):(Int×Int)→Option Int:=
 loopL fun s=>Zq62.B list at_ s.1 s.2
def Zq63 (list:List Inode_) (at_:Int):Option Int:=
 (Zq62 list at_ (0,0)).bind fun o2=>some o2
namespace Zq61
def c:=codeAt (bodyOf Proofs.Tryz.f215) [1,1,0,1,0,0,1,0,0,1,0,0]
def sp:SP:=⟨[(0,.cs (.sl tInode_)),(1,.cs I64),(5,.cs I64),(6,.cs I64),(7,.cs I64)],[]⟩
def out (list:List Inode_) (at_:Int) (i_:Int):FOut Int:=fun bb0 _ kk0=>kk0 (.ex 2) ⟨[(0,.cs (.sl tInode_) list),(1,.cs I64 at_),(5,.cs I64 bb0),(6,.cs I64 i_)],[]⟩
def fr:=lfrag sp (fun x=>Zq61 x.1.1 x.1.2.1 x.1.2.2.2.1 (x.1.2.2.1,x.1.2.2.2.2.1)) fun x=>out x.1.1 x.1.2.1 x.1.2.2.2.1
theorem ok:CodeOk PR 37 2 (.loop c) fr:=
 lp_ok tbok hmix h0 .no (G:=(mkG [])) .nil (L:=mkL []) (l:=[]) hT [0,1,5,6,7] [] [(2,([0,1,5,6],[]))] ([],[]) (fun x s=>B x.1.1 x.1.2.1 x.1.2.2.2.1 s.1 s.2) (fun x s=>⟨[(0,.cs (.sl tInode_) x.1.1),(1,.cs I64 x.1.2.1),(5,.cs I64 s.1),(6,.cs I64 x.1.2.2.2.1),(7,.cs I64 s.2)],[]⟩) (fun x=>(x.1.2.2.1,x.1.2.2.2.2.1))
  (fun x s=>by simp only[B,mC,mB,mS,mO,mN];kernel_rfl)
end Zq61
namespace Zq62
def c:=codeAt (bodyOf Proofs.Tryz.f215) [1,1,0,1,0,0]
def sp:SP:=⟨[(0,.cs (.sl tInode_)),(1,.cs I64),(5,.cs I64),(6,.cs I64)],[]⟩
def out (list:List Inode_) (at_:Int):FOut Int:=fun bb0 _ kk0=>kk0 (.ex 0) ⟨[(5,.cs I64 bb0)],[]⟩
def fr:=lfrag sp (fun x=>Zq62 x.1.1 x.1.2.1 (x.1.2.2.1,x.1.2.2.2.1)) fun x=>out x.1.1 x.1.2.1
theorem ok:CodeOk PR 37 2 (.loop c) fr:=
 lp_ok tbok hmix h0 (.R (.L (.one (.R (.one (.fr 1)))))) (G:=(mkG [])) .nil (L:=mkL [(1,Zq61.fr)]) (l:=[(1,.loop Zq61.c)]) ⟨Lam.cons Zq61.ok,trivial⟩ [0,1,5,6] [] [(0,([5],[]))] ([],[]) (fun x s=>B x.1.1 x.1.2.1 s.1 s.2) (fun x s=>⟨[(0,.cs (.sl tInode_) x.1.1),(1,.cs I64 x.1.2.1),(5,.cs I64 s.1),(6,.cs I64 s.2)],[]⟩) (fun x=>(x.1.2.2.1,x.1.2.2.2.1))
  (fun x s=>by simp only[B,mC,mB,mS,mO,mN];kernel_rfl)
end Zq62
namespace Zq63
def pts:List PT:=[.cs (.sl tInode_),.cs I64]
def FS:FS:=mkFS [.sh,.sh] pts (fun x=>Zq63 x.1 x.2.1) fun t=>⟨[.cs I64 t],[]⟩
theorem ok:FsOk PR 215 FS:=
 fn_ok tbok hmix Proofs.Tryz.f215 h0 (.R (.R (.L (.R (.one (.fr 0)))))) (G:=(mkG [])) .nil (L:=mkL [(1,Zq61.fr),(0,Zq62.fr)]) (l:=[(0,.loop Zq62.c)]) ⟨Lam.skip rfl (Lam.cons Zq62.ok),trivial⟩
  (fun x=>by simp only[Zq63,mC,mB,mS,mO,mN];kernel_rfl)
end Zq63
def Zq64.B (list:List Inode_) (once_:Bool) (at_:Int) (out_:List Int):Option ((Bool×Int×List Int)⊕(Bool×List Int)):=
 cond (decide (at_<20)) ((Zq63 list at_).bind fun r=>cond (decide (r>0)) (cond (decide ((out_++([at_])).length≤2147483648)) (some (.inl (cond once_ (decide (r≤1)) false,w64 (at_+1),out_++([at_])))) none) (some (.inl (cond once_ (decide (r≤1)) false,w64 (at_+1),out_)))) (some (.inr (once_,out_)))
def Zq64 (list:List Inode_):(Bool×Int×List Int)→Option (Bool×List Int):=
 loopL fun s=>Zq64.B list s.1 s.2.1 s.2.2
def Zq65 (list:List Inode_):Option ((List Int)×Bool):=
 (Zq64 list (true,0,[])).bind fun o=>some (o.2,o.1)
namespace Zq65
def G:Gam:=mkG [(215,Zq63.FS)]
theorem Gok:GOk PR G:=.cons Zq63.ok .nil
end Zq65
namespace Zq64
def c:=codeAt (bodyOf Proofs.Tryz.f220) [1,1,1,0,1,0,0]
def sp:SP:=⟨[(0,.cs (.sl tInode_)),(4,.seg 4 []),(5,.cs .bool),(6,.cs I64)],[(4,.reg,.cd SI)]⟩
def out (list:List Inode_):FOut (Bool×List Int):=fun bb0 _ kk0=>kk0 (.ex 0) ⟨[(4,.seg 4 []),(5,.cs .bool bb0.1)],[sr 4 (.cd SI bb0.2)]⟩
def fr:=lfrag sp (fun x=>Zq64 x.1.1 (x.1.2.2.1,x.1.2.2.2.1,x.2.1)) fun x=>out x.1.1
theorem ok:CodeOk PR 29 1 (.loop c) fr:=
 lp_ok tbok hmix h0 .no (G:=Zq65.G) Zq65.Gok (L:=mkL []) (l:=[]) hT [0,4,5,6] [4] [(0,([4,5],[4]))] ([],[]) (fun x s=>B x.1.1 s.1 s.2.1 s.2.2) (fun x s=>⟨[(0,.cs (.sl tInode_) x.1.1),(4,.seg 4 []),(5,.cs .bool s.1),(6,.cs I64 s.2.1)],[sr 4 (.cd SI s.2.2)]⟩) (fun x=>(x.1.2.2.1,x.1.2.2.2.1,x.2.1))
  (fun x s=>by simp only[B,mC,mB,mS,mO,mN];kernel_rfl)
end Zq64
namespace Zq65
def pts:List PT:=[.cs (.sl tInode_)]
def FS:FS:=mkFS [.sh] pts (fun x=>Zq65 x.1) fun t=>⟨[.cd SI t.1,.cs .bool t.2],[]⟩
theorem ok:FsOk PR 220 FS:=
 fn_ok tbok hmix Proofs.Tryz.f220 h0 (.R (.R (.R (.L (.R (.one (.fr 0))))))) (G:=G) Gok (L:=mkL [(0,Zq64.fr)]) (l:=[(0,.loop Zq64.c)]) ⟨Lam.cons Zq64.ok,trivial⟩
  (fun x=>by simp only[Zq65,mC,mB,mS,mO,mN];kernel_rfl)
end Zq65
def Zq66.B (f:Fs_) (i_:Int):Option (Int⊕((Int⊕Unit))):=
 cond (decide (i_<(f.2.1.length:Int))) (cond (inB i_ f.2.1.length) ((some (decide (((f.2.1.getD i_.toNat []).length:Int)>8))).bind fun v2=>cond v2 (some (.inr (.inl 2))) (some (.inl (w64 (i_+1))))) none) (some (.inr (.inr ())))
def Zq66 (f:Fs_):Int→Option ((Int⊕Unit)):=
 loopL fun s=>Zq66.B f s
def Zq67.B (f:Fs_) (i_2:Int) (k_:Int):Option (Int⊕((Int⊕Unit))):=
 cond (inB i_2 f.1.length) ((some ((f.1.getD i_2.toNat zInode_).2.2.2.2.1.length:Int)).bind fun v3=>cond (decide (k_<v3)) (cond (inB i_2 f.1.length) (cond (inB k_ ((f.1.getD i_2.toNat zInode_).2.2.2.2.1.length)) ((some ((f.1.getD i_2.toNat zInode_).2.2.2.2.1.getD k_.toNat zEntry_).2.1).bind fun v4=>cond (cond (!(decide (v4≥(f.1.length:Int)))) (inB v4 f.1.length) true) ((some (cond (decide (v4≥(f.1.length:Int))) true ((f.1.getD v4.toNat zInode_).1 == 0))).bind fun v5=>cond v5 (some (.inr (.inl 4))) (some (.inl (w64 (k_+1))))) none) none) none) (some (.inr (.inr ())))) none
def Zq67 (f:Fs_) (i_2:Int):Int→Option ((Int⊕Unit)):=
 loopL fun s=>Zq67.B f i_2 s
def Zq68.B (f:Fs_) (i_2:Int):Option (Int⊕((Int⊕Unit))):=
 cond (decide (i_2<(f.1.length:Int))) ((Zq67 f i_2 0).bind fun o2=>sel o2 (fun b2=>some (.inr (.inl b2))) (fun c2=>some (.inl (w64 (i_2+1))))) (some (.inr (.inr ())))
def Zq68 (f:Fs_):Int→Option ((Int⊕Unit)):=
 loopL fun s=>Zq68.B f s
def Zq69 (f:Fs_):Option Int:=
 (Zq60 f.1).bind fun r=>cond (r != 0) (some r) (cond (cond (!((f.1.length:Int) == 0)) (inB 0 f.1.length) true) ((some (cond ((f.1.length:Int) == 0) true ((f.1.getD (0:Int).toNat zInode_).1 != 2))).bind fun v=>cond (cond v true ((f.2.1.length:Int) != 20)) (some 1) ((Zq66 f 0).bind fun o=>sel o (fun b=>some b) (fun c=>(Zq65 f.1).bind fun r2=>cond (!r2.2) (some 7) ((Zq68 f 0).bind fun o3=>sel o3 (fun b3=>some b3) (fun c3=>some 0))))) none)
namespace Zq69
def G:Gam:=mkG [(181,Zq60.FS),(220,Zq65.FS)]
theorem Gok:GOk PR G:=.cons Zq60.ok (.cons Zq65.ok .nil)
end Zq69
namespace Zq66
def c:=codeAt (bodyOf Proofs.Tryz.f143) [1,1,1,0,1,0,0]
def sp:SP:=⟨[(0,.pt tFs_),(4,.cs I64)],[]⟩
def out (f:Fs_):FOut ((Int⊕Unit)):=fun oo0 _ kk0=>sel oo0 (fun bb0=>kk0 (.rt) ⟨[(2,.cs I64 bb0)],[]⟩) (fun cc0=>kk0 (.ex 0) ⟨[(0,.pt tFs_ f)],[]⟩)
def fr:=lfrag sp (fun x=>Zq66 x.1.1 x.1.2.1) fun x=>out x.1.1
theorem ok:CodeOk PR 122 1 (.loop c) fr:=
 lp_ok tbok hmix h0 .no (G:=Zq69.G) Zq69.Gok (L:=mkL []) (l:=[]) hT [0,4] [] [(0,([0],[]))] ([2],[]) (fun x s=>B x.1.1 s) (fun x s=>⟨[(0,.pt tFs_ x.1.1),(4,.cs I64 s)],[]⟩) (fun x=>x.1.2.1)
  (fun x s=>by simp only[B,mC,mB,mS,mO,mN];kernel_rfl)
end Zq66
namespace Zq67
def c:=codeAt (bodyOf Proofs.Tryz.f143) [1,1,1,1,1,0,1,0,0,1,0,0,1,0,0]
def sp:SP:=⟨[(0,.pt tFs_),(7,.cs I64),(8,.cs I64)],[]⟩
def out (f:Fs_) (i_2:Int):FOut ((Int⊕Unit)):=fun oo0 _ kk0=>sel oo0 (fun bb0=>kk0 (.rt) ⟨[(2,.cs I64 bb0)],[]⟩) (fun cc0=>kk0 (.ex 4) ⟨[(0,.pt tFs_ f),(7,.cs I64 i_2)],[]⟩)
def fr:=lfrag sp (fun x=>Zq67 x.1.1 x.1.2.1 x.1.2.2.1) fun x=>out x.1.1 x.1.2.1
theorem ok:CodeOk PR 122 1 (.loop c) fr:=
 lp_ok tbok hmix h0 .no (G:=Zq69.G) Zq69.Gok (L:=mkL []) (l:=[]) hT [0,7,8] [] [(4,([0,7],[]))] ([2],[]) (fun x s=>B x.1.1 x.1.2.1 s) (fun x s=>⟨[(0,.pt tFs_ x.1.1),(7,.cs I64 x.1.2.1),(8,.cs I64 s)],[]⟩) (fun x=>x.1.2.2.1)
  (fun x s=>by simp only[B,mC,mB,mS,mO,mN];kernel_rfl)
end Zq67
namespace Zq68
def c:=codeAt (bodyOf Proofs.Tryz.f143) [1,1,1,1,1,0,1,0,0]
def sp:SP:=⟨[(0,.pt tFs_),(7,.cs I64)],[]⟩
def out (f:Fs_):FOut ((Int⊕Unit)):=fun oo0 _ kk0=>sel oo0 (fun bb0=>kk0 (.rt) ⟨[(2,.cs I64 bb0)],[]⟩) (fun cc0=>kk0 (.ex 2) ⟨[],[]⟩)
def fr:=lfrag sp (fun x=>Zq68 x.1.1 x.1.2.1) fun x=>out x.1.1
theorem ok:CodeOk PR 122 1 (.loop c) fr:=
 lp_ok tbok hmix h0 (.R (.L (.one (.R (.one (.fr 2)))))) (G:=Zq69.G) Zq69.Gok (L:=mkL [(2,Zq67.fr)]) (l:=[(2,.loop Zq67.c)]) ⟨Lam.cons Zq67.ok,trivial⟩ [0,7] [] [(2,([],[]))] ([2],[]) (fun x s=>B x.1.1 s) (fun x s=>⟨[(0,.pt tFs_ x.1.1),(7,.cs I64 s)],[]⟩) (fun x=>x.1.2.1)
  (fun x s=>by simp only[B,mC,mB,mS,mO,mN];kernel_rfl)
end Zq68
namespace Zq69
def pts:List PT:=[.pt tFs_]
def FS:FS:=mkFS [.sh] pts (fun x=>Zq69 x.1) fun t=>⟨[.cs I64 t],[]⟩
theorem ok:FsOk PR 143 FS:=
 fn_ok tbok hmix Proofs.Tryz.f143 h0 (.R (.R (.R (.two (.R (.one (.fr 0))) (.R (.L (.R (.one (.fr 1))))))))) (G:=G) Gok (L:=mkL [(0,Zq66.fr),(2,Zq67.fr),(1,Zq68.fr)]) (l:=[(0,.loop Zq66.c),(1,.loop Zq68.c)]) ⟨Lam.cons Zq66.ok,Lam.skip rfl (Lam.skip rfl (Lam.cons Zq68.ok)),trivial⟩
  (fun x=>by simp only[Zq69,mC,mB,mS,mO,mN];kernel_rfl)
end Zq69
def Zq70.B (f:Fs_) (round_:Int) (i_:Int) (k_:Int) (in_4:List Bool):Option ((Int×List Bool)⊕(List Bool)):=
 cond (inB i_ in_4.length) (cond (cond (in_4.getD i_.toNat false) (inB i_ f.1.length) true) ((some (cond (in_4.getD i_.toNat false) (decide (k_<((f.1.getD i_.toNat zInode_).2.2.2.2.1.length:Int))) false)).bind fun v=>cond v (cond (inB i_ f.1.length) (cond (inB k_ ((f.1.getD i_.toNat zInode_).2.2.2.2.1.length)) ((some ((f.1.getD i_.toNat zInode_).2.2.2.2.1.getD k_.toNat zEntry_).2.1).bind fun v2=>cond (inB v2 in_4.length) (some (.inl (w64 (k_+1),in_4.set v2.toNat true))) none) none) none) (some (.inr in_4))) none) none
def Zq70 (f:Fs_) (round_:Int) (i_:Int):(Int×List Bool)→Option (List Bool):=
 loopL fun s=>Zq70.B f round_ i_ s.1 s.2
def Zq71.B (f:Fs_) (round_:Int) (i_:Int) (in_3:List Bool):Option ((Int×List Bool)⊕(List Bool)):=
 cond (decide (i_<(f.1.length:Int))) ((Zq70 f round_ i_ (0,in_3)).bind fun o=>some (.inl (w64 (i_+1),o))) (some (.inr in_3))
def Zq71 (f:Fs_) (round_:Int):(Int×List Bool)→Option (List Bool):=
 loopL fun s=>Zq71.B f round_ s.1 s.2
def Zq72.B (f:Fs_) (round_:Int) (in_2:List Bool):Option ((Int×List Bool)⊕(List Bool)):=
 cond (decide (round_<(f.1.length:Int))) ((Zq71 f round_ (0,in_2)).bind fun o2=>some (.inl (w64 (round_+1),o2))) (some (.inr in_2))
def Zq72 (f:Fs_):(Int×List Bool)→Option (List Bool):=
 loopL fun s=>Zq72.B f s.1 s.2
def Zq73.B (o3:List Bool) (i_2:Int) (out_:List Int):Option ((Int×List Int)⊕(List Int)):=
 cond (decide (i_2<(o3.length:Int))) (cond (inB i_2 o3.length) (cond (o3.getD i_2.toNat false) (cond (decide ((out_++([i_2])).length≤2147483648)) (some (.inl (w64 (i_2+1),out_++([i_2])))) none) (some (.inl (w64 (i_2+1),out_)))) none) (some (.inr out_))
def Zq73 (o3:List Bool):(Int×List Int)→Option (List Int):=
 loopL fun s=>Zq73.B o3 s.1 s.2
def Zq74 (f:Fs_):Option (List Int):=
 cond (decide ((0:Int)≤(f.1.length:Int))&&(decide ((f.1.length:Int)≤(f.1.length:Int))&&decide ((f.1.length:Int)≤2147483648))) (cond (inB 0 ((List.replicate (f.1.length:Int).toNat false).length)) ((some ((List.replicate (f.1.length:Int).toNat false).set ((0:Int).toNat) true)).bind fun in_=>(Zq72 f (0,in_)).bind fun o3=>(Zq73 o3 (0,[])).bind fun o4=>some o4) none) none
namespace Zq70
def c:=codeAt (bodyOf Proofs.Tryz.f221) [1,1,1,0,1,0,0,1,0,0,1,0,0,1,0,0,1,0,0]
def sp:SP:=⟨[(0,.pt tFs_),(3,.seg 3 []),(4,.cs I64),(5,.cs I64),(6,.cs I64)],[(3,.reg,.cd (.sl .bool))]⟩
def out (f:Fs_) (round_:Int) (i_:Int):FOut (List Bool):=fun bb0 _ kk0=>kk0 (.ex 4) ⟨[(0,.pt tFs_ f),(3,.seg 3 []),(4,.cs I64 round_),(5,.cs I64 i_)],[sr 3 (.cd (.sl .bool) bb0)]⟩
def fr:=lfrag sp (fun x=>Zq70 x.1.1 x.1.2.2.1 x.1.2.2.2.1 (x.1.2.2.2.2.1,x.2.1)) fun x=>out x.1.1 x.1.2.2.1 x.1.2.2.2.1
theorem ok:CodeOk PR 84 1 (.loop c) fr:=
 lp_ok tbok hmix h0 .no (G:=(mkG [])) .nil (L:=mkL []) (l:=[]) hT [0,3,4,5,6] [3] [(4,([0,3,4,5],[3]))] ([],[]) (fun x s=>B x.1.1 x.1.2.2.1 x.1.2.2.2.1 s.1 s.2) (fun x s=>⟨[(0,.pt tFs_ x.1.1),(3,.seg 3 []),(4,.cs I64 x.1.2.2.1),(5,.cs I64 x.1.2.2.2.1),(6,.cs I64 s.1)],[sr 3 (.cd (.sl .bool) s.2)]⟩) (fun x=>(x.1.2.2.2.2.1,x.2.1))
  (fun x s=>by simp only[B,mC,mB,mS,mO,mN];kernel_rfl)
end Zq70
namespace Zq71
def c:=codeAt (bodyOf Proofs.Tryz.f221) [1,1,1,0,1,0,0,1,0,0,1,0,0]
def sp:SP:=⟨[(0,.pt tFs_),(3,.seg 3 []),(4,.cs I64),(5,.cs I64)],[(3,.reg,.cd (.sl .bool))]⟩
def out (f:Fs_) (round_:Int):FOut (List Bool):=fun bb0 _ kk0=>kk0 (.ex 2) ⟨[(0,.pt tFs_ f),(3,.seg 3 []),(4,.cs I64 round_)],[sr 3 (.cd (.sl .bool) bb0)]⟩
def fr:=lfrag sp (fun x=>Zq71 x.1.1 x.1.2.2.1 (x.1.2.2.2.1,x.2.1)) fun x=>out x.1.1 x.1.2.2.1
theorem ok:CodeOk PR 84 1 (.loop c) fr:=
 lp_ok tbok hmix h0 (.R (.L (.one (.R (.one (.fr 2)))))) (G:=(mkG [])) .nil (L:=mkL [(2,Zq70.fr)]) (l:=[(2,.loop Zq70.c)]) ⟨Lam.cons Zq70.ok,trivial⟩ [0,3,4,5] [3] [(2,([0,3,4],[3]))] ([],[]) (fun x s=>B x.1.1 x.1.2.2.1 s.1 s.2) (fun x s=>⟨[(0,.pt tFs_ x.1.1),(3,.seg 3 []),(4,.cs I64 x.1.2.2.1),(5,.cs I64 s.1)],[sr 3 (.cd (.sl .bool) s.2)]⟩) (fun x=>(x.1.2.2.2.1,x.2.1))
  (fun x s=>by simp only[B,mC,mB,mS,mO,mN];kernel_rfl)
end Zq71
namespace Zq72
def c:=codeAt (bodyOf Proofs.Tryz.f221) [1,1,1,0,1,0,0]
def sp:SP:=⟨[(0,.pt tFs_),(3,.seg 3 []),(4,.cs I64)],[(3,.reg,.cd (.sl .bool))]⟩
def out (f:Fs_):FOut (List Bool):=fun bb0 _ kk0=>kk0 (.ex 0) ⟨[(3,.seg 3 [])],[sr 3 (.cd (.sl .bool) bb0)]⟩
def fr:=lfrag sp (fun x=>Zq72 x.1.1 (x.1.2.2.1,x.2.1)) fun x=>out x.1.1
theorem ok:CodeOk PR 84 1 (.loop c) fr:=
 lp_ok tbok hmix h0 (.R (.L (.one (.R (.one (.fr 1)))))) (G:=(mkG [])) .nil (L:=mkL [(2,Zq70.fr),(1,Zq71.fr)]) (l:=[(1,.loop Zq71.c)]) ⟨Lam.skip rfl (Lam.cons Zq71.ok),trivial⟩ [0,3,4] [3] [(0,([3],[3]))] ([],[]) (fun x s=>B x.1.1 s.1 s.2) (fun x s=>⟨[(0,.pt tFs_ x.1.1),(3,.seg 3 []),(4,.cs I64 s.1)],[sr 3 (.cd (.sl .bool) s.2)]⟩) (fun x=>(x.1.2.2.1,x.2.1))
  (fun x s=>by simp only[B,mC,mB,mS,mO,mN];kernel_rfl)
end Zq72
namespace Zq73
def c:=codeAt (bodyOf Proofs.Tryz.f221) [1,1,1,1,1,0,1,0,0]
def sp:SP:=⟨[(3,.seg 3 []),(7,.seg 7 []),(8,.cs I64)],[(3,.reg,.cd (.sl .bool)),(7,.reg,.cd SI)]⟩
def out (o3:List Bool):FOut (List Int):=fun bb0 _ kk0=>kk0 (.ex 6) ⟨[(7,.seg 7 [])],[sr 7 (.cd SI bb0)]⟩
def fr:=lfrag sp (fun x=>Zq73 x.2.1 (x.1.2.2.1,x.2.2.1)) fun x=>out x.2.1
theorem ok:CodeOk PR 84 1 (.loop c) fr:=
 lp_ok tbok hmix h0 .no (G:=(mkG [])) .nil (L:=mkL []) (l:=[]) hT [3,7,8] [3,7] [(6,([7],[7]))] ([],[]) (fun x s=>B x.2.1 s.1 s.2) (fun x s=>⟨[(3,.seg 3 []),(7,.seg 7 []),(8,.cs I64 s.1)],[sr 3 (.cd (.sl .bool) x.2.1),sr 7 (.cd SI s.2)]⟩) (fun x=>(x.1.2.2.1,x.2.2.1))
  (fun x s=>by simp only[B,mC,mB,mS,mO,mN];kernel_rfl)
end Zq73
namespace Zq74
def pts:List PT:=[.pt tFs_]
def FS:FS:=mkFS [.sh] pts (fun x=>Zq74 x.1) fun t=>⟨[.cd SI t],[]⟩
theorem ok:FsOk PR 221 FS:=
 fn_ok tbok hmix Proofs.Tryz.f221 h0 (.R (.R (.R (.two (.R (.one (.fr 0))) (.R (.L (.R (.one (.fr 3))))))))) (G:=(mkG [])) .nil (L:=mkL [(2,Zq70.fr),(1,Zq71.fr),(0,Zq72.fr),(3,Zq73.fr)]) (l:=[(0,.loop Zq72.c),(3,.loop Zq73.c)]) ⟨Lam.skip rfl (Lam.skip rfl (Lam.cons Zq72.ok)),Lam.skip rfl (Lam.skip rfl (Lam.skip rfl (Lam.cons Zq73.ok))),trivial⟩
  (fun x=>by simp only[Zq74,mC,mB,mS,mO,mN];kernel_rfl)
end Zq74
def Zq75.B (list:List Inode_) (at_:Int) (i_:Int) (n_2:Int) (k_:Int):Option ((Int×Int)⊕Int):=
 cond (inB i_ list.length) ((some ((list.getD i_.toNat zInode_).2.2.2.2.1.length:Int)).bind fun v=>cond (decide (k_<v)) (cond (inB i_ list.length) (cond (inB k_ ((list.getD i_.toNat zInode_).2.2.2.2.1.length)) ((some ((list.getD i_.toNat zInode_).2.2.2.2.1.getD k_.toNat zEntry_).2.1).bind fun v2=>cond (v2 == at_) (some (.inl (w64 (n_2+1),w64 (k_+1)))) (some (.inl (n_2,w64 (k_+1))))) none) none) (some (.inr n_2))) none
def Zq75 (list:List Inode_) (at_:Int) (i_:Int):(Int×Int)→Option Int:=
 loopL fun s=>Zq75.B list at_ i_ s.1 s.2
def Zq76.B (list:List Inode_) (at_:Int) (n_:Int) (i_:Int):Option ((Int×Int)⊕Int):=
 cond (decide (i_<(list.length:Int))) ((Zq75 list at_ i_ (n_,0)).bind fun o=>some (.inl (o,w64 (i_+1)))) (some (.inr n_))
def Zq76 (list:List Inode_) (at_:Int):(Int×Int)→Option Int:=
 loopL fun s=>Zq76.B list at_ s.1 s.2
def Zq77 (list:List Inode_) (at_:Int):Option Int:=
 (Zq76 list at_ (0,0)).bind fun o2=>some o2
namespace Zq75
def c:=codeAt (bodyOf Proofs.Tryz.f222) [1,1,0,1,0,0,1,0,0,1,0,0]
def sp:SP:=⟨[(0,.cs (.sl tInode_)),(1,.cs I64),(5,.cs I64),(6,.cs I64),(7,.cs I64)],[]⟩
def out (list:List Inode_) (at_:Int) (i_:Int):FOut Int:=fun bb0 _ kk0=>kk0 (.ex 2) ⟨[(0,.cs (.sl tInode_) list),(1,.cs I64 at_),(5,.cs I64 bb0),(6,.cs I64 i_)],[]⟩
def fr:=lfrag sp (fun x=>Zq75 x.1.1 x.1.2.1 x.1.2.2.2.1 (x.1.2.2.1,x.1.2.2.2.2.1)) fun x=>out x.1.1 x.1.2.1 x.1.2.2.2.1
theorem ok:CodeOk PR 38 2 (.loop c) fr:=
 lp_ok tbok hmix h0 .no (G:=(mkG [])) .nil (L:=mkL []) (l:=[]) hT [0,1,5,6,7] [] [(2,([0,1,5,6],[]))] ([],[]) (fun x s=>B x.1.1 x.1.2.1 x.1.2.2.2.1 s.1 s.2) (fun x s=>⟨[(0,.cs (.sl tInode_) x.1.1),(1,.cs I64 x.1.2.1),(5,.cs I64 s.1),(6,.cs I64 x.1.2.2.2.1),(7,.cs I64 s.2)],[]⟩) (fun x=>(x.1.2.2.1,x.1.2.2.2.2.1))
  (fun x s=>by simp only[B,mC,mB,mS,mO,mN];kernel_rfl)
end Zq75
namespace Zq76
def c:=codeAt (bodyOf Proofs.Tryz.f222) [1,1,0,1,0,0]
def sp:SP:=⟨[(0,.cs (.sl tInode_)),(1,.cs I64),(5,.cs I64),(6,.cs I64)],[]⟩
def out (list:List Inode_) (at_:Int):FOut Int:=fun bb0 _ kk0=>kk0 (.ex 0) ⟨[(5,.cs I64 bb0)],[]⟩
def fr:=lfrag sp (fun x=>Zq76 x.1.1 x.1.2.1 (x.1.2.2.1,x.1.2.2.2.1)) fun x=>out x.1.1 x.1.2.1
theorem ok:CodeOk PR 38 2 (.loop c) fr:=
 lp_ok tbok hmix h0 (.R (.L (.one (.R (.one (.fr 1)))))) (G:=(mkG [])) .nil (L:=mkL [(1,Zq75.fr)]) (l:=[(1,.loop Zq75.c)]) ⟨Lam.cons Zq75.ok,trivial⟩ [0,1,5,6] [] [(0,([5],[]))] ([],[]) (fun x s=>B x.1.1 x.1.2.1 s.1 s.2) (fun x s=>⟨[(0,.cs (.sl tInode_) x.1.1),(1,.cs I64 x.1.2.1),(5,.cs I64 s.1),(6,.cs I64 s.2)],[]⟩) (fun x=>(x.1.2.2.1,x.1.2.2.2.1))
  (fun x s=>by simp only[B,mC,mB,mS,mO,mN];kernel_rfl)
end Zq76
namespace Zq77
def pts:List PT:=[.cs (.sl tInode_),.cs I64]
def FS:FS:=mkFS [.sh,.sh] pts (fun x=>Zq77 x.1 x.2.1) fun t=>⟨[.cs I64 t],[]⟩
theorem ok:FsOk PR 222 FS:=
 fn_ok tbok hmix Proofs.Tryz.f222 h0 (.R (.R (.L (.R (.one (.fr 0)))))) (G:=(mkG [])) .nil (L:=mkL [(1,Zq75.fr),(0,Zq76.fr)]) (l:=[(0,.loop Zq76.c)]) ⟨Lam.skip rfl (Lam.cons Zq76.ok),trivial⟩
  (fun x=>by simp only[Zq77,mC,mB,mS,mO,mN];kernel_rfl)
end Zq77
def Zq78.B (list:List Int) (v:Int) (i_:Int):Option (Int⊕((Bool⊕Unit))):=
 cond (decide (i_<(list.length:Int))) (cond (inB i_ list.length) (cond ((list.getD i_.toNat 0) == v) (some (.inr (.inl true))) (some (.inl (w64 (i_+1))))) none) (some (.inr (.inr ())))
def Zq78 (list:List Int) (v:Int):Int→Option ((Bool⊕Unit)):=
 loopL fun s=>Zq78.B list v s
def Zq79 (list:List Int) (v:Int):Option Bool:=
 (Zq78 list v 0).bind fun o=>sel o (fun b=>some b) (fun c=>some false)
namespace Zq78
def c:=codeAt (bodyOf Proofs.Tryz.f223) [1,0,1,0,0]
def sp:SP:=⟨[(0,.cs SI),(1,.cs I64),(5,.cs I64)],[]⟩
def out (list:List Int) (v:Int):FOut ((Bool⊕Unit)):=fun oo0 _ kk0=>sel oo0 (fun bb0=>kk0 (.rt) ⟨[(4,.cs .bool bb0)],[]⟩) (fun cc0=>kk0 (.ex 0) ⟨[],[]⟩)
def fr:=lfrag sp (fun x=>Zq78 x.1.1 x.1.2.1 x.1.2.2.1) fun x=>out x.1.1 x.1.2.1
theorem ok:CodeOk PR 18 2 (.loop c) fr:=
 lp_ok tbok hmix h0 .no (G:=(mkG [])) .nil (L:=mkL []) (l:=[]) hT [0,1,5] [] [(0,([],[]))] ([4],[]) (fun x s=>B x.1.1 x.1.2.1 s) (fun x s=>⟨[(0,.cs SI x.1.1),(1,.cs I64 x.1.2.1),(5,.cs I64 s)],[]⟩) (fun x=>x.1.2.2.1)
  (fun x s=>by simp only[B,mC,mB,mS,mO,mN];kernel_rfl)
end Zq78
namespace Zq79
def pts:List PT:=[.cs SI,.cs I64]
def FS:FS:=mkFS [.sh,.sh] pts (fun x=>Zq79 x.1 x.2.1) fun t=>⟨[.cs .bool t],[]⟩
theorem ok:FsOk PR 223 FS:=
 fn_ok tbok hmix Proofs.Tryz.f223 h0 (.R (.L (.R (.one (.fr 0))))) (G:=(mkG [])) .nil (L:=mkL [(0,Zq78.fr)]) (l:=[(0,.loop Zq78.c)]) ⟨Lam.cons Zq78.ok,trivial⟩
  (fun x=>by simp only[Zq79,mC,mB,mS,mO,mN];kernel_rfl)
end Zq79
def Zq80.B (f:Fs_) (r:List Int) (i_:Int):Option (Int⊕((Bool⊕Unit))):=
 cond (decide (i_<(f.1.length:Int))) (cond (inB i_ f.1.length) ((Zq77 f.1 i_).bind fun r2=>cond ((f.1.getD i_.toNat zInode_).1 == 0) (some (.inl (w64 (i_+1)))) (cond ((f.1.getD i_.toNat zInode_).1 == 1) (cond (r2 != (f.1.getD i_.toNat zInode_).2.1) (some (.inr (.inl false))) ((Zq79 r i_).bind fun r3=>cond (!r3) (some (.inr (.inl false))) (some (.inl (w64 (i_+1)))))) (cond (i_ == 0) (cond (r2 != 0) (some (.inr (.inl false))) ((Zq79 r i_).bind fun r4=>cond (!r4) (some (.inr (.inl false))) (some (.inl (w64 (i_+1)))))) (cond (r2 != 1) (some (.inr (.inl false))) ((Zq79 r i_).bind fun r5=>cond (!r5) (some (.inr (.inl false))) (some (.inl (w64 (i_+1))))))))) none) (some (.inr (.inr ())))
def Zq80 (f:Fs_) (r:List Int):Int→Option ((Bool⊕Unit)):=
 loopL fun s=>Zq80.B f r s
def Zq81 (f:Fs_):Option Bool:=
 (Zq74 f).bind fun r=>(Zq80 f r 0).bind fun o=>sel o (fun b=>some b) (fun c=>some true)
namespace Zq81
def G:Gam:=mkG [(221,Zq74.FS),(222,Zq77.FS),(223,Zq79.FS)]
theorem Gok:GOk PR G:=.cons Zq74.ok (.cons Zq77.ok (.cons Zq79.ok .nil))
end Zq81
namespace Zq80
def c:=codeAt (bodyOf Proofs.Tryz.f144) [1,1,0,1,0,0]
def sp:SP:=⟨[(0,.pt tFs_),(3,.seg 3 []),(4,.cs I64)],[(3,.reg,.cd SI)]⟩
def out (f:Fs_) (r:List Int):FOut ((Bool⊕Unit)):=fun oo0 _ kk0=>sel oo0 (fun bb0=>kk0 (.rt) ⟨[(2,.cs .bool bb0)],[]⟩) (fun cc0=>kk0 (.ex 0) ⟨[],[]⟩)
def fr:=lfrag sp (fun x=>Zq80 x.1.1 x.2.1 x.1.2.2.1) fun x=>out x.1.1 x.2.1
theorem ok:CodeOk PR 59 1 (.loop c) fr:=
 lp_ok tbok hmix h0 .no (G:=Zq81.G) Zq81.Gok (L:=mkL []) (l:=[]) hT [0,3,4] [3] [(0,([],[]))] ([2],[]) (fun x s=>B x.1.1 x.2.1 s) (fun x s=>⟨[(0,.pt tFs_ x.1.1),(3,.seg 3 []),(4,.cs I64 s)],[sr 3 (.cd SI x.2.1)]⟩) (fun x=>x.1.2.2.1)
  (fun x s=>by simp only[B,mC,mB,mS,mO,mN];kernel_rfl)
end Zq80
namespace Zq81
def pts:List PT:=[.pt tFs_]
def FS:FS:=mkFS [.sh] pts (fun x=>Zq81 x.1) fun t=>⟨[.cs .bool t],[]⟩
theorem ok:FsOk PR 144 FS:=
 fn_ok tbok hmix Proofs.Tryz.f144 h0 (.R (.R (.L (.R (.one (.fr 0)))))) (G:=G) Gok (L:=mkL [(0,Zq80.fr)]) (l:=[(0,.loop Zq80.c)]) ⟨Lam.cons Zq80.ok,trivial⟩
  (fun x=>by simp only[Zq81,mC,mB,mS,mO,mN];kernel_rfl)
end Zq81
def Zq82 (a:Int) (b:Int):Option Int:=
 cond (decide (a<b)) (some a) (some b)
namespace Zq82
def pts:List PT:=[.cs I64,.cs I64]
def FS:FS:=mkFS [.sh,.sh] pts (fun x=>Zq82 x.1 x.2.1) fun t=>⟨[.cs I64 t],[]⟩
theorem ok:FsOk PR 224 FS:=
 fn_ok tbok hmix Proofs.Tryz.f224 h0 .no (G:=(mkG [])) .nil (L:=mkL []) (l:=[]) hT
  (fun x=>by simp only[Zq82,mC,mB,mS,mO,mN];kernel_rfl)
end Zq82
def Zq83.B (f:Fs_) (i_:Int) (x_:Inode_) (k_:Int) (want_2:List Int):Option ((Int×List Int)⊕(List Int)):=
 cond (decide (k_<(x_.2.2.2.1.length:Int))) (cond (inB k_ x_.2.2.2.1.length) ((Zq82 8 (w64 (x_.2.2.1-(w64 (k_*8))))).bind fun r=>cond (inB (x_.2.2.2.1.getD k_.toNat 0) want_2.length) ((some (want_2.set ((x_.2.2.2.1.getD k_.toNat 0).toNat) r)).bind fun want_3=>some (.inl (w64 (k_+1),want_3))) none) none) (some (.inr want_2))
def Zq83 (f:Fs_) (i_:Int) (x_:Inode_):(Int×List Int)→Option (List Int):=
 loopL fun s=>Zq83.B f i_ x_ s.1 s.2
def Zq84.B (f:Fs_) (i_:Int) (want_:List Int):Option ((Int×List Int)⊕(List Int)):=
 cond (decide (i_<(f.1.length:Int))) (cond (inB i_ f.1.length) ((Zq83 f i_ (f.1.getD i_.toNat zInode_) (0,want_)).bind fun o=>some (.inl (w64 (i_+1),o))) none) (some (.inr want_))
def Zq84 (f:Fs_):(Int×List Int)→Option (List Int):=
 loopL fun s=>Zq84.B f s.1 s.2
def Zq85.B (f:Fs_) (o2:List Int) (i_2:Int):Option (Int⊕((Bool⊕Unit))):=
 cond (decide (i_2<(f.2.1.length:Int))) (cond (inB i_2 f.2.1.length) (cond (inB i_2 o2.length) ((some (((f.2.1.getD i_2.toNat []).length:Int) != (o2.getD i_2.toNat 0))).bind fun v=>cond v (some (.inr (.inl false))) (some (.inl (w64 (i_2+1))))) none) none) (some (.inr (.inr ())))
def Zq85 (f:Fs_) (o2:List Int):Int→Option ((Bool⊕Unit)):=
 loopL fun s=>Zq85.B f o2 s
def Zq86 (f:Fs_):Option Bool:=
 cond (decide ((0:Int)≤(20:Int))&&(decide ((20:Int)≤(20:Int))&&decide ((20:Int)≤2147483648))) ((Zq84 f (0,List.replicate (20:Int).toNat 0)).bind fun o2=>(Zq85 f o2 0).bind fun o3=>sel o3 (fun b=>some b) (fun c=>some true)) none
namespace Zq86
def G:Gam:=mkG [(224,Zq82.FS)]
theorem Gok:GOk PR G:=.cons Zq82.ok .nil
end Zq86
namespace Zq83
def c:=codeAt (bodyOf Proofs.Tryz.f145) [1,1,0,1,0,0,1,0,0,1,1,0,0]
def sp:SP:=⟨[(0,.pt tFs_),(3,.seg 3 []),(4,.cs I64),(5,.pt tInode_),(6,.cs I64)],[(3,.reg,.cd SI)]⟩
def out (f:Fs_) (i_:Int) (x_:Inode_):FOut (List Int):=fun bb0 _ kk0=>kk0 (.ex 2) ⟨[(0,.pt tFs_ f),(3,.seg 3 []),(4,.cs I64 i_)],[sr 3 (.cd SI bb0)]⟩
def fr:=lfrag sp (fun x=>Zq83 x.1.1 x.1.2.2.1 x.1.2.2.2.1 (x.1.2.2.2.2.1,x.2.1)) fun x=>out x.1.1 x.1.2.2.1 x.1.2.2.2.1
theorem ok:CodeOk PR 72 1 (.loop c) fr:=
 lp_ok tbok hmix h0 .no (G:=Zq86.G) Zq86.Gok (L:=mkL []) (l:=[]) hT [0,3,4,5,6] [3] [(2,([0,3,4],[3]))] ([],[]) (fun x s=>B x.1.1 x.1.2.2.1 x.1.2.2.2.1 s.1 s.2) (fun x s=>⟨[(0,.pt tFs_ x.1.1),(3,.seg 3 []),(4,.cs I64 x.1.2.2.1),(5,.pt tInode_ x.1.2.2.2.1),(6,.cs I64 s.1)],[sr 3 (.cd SI s.2)]⟩) (fun x=>(x.1.2.2.2.2.1,x.2.1))
  (fun x s=>by simp only[B,mC,mB,mS,mO,mN];kernel_rfl)
end Zq83
namespace Zq84
def c:=codeAt (bodyOf Proofs.Tryz.f145) [1,1,0,1,0,0]
def sp:SP:=⟨[(0,.pt tFs_),(3,.seg 3 []),(4,.cs I64)],[(3,.reg,.cd SI)]⟩
def out (f:Fs_):FOut (List Int):=fun bb0 _ kk0=>kk0 (.ex 0) ⟨[(0,.pt tFs_ f),(3,.seg 3 [])],[sr 3 (.cd SI bb0)]⟩
def fr:=lfrag sp (fun x=>Zq84 x.1.1 (x.1.2.2.1,x.2.1)) fun x=>out x.1.1
theorem ok:CodeOk PR 72 1 (.loop c) fr:=
 lp_ok tbok hmix h0 (.R (.L (.one (.R (.R (.one (.fr 1))))))) (G:=Zq86.G) Zq86.Gok (L:=mkL [(1,Zq83.fr)]) (l:=[(1,.loop Zq83.c)]) ⟨Lam.cons Zq83.ok,trivial⟩ [0,3,4] [3] [(0,([0,3],[3]))] ([],[]) (fun x s=>B x.1.1 s.1 s.2) (fun x s=>⟨[(0,.pt tFs_ x.1.1),(3,.seg 3 []),(4,.cs I64 s.1)],[sr 3 (.cd SI s.2)]⟩) (fun x=>(x.1.2.2.1,x.2.1))
  (fun x s=>by simp only[B,mC,mB,mS,mO,mN];kernel_rfl)
end Zq84
namespace Zq85
def c:=codeAt (bodyOf Proofs.Tryz.f145) [1,1,1,0,1,0,0]
def sp:SP:=⟨[(0,.pt tFs_),(3,.seg 3 []),(7,.cs I64)],[(3,.reg,.cd SI)]⟩
def out (f:Fs_) (o2:List Int):FOut ((Bool⊕Unit)):=fun oo0 _ kk0=>sel oo0 (fun bb0=>kk0 (.rt) ⟨[(2,.cs .bool bb0)],[]⟩) (fun cc0=>kk0 (.ex 4) ⟨[],[]⟩)
def fr:=lfrag sp (fun x=>Zq85 x.1.1 x.2.1 x.1.2.2.1) fun x=>out x.1.1 x.2.1
theorem ok:CodeOk PR 72 1 (.loop c) fr:=
 lp_ok tbok hmix h0 .no (G:=Zq86.G) Zq86.Gok (L:=mkL []) (l:=[]) hT [0,3,7] [3] [(4,([],[]))] ([2],[]) (fun x s=>B x.1.1 x.2.1 s) (fun x s=>⟨[(0,.pt tFs_ x.1.1),(3,.seg 3 []),(7,.cs I64 s)],[sr 3 (.cd SI x.2.1)]⟩) (fun x=>x.1.2.2.1)
  (fun x s=>by simp only[B,mC,mB,mS,mO,mN];kernel_rfl)
end Zq85
namespace Zq86
def pts:List PT:=[.pt tFs_]
def FS:FS:=mkFS [.sh] pts (fun x=>Zq86 x.1) fun t=>⟨[.cs .bool t],[]⟩
theorem ok:FsOk PR 145 FS:=
 fn_ok tbok hmix Proofs.Tryz.f145 h0 (.R (.R (.two (.R (.one (.fr 0))) (.L (.R (.one (.fr 2))))))) (G:=G) Gok (L:=mkL [(1,Zq83.fr),(0,Zq84.fr),(2,Zq85.fr)]) (l:=[(0,.loop Zq84.c),(2,.loop Zq85.c)]) ⟨Lam.skip rfl (Lam.cons Zq84.ok),Lam.skip rfl (Lam.skip rfl (Lam.cons Zq85.ok)),trivial⟩
  (fun x=>by simp only[Zq86,mC,mB,mS,mO,mN];kernel_rfl)
end Zq86
def Zq87 (f:Fs_):Option Int:=
 (Zq69 f).bind fun r=>cond (r != 0) (some r) ((Zq81 f).bind fun r2=>cond (!r2) (some 1) ((Zq86 f).bind fun r3=>cond (!r3) (some 1) (some 0)))
namespace Zq87
def G:Gam:=mkG [(143,Zq69.FS),(144,Zq81.FS),(145,Zq86.FS)]
def pts:List PT:=[.pt tFs_]
def FS:FS:=mkFS [.sh] pts (fun x=>Zq87 x.1) fun t=>⟨[.cs I64 t],[]⟩
theorem ok:FsOk PR 63 FS:=
 fn_ok tbok hmix Proofs.Tryz.f63 h0 .no (G:=G) (show GOk PR G from .cons Zq69.ok (.cons Zq81.ok (.cons Zq86.ok .nil))) (L:=mkL []) (l:=[]) hT
  (fun x=>by simp only[Zq87,mC,mB,mS,mO,mN];kernel_rfl)
end Zq87
def Zq88 (words:List Int) (at_:Int):Option Int:=
 cond (decide (at_<(words.length:Int))) (cond (inB at_ words.length) (some (words.getD at_.toNat 0)) none) (some 0)
namespace Zq88
def pts:List PT:=[.cs SI,.cs I64]
def FS:FS:=mkFS [.sh,.sh] pts (fun x=>Zq88 x.1 x.2.1) fun t=>⟨[.cs I64 t],[]⟩
theorem ok:FsOk PR 250 FS:=
 fn_ok tbok hmix Proofs.Tryz.f250 h0 .no (G:=(mkG [])) .nil (L:=mkL []) (l:=[]) hT
  (fun x=>by simp only[Zq88,mC,mB,mS,mO,mN];kernel_rfl)
end Zq88
def Zq89 (w:List Int):Option (List Int):=
 cond (decide (([]++w).length≤2147483648)) (some ([]++w)) none
namespace Zq89
def pts:List PT:=[.cs SI]
def FS:FS:=mkFS [.sh] pts (fun x=>Zq89 x.1) fun t=>⟨[.cd SI t],[]⟩
theorem ok:FsOk PR 149 FS:=
 fn_ok tbok hmix Proofs.Tryz.f149 h0 .no (G:=(mkG [])) .nil (L:=mkL []) (l:=[]) hT
  (fun x=>by simp only[Zq89,mC,mB,mS,mO,mN];kernel_rfl)
end Zq89
def Zq90.B (x:Inode_) (i_:Int) (e_:Entry_) (k_:Int) (out_2:List Int):Option ((Int×List Int)⊕(List Int)):=
 cond (decide (k_<(e_.1.length:Int))) (cond (inB k_ e_.1.length) ((some (out_2++([w64 (((e_.1.getD k_.toNat 0).toNat:Int))]))).bind fun v4=>cond (decide (v4.length≤2147483648)) (some (.inl (w64 (k_+1),v4))) none) none) (some (.inr out_2))
def Zq90 (x:Inode_) (i_:Int) (e_:Entry_):(Int×List Int)→Option (List Int):=
 loopL fun s=>Zq90.B x i_ e_ s.1 s.2
def Zq91.B (x:Inode_) (i_:Int) (out_:List Int):Option ((Int×List Int)⊕(List Int)):=
 cond (decide (i_<(x.2.2.2.2.1.length:Int))) (cond (inB i_ x.2.2.2.2.1.length) ((some ((x.2.2.2.2.1.getD i_.toNat zEntry_).1.length:Int)).bind fun v2=>(some (out_++([(x.2.2.2.2.1.getD i_.toNat zEntry_).2.1,v2]))).bind fun v3=>cond (decide (v3.length≤2147483648)) ((Zq90 x i_ (x.2.2.2.2.1.getD i_.toNat zEntry_) (0,v3)).bind fun o=>some (.inl (w64 (i_+1),o))) none) none) (some (.inr out_))
def Zq91 (x:Inode_):(Int×List Int)→Option (List Int):=
 loopL fun s=>Zq91.B x s.1 s.2
def Zq92 (x:Inode_):Option (List Int):=
 cond (decide ((([x.1,x.2.1,x.2.2.1])++x.2.2.2.1).length≤2147483648)) (cond (x.1 != 2) (some (([x.1,x.2.1,x.2.2.1])++x.2.2.2.1)) ((some ((([x.1,x.2.1,x.2.2.1])++x.2.2.2.1)++([(x.2.2.2.2.1.length:Int)]))).bind fun v=>cond (decide (v.length≤2147483648)) ((Zq91 x (0,v)).bind fun o2=>some o2) none)) none
namespace Zq90
def c:=codeAt (bodyOf Proofs.Tryz.f189) [1,1,1,1,0,1,0,0,1,0,0,1,1,1,0,0]
def sp:SP:=⟨[(1,.pt tInode_),(3,.seg 3 []),(4,.cs I64),(5,.loc 5 []),(6,.cs I64)],[(3,.reg,.cd SI),(5,.mem,.cd tEntry_)]⟩
def out (x:Inode_) (i_:Int) (e_:Entry_):FOut (List Int):=fun bb0 _ kk0=>kk0 (.ex 2) ⟨[(1,.pt tInode_ x),(3,.seg 3 []),(4,.cs I64 i_)],[sr 3 (.cd SI bb0)]⟩
def fr:=lfrag sp (fun x=>Zq90 x.1.1 x.1.2.2.1 x.2.2.1 (x.1.2.2.2.2.1,x.2.1)) fun x=>out x.1.1 x.1.2.2.1 x.2.2.1
theorem ok:CodeOk PR 63 1 (.loop c) fr:=
 lp_ok tbok hmix ⟨[1],[],[],0⟩ .no (G:=(mkG [])) .nil (L:=mkL []) (l:=[]) hT [1,3,4,5,6] [3,5] [(2,([1,3,4],[3]))] ([],[]) (fun x s=>B x.1.1 x.1.2.2.1 x.2.2.1 s.1 s.2) (fun x s=>⟨[(1,.pt tInode_ x.1.1),(3,.seg 3 []),(4,.cs I64 x.1.2.2.1),(5,.loc 5 []),(6,.cs I64 s.1)],[sr 3 (.cd SI s.2),(5,some ⟨.mem,.cd tEntry_ x.2.2.1⟩)]⟩) (fun x=>(x.1.2.2.2.2.1,x.2.1))
  (fun x s=>by simp only[B,mC,mB,mS,mO,mN];kernel_rfl)
end Zq90
namespace Zq91
def c:=codeAt (bodyOf Proofs.Tryz.f189) [1,1,1,1,0,1,0,0]
def sp:SP:=⟨[(1,.pt tInode_),(3,.seg 3 []),(4,.cs I64)],[(3,.reg,.cd SI)]⟩
def out (x:Inode_):FOut (List Int):=fun bb0 _ kk0=>kk0 (.ex 0) ⟨[(3,.seg 3 [])],[sr 3 (.cd SI bb0)]⟩
def fr:=lfrag sp (fun x=>Zq91 x.1.1 (x.1.2.2.1,x.2.1)) fun x=>out x.1.1
theorem ok:CodeOk PR 63 1 (.loop c) fr:=
 lp_ok tbok hmix ⟨[1],[],[],0⟩ (.R (.L (.one (.R (.R (.R (.one (.fr 1)))))))) (G:=(mkG [])) .nil (L:=mkL [(1,Zq90.fr)]) (l:=[(1,.loop Zq90.c)]) ⟨Lam.cons Zq90.ok,trivial⟩ [1,3,4] [3] [(0,([3],[3]))] ([],[]) (fun x s=>B x.1.1 s.1 s.2) (fun x s=>⟨[(1,.pt tInode_ x.1.1),(3,.seg 3 []),(4,.cs I64 s.1)],[sr 3 (.cd SI s.2)]⟩) (fun x=>(x.1.2.2.1,x.2.1))
  (fun x s=>by simp only[B,mC,mB,mS,mO,mN];kernel_rfl)
end Zq91
namespace Zq92
def pts:List PT:=[.cs tInode_]
def FS:FS:=mkFS [.sh] pts (fun x=>Zq92 x.1) fun t=>⟨[.cd SI t],[]⟩
theorem ok:FsOk PR 189 FS:=
 fn_ok tbok hmix Proofs.Tryz.f189 ⟨[1],[],[],0⟩ (.R (.R (.R (.R (.L (.R (.one (.fr 0)))))))) (G:=(mkG [])) .nil (L:=mkL [(1,Zq90.fr),(0,Zq91.fr)]) (l:=[(0,.loop Zq91.c)]) ⟨Lam.skip rfl (Lam.cons Zq91.ok),trivial⟩
  (fun x=>by simp only[Zq92,mC,mB,mS,mO,mN];kernel_rfl)
end Zq92
def Zq93.B (a:List Int) (b:List Int) (i_:Int):Option (Int⊕((Bool⊕Unit))):=
 cond (decide (i_<(a.length:Int))) (cond (inB i_ a.length) (cond (inB i_ b.length) (cond ((a.getD i_.toNat 0) != (b.getD i_.toNat 0)) (some (.inr (.inl false))) (some (.inl (w64 (i_+1))))) none) none) (some (.inr (.inr ())))
def Zq93 (a:List Int) (b:List Int):Int→Option ((Bool⊕Unit)):=
 loopL fun s=>Zq93.B a b s
def Zq94 (a:List Int) (b:List Int):Option Bool:=
 cond ((a.length:Int) != (b.length:Int)) (some false) ((Zq93 a b 0).bind fun o=>sel o (fun b2=>some b2) (fun c=>some true))
namespace Zq93
def c:=codeAt (bodyOf Proofs.Tryz.f225) [1,1,0,1,0,0]
def sp:SP:=⟨[(0,.cs SI),(1,.cs SI),(5,.cs I64)],[]⟩
def out (a:List Int) (b:List Int):FOut ((Bool⊕Unit)):=fun oo0 _ kk0=>sel oo0 (fun bb0=>kk0 (.rt) ⟨[(4,.cs .bool bb0)],[]⟩) (fun cc0=>kk0 (.ex 0) ⟨[],[]⟩)
def fr:=lfrag sp (fun x=>Zq93 x.1.1 x.1.2.1 x.1.2.2.1) fun x=>out x.1.1 x.1.2.1
theorem ok:CodeOk PR 26 2 (.loop c) fr:=
 lp_ok tbok hmix h0 .no (G:=(mkG [])) .nil (L:=mkL []) (l:=[]) hT [0,1,5] [] [(0,([],[]))] ([4],[]) (fun x s=>B x.1.1 x.1.2.1 s) (fun x s=>⟨[(0,.cs SI x.1.1),(1,.cs SI x.1.2.1),(5,.cs I64 s)],[]⟩) (fun x=>x.1.2.2.1)
  (fun x s=>by simp only[B,mC,mB,mS,mO,mN];kernel_rfl)
end Zq93
namespace Zq94
def pts:List PT:=[.cs SI,.cs SI]
def FS:FS:=mkFS [.sh,.sh] pts (fun x=>Zq94 x.1 x.2.1) fun t=>⟨[.cs .bool t],[]⟩
theorem ok:FsOk PR 225 FS:=
 fn_ok tbok hmix Proofs.Tryz.f225 h0 (.R (.R (.L (.R (.one (.fr 0)))))) (G:=(mkG [])) .nil (L:=mkL [(0,Zq93.fr)]) (l:=[(0,.loop Zq93.c)]) ⟨Lam.cons Zq93.ok,trivial⟩
  (fun x=>by simp only[Zq94,mC,mB,mS,mO,mN];kernel_rfl)
end Zq94
def Zq95.B (words:List Int) (k_:Int) (r6:Int) (v4:Int) (v5:List Int) (r4:Int) (v6:Bool) (v2:Inode_) (x_:Inode_) (at_2:Int) (i_:Int) (e_:Entry_):Option ((Int×Int×Entry_)⊕(Int×Entry_)):=
 cond (cond (decide (i_<r6)) (decide (i_<8)) false) ((Zq88 words at_2).bind fun r7=>cond (!((256:Int) == 0)) ((some (([IntKind.u8.wrap (r7.tmod 256)]).map fun n=>UInt8.ofNat n.toNat)).bind fun v7=>cond (decide (e_.1.length+v7.length≤2147483648)) (some (.inl (w64 (at_2+1),w64 (i_+1),(e_.1++v7,e_.2)))) none) none) (some (.inr (at_2,e_)))
def Zq95 (words:List Int) (k_:Int) (r6:Int) (v4:Int) (v5:List Int) (r4:Int) (v6:Bool) (v2:Inode_) (x_:Inode_):(Int×Int×Entry_)→Option (Int×Entry_):=
 loopL fun s=>Zq95.B words k_ r6 v4 v5 r4 v6 v2 x_ s.1 s.2.1 s.2.2
def Zq96.B (words:List Int) (v2:Inode_) (at_:Int) (k_:Int) (x_:Inode_):Option ((Int×Int×Inode_)⊕Inode_):=
 cond (x_.1 == 2) ((Zq88 words 3).bind fun r4=>(some (cond (decide (k_<r4)) (decide (at_<(words.length:Int))) false)).bind fun v3=>cond v3 ((Zq88 words at_).bind fun r5=>(Zq88 words (w64 (at_+1))).bind fun r6=>(Zq95 words k_ r6 k_ words r4 (decide (k_<r4)) v2 x_ (w64 (at_+2),0,([],r5,()))).bind fun o=>cond (decide ((x_.2.2.2.2.1++([o.2])).length≤2147483648)) (some (.inl (o.1,w64 (k_+1),(x_.1,x_.2.1,x_.2.2.1,x_.2.2.2.1,x_.2.2.2.2.1++([o.2]),x_.2.2.2.2.2)))) none) (some (.inr x_))) (some (.inr x_))
def Zq96 (words:List Int) (v2:Inode_):(Int×Int×Inode_)→Option Inode_:=
 loopL fun s=>Zq96.B words v2 s.1 s.2.1 s.2.2
def Zq97 (words:List Int):Option (Inode_×Bool):=
 cond ((words.length:Int) == 0) (some ((0,0,0,[],[],()),true)) (cond (inB 0 words.length) ((Zq88 words 1).bind fun r=>(Zq88 words 2).bind fun r2=>(some (cond ((words.getD (0:Int).toNat 0) == 1) (decide ((words.length:Int)>3)) false)).bind fun v=>cond v (cond (decide ((0:Int)≤(3:Int))&&decide ((3:Int)≤(words.length:Int))) ((Zq89 ((words.take words.length).drop ((3:Int).toNat))).bind fun r3=>(Zq96 words (0,0,0,[],[],()) (4,0,(words.getD (0:Int).toNat 0,r,r2,r3,[],()))).bind fun o2=>(Zq58 o2).bind fun r8=>cond (r8 == 0) ((Zq92 (o2.1,o2.2.1,o2.2.2.1,o2.2.2.2.1,o2.2.2.2.2.1,o2.2.2.2.2.2)).bind fun r9=>(Zq94 r9 words).bind fun r10=>some ((o2.1,o2.2.1,o2.2.2.1,o2.2.2.2.1,o2.2.2.2.2.1,o2.2.2.2.2.2),r10)) (some ((o2.1,o2.2.1,o2.2.2.1,o2.2.2.2.1,o2.2.2.2.2.1,o2.2.2.2.2.2),false))) none) ((Zq96 words (0,0,0,[],[],()) (4,0,(words.getD (0:Int).toNat 0,r,r2,[],[],()))).bind fun o3=>(Zq58 o3).bind fun r11=>cond (r11 == 0) ((Zq92 (o3.1,o3.2.1,o3.2.2.1,o3.2.2.2.1,o3.2.2.2.2.1,o3.2.2.2.2.2)).bind fun r12=>(Zq94 r12 words).bind fun r13=>some ((o3.1,o3.2.1,o3.2.2.1,o3.2.2.2.1,o3.2.2.2.2.1,o3.2.2.2.2.2),r13)) (some ((o3.1,o3.2.1,o3.2.2.1,o3.2.2.2.1,o3.2.2.2.2.1,o3.2.2.2.2.2),false)))) none)
namespace Zq97
def G:Gam:=mkG [(250,Zq88.FS),(149,Zq89.FS),(241,Zq58.FS),(189,Zq92.FS),(225,Zq94.FS)]
theorem Gok:GOk PR G:=.cons Zq88.ok (.cons Zq89.ok (.cons Zq58.ok (.cons Zq92.ok (.cons Zq94.ok .nil))))
end Zq97
namespace Zq95
def c:=codeAt (bodyOf Proofs.Tryz.f203) [1,1,1,1,1,0,1,0,0,1,0,0,1,1,1,0,1,0,0]
def sp:SP:=⟨[(0,.cs SI),(2,.loc 2 []),(4,.loc 4 []),(5,.cs I64),(6,.cs I64),(7,.loc 7 []),(8,.cs I64),(9,.cs I64),(38,.cs I64),(39,.cs SI),(40,.cs I64),(41,.cs .bool)],[(2,.mem,.cd tInode_),(4,.mem,.cd tInode_),(7,.mem,.cd tEntry_)]⟩
def out (words:List Int) (k_:Int) (r6:Int) (v4:Int) (v5:List Int) (r4:Int) (v6:Bool) (v2:Inode_) (x_:Inode_):FOut (Int×Entry_):=fun bb0 _ kk0=>kk0 (.ex 2) ⟨[(0,.cs SI words),(2,.loc 2 []),(4,.loc 4 []),(5,.cs I64 bb0.1),(6,.cs I64 k_),(7,.loc 7 []),(38,.cs I64 v4),(39,.cs SI v5),(40,.cs I64 r4),(41,.cs .bool v6)],[(2,some ⟨.mem,.cd tInode_ v2⟩),(4,some ⟨.mem,.cd tInode_ x_⟩),(7,some ⟨.mem,.cd tEntry_ bb0.2⟩)]⟩
def fr:=lfrag sp (fun x=>Zq95 x.1.1 x.1.2.2.2.2.1 x.1.2.2.2.2.2.2.1 x.1.2.2.2.2.2.2.2.2.1 x.1.2.2.2.2.2.2.2.2.2.1 x.1.2.2.2.2.2.2.2.2.2.2.1 x.1.2.2.2.2.2.2.2.2.2.2.2.1 x.2.1 x.2.2.1 (x.1.2.2.2.1,x.1.2.2.2.2.2.2.2.1,x.2.2.2.1)) fun x=>out x.1.1 x.1.2.2.2.2.1 x.1.2.2.2.2.2.2.1 x.1.2.2.2.2.2.2.2.2.1 x.1.2.2.2.2.2.2.2.2.2.1 x.1.2.2.2.2.2.2.2.2.2.2.1 x.1.2.2.2.2.2.2.2.2.2.2.2.1 x.2.1 x.2.2.1
theorem ok:CodeOk PR 98 1 (.loop c) fr:=
 lp_ok tbok hmix h0 .no (G:=Zq97.G) Zq97.Gok (L:=mkL []) (l:=[]) hT [0,2,4,5,6,7,8,9,38,39,40,41] [2,4,7] [(2,([0,2,4,5,6,7,38,39,40,41],[2,4,7]))] ([],[]) (fun x s=>B x.1.1 x.1.2.2.2.2.1 x.1.2.2.2.2.2.2.1 x.1.2.2.2.2.2.2.2.2.1 x.1.2.2.2.2.2.2.2.2.2.1 x.1.2.2.2.2.2.2.2.2.2.2.1 x.1.2.2.2.2.2.2.2.2.2.2.2.1 x.2.1 x.2.2.1 s.1 s.2.1 s.2.2) (fun x s=>⟨[(0,.cs SI x.1.1),(2,.loc 2 []),(4,.loc 4 []),(5,.cs I64 s.1),(6,.cs I64 x.1.2.2.2.2.1),(7,.loc 7 []),(8,.cs I64 x.1.2.2.2.2.2.2.1),(9,.cs I64 s.2.1),(38,.cs I64 x.1.2.2.2.2.2.2.2.2.1),(39,.cs SI x.1.2.2.2.2.2.2.2.2.2.1),(40,.cs I64 x.1.2.2.2.2.2.2.2.2.2.2.1),(41,.cs .bool x.1.2.2.2.2.2.2.2.2.2.2.2.1)],[(2,some ⟨.mem,.cd tInode_ x.2.1⟩),(4,some ⟨.mem,.cd tInode_ x.2.2.1⟩),(7,some ⟨.mem,.cd tEntry_ s.2.2⟩)]⟩) (fun x=>(x.1.2.2.2.1,x.1.2.2.2.2.2.2.2.1,x.2.2.2.1))
  (fun x s=>by simp only[B,mC,mB,mS,mO,mN];kernel_rfl)
end Zq95
namespace Zq96
def c:=codeAt (bodyOf Proofs.Tryz.f203) [1,1,1,1,1,0,1,0,0]
def sp:SP:=⟨[(0,.cs SI),(2,.loc 2 []),(4,.loc 4 []),(5,.cs I64),(6,.cs I64)],[(2,.mem,.cd tInode_),(4,.mem,.cd tInode_)]⟩
def out (words:List Int) (v2:Inode_):FOut Inode_:=fun bb0 _ kk0=>kk0 (.ex 0) ⟨[(0,.cs SI words),(2,.loc 2 []),(4,.loc 4 [])],[(2,some ⟨.mem,.cd tInode_ v2⟩),(4,some ⟨.mem,.cd tInode_ bb0⟩)]⟩
def fr:=lfrag sp (fun x=>Zq96 x.1.1 x.2.1 (x.1.2.2.2.1,x.1.2.2.2.2.1,x.2.2.1)) fun x=>out x.1.1 x.2.1
theorem ok:CodeOk PR 98 1 (.loop c) fr:=
 lp_ok tbok hmix h0 (.R (.L (.one (.R (.R (.R (.L (.R (.one (.fr 1)))))))))) (G:=Zq97.G) Zq97.Gok (L:=mkL [(1,Zq95.fr)]) (l:=[(1,.loop Zq95.c)]) ⟨Lam.cons Zq95.ok,trivial⟩ [0,2,4,5,6] [2,4] [(0,([0,2,4],[2,4]))] ([],[]) (fun x s=>B x.1.1 x.2.1 s.1 s.2.1 s.2.2) (fun x s=>⟨[(0,.cs SI x.1.1),(2,.loc 2 []),(4,.loc 4 []),(5,.cs I64 s.1),(6,.cs I64 s.2.1)],[(2,some ⟨.mem,.cd tInode_ x.2.1⟩),(4,some ⟨.mem,.cd tInode_ s.2.2⟩)]⟩) (fun x=>(x.1.2.2.2.1,x.1.2.2.2.2.1,x.2.2.1))
  (fun x s=>by simp only[B,mC,mB,mS,mO,mN];kernel_rfl)
end Zq96
namespace Zq97
def pts:List PT:=[.cs SI]
def FS:FS:=mkFS [.sh] pts (fun x=>Zq97 x.1) fun t=>⟨[.cd tInode_ t.1,.cs .bool t.2],[]⟩
theorem ok:FsOk PR 203 FS:=
 fn_ok tbok hmix Proofs.Tryz.f203 h0 (.R (.R (.R (.R (.R (.L (.R (.one (.fr 0))))))))) (G:=G) Gok (L:=mkL [(1,Zq95.fr),(0,Zq96.fr)]) (l:=[(0,.loop Zq96.c)]) ⟨Lam.skip rfl (Lam.cons Zq96.ok),trivial⟩
  (fun x=>by simp only[Zq97,mC,mB,mS,mO,mN];kernel_rfl)
end Zq97
def Zq98.B (d:Disk_) (i_:Int) (x_:Nat) (k_:Int) (r:Int) (r2:List Int) (f_2:Fs_) (j_:Int) (bytes_:List Int):Option ((Int×List Int)⊕((Bool⊕(List Int)))):=
 cond (decide (j_<r)) (cond (inB j_ r2.length) (cond (decide ((r2.getD j_.toNat 0)>255)) (some (.inr (.inl false))) (cond (inB j_ r2.length) ((some (bytes_++([IntKind.u8.wrap (r2.getD j_.toNat 0)]))).bind fun v4=>cond (decide (v4.length≤2147483648)) (some (.inl (w64 (j_+1),v4))) none) none)) none) (some (.inr (.inr bytes_)))
def Zq98 (d:Disk_) (i_:Int) (x_:Nat) (k_:Int) (r:Int) (r2:List Int) (f_2:Fs_):(Int×List Int)→Option ((Bool⊕(List Int))):=
 loopL fun s=>Zq98.B d i_ x_ k_ r r2 f_2 s.1 s.2
def Zq99.B (d:Disk_) (i_:Int) (x_:Nat) (k_:Int) (f_2:Fs_):Option ((Int×Fs_)⊕(((Bool×Fs_)⊕Fs_))):=
 (some ((f_2.1.getD x_ zInode_).2.2.2.1.length:Int)).bind fun v=>cond (decide (k_<v)) ((some (w64 ((f_2.1.getD x_ zInode_).2.2.1-(w64 (k_*8))))).bind fun v2=>(Zq82 8 v2).bind fun r=>cond (inB k_ ((f_2.1.getD x_ zInode_).2.2.2.1.length)) ((some ((f_2.1.getD x_ zInode_).2.2.2.1.getD k_.toNat 0)).bind fun v3=>(Zq45 d (w64 ((27:Int)+v3))).bind fun r2=>cond (decide ((r2.length:Int)<r)) (some (.inr (.inl (false,f_2)))) ((Zq98 d i_ x_ k_ r r2 f_2 (0,[])).bind fun o=>sel o (fun b=>some (.inr (.inl (b,f_2)))) (fun c=>cond (inB k_ ((f_2.1.getD x_ zInode_).2.2.2.1.length)) ((some ((f_2.1.getD x_ zInode_).2.2.2.1.getD k_.toNat 0)).bind fun v5=>cond (inB v5 f_2.2.1.length) (some (.inl (w64 (k_+1),(f_2.1,f_2.2.1.set v5.toNat c,f_2.2.2)))) none) none))) none) (some (.inr (.inr f_2)))
def Zq99 (d:Disk_) (i_:Int) (x_:Nat):(Int×Fs_)→Option (((Bool×Fs_)⊕Fs_)):=
 loopL fun s=>Zq99.B d i_ x_ s.1 s.2
def Zq100.B (d:Disk_) (i_:Int) (f_:Fs_):Option ((Int×Fs_)⊕(((Bool×Fs_)⊕Fs_))):=
 cond (decide (i_<(f_.1.length:Int))) (cond (inB i_ f_.1.length) ((Zq99 d i_ i_.toNat (0,f_)).bind fun o2=>sel o2 (fun b2=>some (.inr (.inl (b2.1,b2.2)))) (fun c2=>some (.inl (w64 (i_+1),c2)))) none) (some (.inr (.inr f_)))
def Zq100 (d:Disk_):(Int×Fs_)→Option (((Bool×Fs_)⊕Fs_)):=
 loopL fun s=>Zq100.B d s.1 s.2
def Zq101 (d:Disk_) (f:Fs_):Option (Bool×Fs_):=
 (Zq100 d (0,f)).bind fun o3=>sel o3 (fun b3=>some (b3.1,b3.2)) (fun c3=>some (true,c3))
namespace Zq101
def G:Gam:=mkG [(224,Zq82.FS),(141,Zq45.FS)]
theorem Gok:GOk PR G:=.cons Zq82.ok (.cons Zq45.ok .nil)
end Zq101
namespace Zq98
def c:=codeAt (bodyOf Proofs.Tryz.f204) [1,0,1,0,0,1,0,0,1,1,0,0,1,0,0,1,1,1,1,0,1,0,0]
def sp:SP:=⟨[(0,.pt tDisk_),(1,.loc 1 []),(5,.cs I64),(6,.loc 1 [.f1,.el]),(7,.cs I64),(8,.cs I64),(9,.cs SI),(10,.seg 10 []),(11,.cs I64)],[(1,.mem,.cd tFs_),(10,.reg,.cd SB)]⟩
def out (d:Disk_) (i_:Int) (x_:Nat) (k_:Int) (r:Int) (r2:List Int) (f_2:Fs_):FOut ((Bool⊕(List Int))):=fun oo0 _ kk0=>sel oo0 (fun bb0=>kk0 (.rt) ⟨[(4,.cs .bool bb0)],[(1,some ⟨.mem,.cd tFs_ f_2⟩)]⟩) (fun cc0=>kk0 (.ex 4) ⟨[(0,.pt tDisk_ d),(1,.loc 1 []),(5,.cs I64 i_),(6,.loc 1 [.f1,.el x_]),(7,.cs I64 k_),(10,.seg 10 [])],[(1,some ⟨.mem,.cd tFs_ f_2⟩),sr 10 (.cd SB cc0)]⟩)
def fr:=lfrag sp (fun x=>Zq98 x.1.1 x.1.2.2.1 x.1.2.2.2.1.1 x.1.2.2.2.2.1 x.1.2.2.2.2.2.1 x.1.2.2.2.2.2.2.1 x.2.1 (x.1.2.2.2.2.2.2.2.2.1,x.2.2.1)) fun x=>out x.1.1 x.1.2.2.1 x.1.2.2.2.1.1 x.1.2.2.2.2.1 x.1.2.2.2.2.2.1 x.1.2.2.2.2.2.2.1 x.2.1
theorem ok:CodeOk PR 90 2 (.loop c) fr:=
 lp_ok tbok hmix h0 .no (G:=Zq101.G) Zq101.Gok (L:=mkL []) (l:=[]) hT [0,1,5,6,7,8,9,10,11] [1,10] [(4,([0,1,5,6,7,10],[1,10]))] ([4],[1]) (fun x s=>B x.1.1 x.1.2.2.1 x.1.2.2.2.1.1 x.1.2.2.2.2.1 x.1.2.2.2.2.2.1 x.1.2.2.2.2.2.2.1 x.2.1 s.1 s.2) (fun x s=>⟨[(0,.pt tDisk_ x.1.1),(1,.loc 1 []),(5,.cs I64 x.1.2.2.1),(6,.loc 1 [.f1,.el x.1.2.2.2.1.1]),(7,.cs I64 x.1.2.2.2.2.1),(8,.cs I64 x.1.2.2.2.2.2.1),(9,.cs SI x.1.2.2.2.2.2.2.1),(10,.seg 10 []),(11,.cs I64 s.1)],[(1,some ⟨.mem,.cd tFs_ x.2.1⟩),sr 10 (.cd SB s.2)]⟩) (fun x=>(x.1.2.2.2.2.2.2.2.2.1,x.2.2.1))
  (fun x s=>by simp only[B,mC,mB,mS,mO,mN];kernel_rfl)
end Zq98
namespace Zq99
def c:=codeAt (bodyOf Proofs.Tryz.f204) [1,0,1,0,0,1,0,0,1,1,0,0]
def sp:SP:=⟨[(0,.pt tDisk_),(1,.loc 1 []),(5,.cs I64),(6,.loc 1 [.f1,.el]),(7,.cs I64)],[(1,.mem,.cd tFs_)]⟩
def out (d:Disk_) (i_:Int) (x_:Nat):FOut (((Bool×Fs_)⊕Fs_)):=fun oo0 _ kk0=>sel oo0 (fun bb0=>kk0 (.rt) ⟨[(4,.cs .bool bb0.1)],[(1,some ⟨.mem,.cd tFs_ bb0.2⟩)]⟩) (fun cc0=>kk0 (.ex 2) ⟨[(0,.pt tDisk_ d),(1,.loc 1 []),(5,.cs I64 i_)],[(1,some ⟨.mem,.cd tFs_ cc0⟩)]⟩)
def fr:=lfrag sp (fun x=>Zq99 x.1.1 x.1.2.2.1 x.1.2.2.2.1.1 (x.1.2.2.2.2.1,x.2.1)) fun x=>out x.1.1 x.1.2.2.1 x.1.2.2.2.1.1
theorem ok:CodeOk PR 90 2 (.loop c) fr:=
 lp_ok tbok hmix h0 (.R (.L (.one (.R (.R (.R (.R (.L (.R (.one (.fr 2))))))))))) (G:=Zq101.G) Zq101.Gok (L:=mkL [(2,Zq98.fr)]) (l:=[(2,.loop Zq98.c)]) ⟨Lam.cons Zq98.ok,trivial⟩ [0,1,5,6,7] [1] [(2,([0,1,5],[1]))] ([4],[1]) (fun x s=>B x.1.1 x.1.2.2.1 x.1.2.2.2.1.1 s.1 s.2) (fun x s=>⟨[(0,.pt tDisk_ x.1.1),(1,.loc 1 []),(5,.cs I64 x.1.2.2.1),(6,.loc 1 [.f1,.el x.1.2.2.2.1.1]),(7,.cs I64 s.1)],[(1,some ⟨.mem,.cd tFs_ s.2⟩)]⟩) (fun x=>(x.1.2.2.2.2.1,x.2.1))
  (fun x s=>by simp only[B,mC,mB,mS,mO,mN];kernel_rfl)
end Zq99
namespace Zq100
def c:=codeAt (bodyOf Proofs.Tryz.f204) [1,0,1,0,0]
def sp:SP:=⟨[(0,.pt tDisk_),(1,.loc 1 []),(5,.cs I64)],[(1,.mem,.cd tFs_)]⟩
def out (d:Disk_):FOut (((Bool×Fs_)⊕Fs_)):=fun oo0 _ kk0=>sel oo0 (fun bb0=>kk0 (.rt) ⟨[(4,.cs .bool bb0.1)],[(1,some ⟨.mem,.cd tFs_ bb0.2⟩)]⟩) (fun cc0=>kk0 (.ex 0) ⟨[],[(1,some ⟨.mem,.cd tFs_ cc0⟩)]⟩)
def fr:=lfrag sp (fun x=>Zq100 x.1.1 (x.1.2.2.1,x.2.1)) fun x=>out x.1.1
theorem ok:CodeOk PR 90 2 (.loop c) fr:=
 lp_ok tbok hmix h0 (.R (.L (.one (.R (.R (.one (.fr 1))))))) (G:=Zq101.G) Zq101.Gok (L:=mkL [(2,Zq98.fr),(1,Zq99.fr)]) (l:=[(1,.loop Zq99.c)]) ⟨Lam.skip rfl (Lam.cons Zq99.ok),trivial⟩ [0,1,5] [1] [(0,([],[1]))] ([4],[1]) (fun x s=>B x.1.1 s.1 s.2) (fun x s=>⟨[(0,.pt tDisk_ x.1.1),(1,.loc 1 []),(5,.cs I64 s.1)],[(1,some ⟨.mem,.cd tFs_ s.2⟩)]⟩) (fun x=>(x.1.2.2.1,x.2.1))
  (fun x s=>by simp only[B,mC,mB,mS,mO,mN];kernel_rfl)
end Zq100
namespace Zq101
def pts:List PT:=[.pt tDisk_,.op (.cd tFs_)]
def FS:FS:=mkFS [.sh,.mu] pts (fun x=>Zq101 x.1 x.2.1) fun t=>⟨[.cs .bool t.1],[.op (.cd tFs_ t.2)]⟩
theorem ok:FsOk PR 204 FS:=
 fn_ok tbok hmix Proofs.Tryz.f204 h0 (.R (.L (.R (.one (.fr 0))))) (G:=G) Gok (L:=mkL [(2,Zq98.fr),(1,Zq99.fr),(0,Zq100.fr)]) (l:=[(0,.loop Zq100.c)]) ⟨Lam.skip rfl (Lam.skip rfl (Lam.cons Zq100.ok)),trivial⟩
  (fun x=>by simp only[Zq101,mC,mB,mS,mO,mN];kernel_rfl)
end Zq101
def Zq102.B (d:Disk_) (v:FsResult_) (size_:Int) (i_:Int) (f_:Fs_):Option ((Int×Int×Fs_)⊕((FsResult_⊕(Int×Fs_)))):=
 cond (decide (i_<10)) ((Zq45 d (w64 ((17:Int)+i_))).bind fun r2=>(Zq97 r2).bind fun r3=>cond (!r3.2) (some (.inr (.inl (5,([],[],()),())))) ((some (f_.1++([(r3.1.1,r3.1.2.1,r3.1.2.2.1,r3.1.2.2.2.1,r3.1.2.2.2.2.1,r3.1.2.2.2.2.2)]))).bind fun v2=>cond (decide (v2.length≤2147483648)) (cond (decide ((r2.length:Int)>0)) (some (.inl (w64 (i_+1),w64 (i_+1),(v2,f_.2)))) (some (.inl (size_,w64 (i_+1),(v2,f_.2))))) none)) (some (.inr (.inr (size_,f_))))
def Zq102 (d:Disk_) (v:FsResult_):(Int×Int×Fs_)→Option ((FsResult_⊕(Int×Fs_))):=
 loopL fun s=>Zq102.B d v s.1 s.2.1 s.2.2
def Zq103 (d:Disk_):Option FsResult_:=
 (Zq47 d).bind fun r=>cond (r.1 != 0) (some (r.1,([],[],()),())) (cond (decide ((0:Int)≤(20:Int))&&(decide ((20:Int)≤(20:Int))&&decide ((20:Int)≤2147483648))) ((Zq102 d (0,([],[],()),()) (0,0,([],List.replicate (20:Int).toNat ([]:List Int),()))).bind fun o=>sel o (fun b=>some (b.1,(b.2.1.1,b.2.1.2.1,b.2.1.2.2),b.2.2)) (fun c=>cond (decide ((0:Int)≤c.1)&&decide (c.1≤(c.2.1.length:Int))) ((Zq69 ((c.2.1.drop 0).take (c.1.toNat-0),c.2.2)).bind fun r4=>cond (r4 != 0) (some (r4,([],[],()),())) ((Zq101 d ((c.2.1.drop 0).take (c.1.toNat-0),c.2.2)).bind fun r5=>cond (!r5.1) (some (5,([],[],()),())) ((Zq87 r5.2).bind fun r6=>cond (r6 != 0) (some (r6,([],[],()),())) (some (0,(r5.2.1,r5.2.2.1,r5.2.2.2),()))))) none)) none)
namespace Zq103
def G:Gam:=mkG [(62,Zq47.FS),(141,Zq45.FS),(203,Zq97.FS),(143,Zq69.FS),(204,Zq101.FS),(63,Zq87.FS)]
theorem Gok:GOk PR G:=.cons Zq47.ok (.cons Zq45.ok (.cons Zq97.ok (.cons Zq69.ok (.cons Zq101.ok (.cons Zq87.ok .nil)))))
end Zq103
namespace Zq102
def c:=codeAt (bodyOf Proofs.Tryz.f122) [1,1,1,1,0,1,0,0]
def sp:SP:=⟨[(1,.pt tDisk_),(2,.loc 2 []),(4,.loc 4 []),(5,.cs I64),(6,.cs I64)],[(2,.mem,.cd tFsResult_),(4,.mem,.cd tFs_)]⟩
def out (d:Disk_) (v:FsResult_):FOut ((FsResult_⊕(Int×Fs_))):=fun oo0 _ kk0=>sel oo0 (fun bb0=>kk0 (.rt) ⟨[(2,.loc 2 [])],[(2,some ⟨.mem,.cd tFsResult_ bb0⟩)]⟩) (fun cc0=>kk0 (.ex 0) ⟨[(1,.pt tDisk_ d),(2,.loc 2 []),(4,.loc 4 []),(5,.cs I64 cc0.1)],[(2,some ⟨.mem,.cd tFsResult_ v⟩),(4,some ⟨.mem,.cd tFs_ cc0.2⟩)]⟩)
def fr:=lfrag sp (fun x=>Zq102 x.1.1 x.2.1 (x.1.2.2.2.1,x.1.2.2.2.2.1,x.2.2.1)) fun x=>out x.1.1 x.2.1
theorem ok:CodeOk PR 68 1 (.loop c) fr:=
 lp_ok tbok hmix ⟨[1],[],[],0⟩ .no (G:=Zq103.G) Zq103.Gok (L:=mkL []) (l:=[]) hT [1,2,4,5,6] [2,4] [(0,([1,2,4,5],[2,4]))] ([2],[2]) (fun x s=>B x.1.1 x.2.1 s.1 s.2.1 s.2.2) (fun x s=>⟨[(1,.pt tDisk_ x.1.1),(2,.loc 2 []),(4,.loc 4 []),(5,.cs I64 s.1),(6,.cs I64 s.2.1)],[(2,some ⟨.mem,.cd tFsResult_ x.2.1⟩),(4,some ⟨.mem,.cd tFs_ s.2.2⟩)]⟩) (fun x=>(x.1.2.2.2.1,x.1.2.2.2.2.1,x.2.2.1))
  (fun x s=>by simp only[B,mC,mB,mS,mO,mN];kernel_rfl)
end Zq102
namespace Zq103
def pts:List PT:=[.cs tDisk_]
def FS:FS:=mkFS [.sh] pts (fun x=>Zq103 x.1) fun t=>⟨[.cd tFsResult_ t],[]⟩
theorem ok:FsOk PR 122 FS:=
 fn_ok tbok hmix Proofs.Tryz.f122 ⟨[1],[],[],0⟩ (.R (.R (.R (.R (.L (.R (.one (.fr 0)))))))) (G:=G) Gok (L:=mkL [(0,Zq102.fr)]) (l:=[(0,.loop Zq102.c)]) ⟨Lam.cons Zq102.ok,trivial⟩
  (fun x=>by simp only[Zq103,mC,mB,mS,mO,mN];kernel_rfl)
end Zq103
def Zq104.B (a:Inode_) (b:Inode_) (i_:Int):Option (Int⊕((Bool⊕Unit))):=
 cond (decide (i_<(a.2.2.2.2.1.length:Int))) (cond (inB i_ a.2.2.2.2.1.length) (cond (inB i_ b.2.2.2.2.1.length) ((some (!(((a.2.2.2.2.1.getD i_.toNat zEntry_).1 == (b.2.2.2.2.1.getD i_.toNat zEntry_).1)&&(((a.2.2.2.2.1.getD i_.toNat zEntry_).2.1 == (b.2.2.2.2.1.getD i_.toNat zEntry_).2.1)&&true)))).bind fun v3=>cond v3 (some (.inr (.inl false))) (some (.inl (w64 (i_+1))))) none) none) (some (.inr (.inr ())))
def Zq104 (a:Inode_) (b:Inode_):Int→Option ((Bool⊕Unit)):=
 loopL fun s=>Zq104.B a b s
def Zq105 (a:Inode_) (b:Inode_):Option Bool:=
 (some (cond (cond (a.1 != b.1) true (a.2.1 != b.2.1)) true (a.2.2.1 != b.2.2.1))).bind fun v=>cond v (some false) ((Zq94 a.2.2.2.1 b.2.2.2.1).bind fun r=>(some (cond (!r) true ((a.2.2.2.2.1.length:Int) != (b.2.2.2.2.1.length:Int)))).bind fun v2=>cond v2 (some false) ((Zq104 a b 0).bind fun o=>sel o (fun b2=>some b2) (fun c=>some true)))
namespace Zq105
def G:Gam:=mkG [(225,Zq94.FS)]
theorem Gok:GOk PR G:=.cons Zq94.ok .nil
end Zq105
namespace Zq104
def c:=codeAt (bodyOf Proofs.Tryz.f214) [1,1,0,1,0,0]
def sp:SP:=⟨[(0,.pt tInode_),(1,.pt tInode_),(5,.cs I64)],[]⟩
def out (a:Inode_) (b:Inode_):FOut ((Bool⊕Unit)):=fun oo0 _ kk0=>sel oo0 (fun bb0=>kk0 (.rt) ⟨[(4,.cs .bool bb0)],[]⟩) (fun cc0=>kk0 (.ex 0) ⟨[],[]⟩)
def fr:=lfrag sp (fun x=>Zq104 x.1.1 x.1.2.1 x.1.2.2.1) fun x=>out x.1.1 x.1.2.1
theorem ok:CodeOk PR 86 2 (.loop c) fr:=
 lp_ok tbok hmix h0 .no (G:=Zq105.G) Zq105.Gok (L:=mkL []) (l:=[]) hT [0,1,5] [] [(0,([],[]))] ([4],[]) (fun x s=>B x.1.1 x.1.2.1 s) (fun x s=>⟨[(0,.pt tInode_ x.1.1),(1,.pt tInode_ x.1.2.1),(5,.cs I64 s)],[]⟩) (fun x=>x.1.2.2.1)
  (fun x s=>by simp only[B,mC,mB,mS,mO,mN];kernel_rfl)
end Zq104
namespace Zq105
def pts:List PT:=[.pt tInode_,.pt tInode_]
def FS:FS:=mkFS [.sh,.sh] pts (fun x=>Zq105 x.1 x.2.1) fun t=>⟨[.cs .bool t],[]⟩
theorem ok:FsOk PR 214 FS:=
 fn_ok tbok hmix Proofs.Tryz.f214 h0 (.R (.R (.L (.R (.one (.fr 0)))))) (G:=G) Gok (L:=mkL [(0,Zq104.fr)]) (l:=[(0,.loop Zq104.c)]) ⟨Lam.cons Zq104.ok,trivial⟩
  (fun x=>by simp only[Zq105,mC,mB,mS,mO,mN];kernel_rfl)
end Zq105
def Zq106.B (a:Fs_) (b:Fs_) (i_:Int):Option (Int⊕((Bool⊕Unit))):=
 cond (decide (i_<(a.1.length:Int))) (cond (inB i_ a.1.length) (cond (inB i_ b.1.length) ((Zq105 (a.1.getD i_.toNat zInode_) (b.1.getD i_.toNat zInode_)).bind fun r=>cond (!r) (some (.inr (.inl false))) (some (.inl (w64 (i_+1))))) none) none) (some (.inr (.inr ())))
def Zq106 (a:Fs_) (b:Fs_):Int→Option ((Bool⊕Unit)):=
 loopL fun s=>Zq106.B a b s
def Zq107.B (a:Fs_) (b:Fs_) (i_2:Int):Option (Int⊕((Bool⊕Unit))):=
 cond (decide (i_2<(a.2.1.length:Int))) (cond (inB i_2 a.2.1.length) ((some ((a.2.1.getD i_2.toNat []).map fun n=>UInt8.ofNat n.toNat)).bind fun v2=>cond (inB i_2 b.2.1.length) ((some ((b.2.1.getD i_2.toNat []).map fun n=>UInt8.ofNat n.toNat)).bind fun v3=>cond (!(v2 == v3)) (some (.inr (.inl false))) (some (.inl (w64 (i_2+1))))) none) none) (some (.inr (.inr ())))
def Zq107 (a:Fs_) (b:Fs_):Int→Option ((Bool⊕Unit)):=
 loopL fun s=>Zq107.B a b s
def Zq108 (a:Fs_) (b:Fs_):Option Bool:=
 (some (cond ((a.1.length:Int) != (b.1.length:Int)) true ((a.2.1.length:Int) != (b.2.1.length:Int)))).bind fun v=>cond v (some false) ((Zq106 a b 0).bind fun o=>sel o (fun b2=>some b2) (fun c=>(Zq107 a b 0).bind fun o2=>sel o2 (fun b3=>some b3) (fun c2=>some true)))
namespace Zq108
def G:Gam:=mkG [(214,Zq105.FS)]
theorem Gok:GOk PR G:=.cons Zq105.ok .nil
end Zq108
namespace Zq106
def c:=codeAt (bodyOf Proofs.Tryz.f133) [1,1,0,1,0,0]
def sp:SP:=⟨[(0,.pt tFs_),(1,.pt tFs_),(5,.cs I64)],[]⟩
def out (a:Fs_) (b:Fs_):FOut ((Bool⊕Unit)):=fun oo0 _ kk0=>sel oo0 (fun bb0=>kk0 (.rt) ⟨[(4,.cs .bool bb0)],[]⟩) (fun cc0=>kk0 (.ex 0) ⟨[(0,.pt tFs_ a),(1,.pt tFs_ b)],[]⟩)
def fr:=lfrag sp (fun x=>Zq106 x.1.1 x.1.2.1 x.1.2.2.1) fun x=>out x.1.1 x.1.2.1
theorem ok:CodeOk PR 80 2 (.loop c) fr:=
 lp_ok tbok hmix h0 .no (G:=Zq108.G) Zq108.Gok (L:=mkL []) (l:=[]) hT [0,1,5] [] [(0,([0,1],[]))] ([4],[]) (fun x s=>B x.1.1 x.1.2.1 s) (fun x s=>⟨[(0,.pt tFs_ x.1.1),(1,.pt tFs_ x.1.2.1),(5,.cs I64 s)],[]⟩) (fun x=>x.1.2.2.1)
  (fun x s=>by simp only[B,mC,mB,mS,mO,mN];kernel_rfl)
end Zq106
namespace Zq107
def c:=codeAt (bodyOf Proofs.Tryz.f133) [1,1,1,0,1,0,0]
def sp:SP:=⟨[(0,.pt tFs_),(1,.pt tFs_),(6,.cs I64)],[]⟩
def out (a:Fs_) (b:Fs_):FOut ((Bool⊕Unit)):=fun oo0 _ kk0=>sel oo0 (fun bb0=>kk0 (.rt) ⟨[(4,.cs .bool bb0)],[]⟩) (fun cc0=>kk0 (.ex 2) ⟨[],[]⟩)
def fr:=lfrag sp (fun x=>Zq107 x.1.1 x.1.2.1 x.1.2.2.1) fun x=>out x.1.1 x.1.2.1
theorem ok:CodeOk PR 80 2 (.loop c) fr:=
 lp_ok tbok hmix h0 .no (G:=Zq108.G) Zq108.Gok (L:=mkL []) (l:=[]) hT [0,1,6] [] [(2,([],[]))] ([4],[]) (fun x s=>B x.1.1 x.1.2.1 s) (fun x s=>⟨[(0,.pt tFs_ x.1.1),(1,.pt tFs_ x.1.2.1),(6,.cs I64 s)],[]⟩) (fun x=>x.1.2.2.1)
  (fun x s=>by simp only[B,mC,mB,mS,mO,mN];kernel_rfl)
end Zq107
namespace Zq108
def pts:List PT:=[.pt tFs_,.pt tFs_]
def FS:FS:=mkFS [.sh,.sh] pts (fun x=>Zq108 x.1 x.2.1) fun t=>⟨[.cs .bool t],[]⟩
theorem ok:FsOk PR 133 FS:=
 fn_ok tbok hmix Proofs.Tryz.f133 h0 (.R (.R (.two (.R (.one (.fr 0))) (.L (.R (.one (.fr 1))))))) (G:=G) Gok (L:=mkL [(0,Zq106.fr),(1,Zq107.fr)]) (l:=[(0,.loop Zq106.c),(1,.loop Zq107.c)]) ⟨Lam.cons Zq106.ok,Lam.skip rfl (Lam.cons Zq107.ok),trivial⟩
  (fun x=>by simp only[Zq108,mC,mB,mS,mO,mN];kernel_rfl)
end Zq108
def Zq109.B (w:World_) (at_:Int):Option (Int⊕((Bool⊕Unit))):=
 cond (decide (at_<20)) ((Zq63 w.2.1.1 at_).bind fun r=>cond (decide (r>0)) ((Zq63 w.2.2.1.1 at_).bind fun r2=>cond (cond (decide (r2>0)) (inB at_ w.2.1.2.1.length) true) (cond (cond (decide (r2>0)) (inB at_ w.2.2.1.2.1.length) true) ((some (cond (decide (r2>0)) (!(((w.2.1.2.1.getD at_.toNat []).map fun n=>UInt8.ofNat n.toNat) == ((w.2.2.1.2.1.getD at_.toNat []).map fun n=>UInt8.ofNat n.toNat))) false)).bind fun v=>cond v (some (.inr (.inl false))) (some (.inl (w64 (at_+1))))) none) none) (cond (cond false (inB at_ w.2.1.2.1.length) true) (cond (cond false (inB at_ w.2.2.1.2.1.length) true) (some (.inl (w64 (at_+1)))) none) none)) (some (.inr (.inr ())))
def Zq109 (w:World_):Int→Option ((Bool⊕Unit)):=
 loopL fun s=>Zq109.B w s
def Zq110 (w:World_):Option Bool:=
 (Zq109 w 0).bind fun o=>sel o (fun b=>some b) (fun c=>some true)
namespace Zq110
def G:Gam:=mkG [(215,Zq63.FS)]
theorem Gok:GOk PR G:=.cons Zq63.ok .nil
end Zq110
namespace Zq109
def c:=codeAt (bodyOf Proofs.Tryz.f134) [1,0,1,0,0]
def sp:SP:=⟨[(0,.pt tWorld_),(3,.cs I64)],[]⟩
def out (w:World_):FOut ((Bool⊕Unit)):=fun oo0 _ kk0=>sel oo0 (fun bb0=>kk0 (.rt) ⟨[(2,.cs .bool bb0)],[]⟩) (fun cc0=>kk0 (.ex 0) ⟨[],[]⟩)
def fr:=lfrag sp (fun x=>Zq109 x.1.1 x.1.2.1) fun x=>out x.1.1
theorem ok:CodeOk PR 49 1 (.loop c) fr:=
 lp_ok tbok hmix h0 .no (G:=Zq110.G) Zq110.Gok (L:=mkL []) (l:=[]) hT [0,3] [] [(0,([],[]))] ([2],[]) (fun x s=>B x.1.1 s) (fun x s=>⟨[(0,.pt tWorld_ x.1.1),(3,.cs I64 s)],[]⟩) (fun x=>x.1.2.1)
  (fun x s=>by simp only[B,mC,mB,mS,mO,mN];kernel_rfl)
end Zq109
namespace Zq110
def pts:List PT:=[.pt tWorld_]
def FS:FS:=mkFS [.sh] pts (fun x=>Zq110 x.1) fun t=>⟨[.cs .bool t],[]⟩
theorem ok:FsOk PR 134 FS:=
 fn_ok tbok hmix Proofs.Tryz.f134 h0 (.R (.L (.R (.one (.fr 0))))) (G:=G) Gok (L:=mkL [(0,Zq109.fr)]) (l:=[(0,.loop Zq109.c)]) ⟨Lam.cons Zq109.ok,trivial⟩
  (fun x=>by simp only[Zq110,mC,mB,mS,mO,mN];kernel_rfl)
end Zq110
def Zq111 (w:World_):Option Int:=
 (Zq47 w.1).bind fun r=>cond (r.1 != 0) (some r.1) ((Zq87 w.2.1).bind fun r2=>cond (r2 != 0) (some r2) ((Zq87 w.2.2.1).bind fun r3=>cond (r3 != 0) (some r3) (cond (decide ((w.1.2.1.length:Int)>0)) (some 1) ((Zq103 w.1).bind fun r4=>cond (r4.1 != 0) (some 10) ((Zq108 (r4.2.1.1,r4.2.1.2.1,r4.2.1.2.2) w.2.2.1).bind fun r5=>cond (!r5) (some 10) ((Zq110 w).bind fun r6=>cond (!r6) (some 10) (some 0)))))))
namespace Zq111
def G:Gam:=mkG [(62,Zq47.FS),(63,Zq87.FS),(122,Zq103.FS),(133,Zq108.FS),(134,Zq110.FS)]
def pts:List PT:=[.pt tWorld_]
def FS:FS:=mkFS [.sh] pts (fun x=>Zq111 x.1) fun t=>⟨[.cs I64 t],[]⟩
theorem ok:FsOk PR 56 FS:=
 fn_ok tbok hmix Proofs.Tryz.f56 h0 .no (G:=G) (show GOk PR G from .cons Zq47.ok (.cons Zq87.ok (.cons Zq103.ok (.cons Zq108.ok (.cons Zq110.ok .nil))))) (L:=mkL []) (l:=[]) hT
  (fun x=>by simp only[Zq111,mC,mB,mS,mO,mN];kernel_rfl)
end Zq111
def Zq112 (w:World_):Option Int:=
 (Zq111 w).bind fun r=>some r
namespace Zq112
def G:Gam:=mkG [(56,Zq111.FS)]
def pts:List PT:=[.cs tWorld_]
def FS:FS:=mkFS [.sh] pts (fun x=>Zq112 x.1) fun t=>⟨[.cs I64 t],[]⟩
theorem ok:FsOk PR 10 FS:=
 fn_ok tbok hmix Proofs.Tryz.f10 ⟨[1],[],[],0⟩ .no (G:=G) (show GOk PR G from .cons Zq111.ok .nil) (L:=mkL []) (l:=[]) hT
  (fun x=>by simp only[Zq112,mC,mB,mS,mO,mN];kernel_rfl)
end Zq112
def Zq113 (n:Int) (low:Int) (high:Int):Option Bool:=
 (some (cond (decide (n≥low)) (decide (n≤high)) false)).bind fun v=>some v
namespace Zq113
def pts:List PT:=[.cs I64,.cs I64,.cs I64]
def FS:FS:=mkFS [.sh,.sh,.sh] pts (fun x=>Zq113 x.1 x.2.1 x.2.2.1) fun t=>⟨[.cs .bool t],[]⟩
theorem ok:FsOk PR 109 FS:=
 fn_ok tbok hmix Proofs.Tryz.f109 h0 .no (G:=(mkG [])) .nil (L:=mkL []) (l:=[]) hT
  (fun x=>by simp only[Zq113,mC,mB,mS,mO,mN];kernel_rfl)
end Zq113
def Zq114 (w:Int):Option Bool:=
 (Zq113 w 0 65535).bind fun r=>some (!r)
namespace Zq114
def G:Gam:=mkG [(109,Zq113.FS)]
def pts:List PT:=[.cs I64]
def FS:FS:=mkFS [.sh] pts (fun x=>Zq114 x.1) fun t=>⟨[.cs .bool t],[]⟩
theorem ok:FsOk PR 196 FS:=
 fn_ok tbok hmix Proofs.Tryz.f196 h0 .no (G:=G) (show GOk PR G from .cons Zq113.ok .nil) (L:=mkL []) (l:=[]) hT
  (fun x=>by simp only[Zq114,mC,mB,mS,mO,mN];kernel_rfl)
end Zq114
def Zq115.B (s_:List Int) (f:Unit) (v:Int) (v2:Int):Option (Int⊕((Int⊕Unit))):=
 cond (decide (v2<v)) (cond (inB v2 s_.length) ((Zq114 (s_.getD v2.toNat 0)).bind fun r=>cond r (some (.inr (.inl v2))) (some (.inl (w64 (v2+1))))) none) (some (.inr (.inr ())))
def Zq115 (s_:List Int) (f:Unit) (v:Int):Int→Option ((Int⊕Unit)):=
 loopL fun s=>Zq115.B s_ f v s
def Zq116 (s_:List Int) (f:Unit):Option Int:=
 (Zq115 s_ f (s_.length:Int) 0).bind fun o=>sel o (fun b=>some b) (fun c=>some (-1))
namespace Zq116
def G:Gam:=mkG [(196,Zq114.FS)]
theorem Gok:GOk PR G:=.cons Zq114.ok .nil
end Zq116
namespace Zq115
def c:=codeAt (bodyOf Proofs.Tryz.f246) [1,0,1,0,0]
def sp:SP:=⟨[(0,.cs SI),(1,.clo 196 (.cs .unit)),(7,.cs I64),(8,.cs I64)],[]⟩
def out (s_:List Int) (f:Unit) (v:Int):FOut ((Int⊕Unit)):=fun oo0 _ kk0=>sel oo0 (fun bb0=>kk0 (.rt) ⟨[(4,.cs I64 bb0)],[]⟩) (fun cc0=>kk0 (.ex 0) ⟨[],[]⟩)
def fr:=lfrag sp (fun x=>Zq115 x.1.1 x.1.2.1 x.1.2.2.1 x.1.2.2.2.1) fun x=>out x.1.1 x.1.2.1 x.1.2.2.1
theorem ok:CodeOk PR 19 2 (.loop c) fr:=
 lp_ok tbok hmix h0 .no (G:=Zq116.G) Zq116.Gok (L:=mkL []) (l:=[]) hT [0,1,7,8] [] [(0,([],[]))] ([4],[]) (fun x s=>B x.1.1 x.1.2.1 x.1.2.2.1 s) (fun x s=>⟨[(0,.cs SI x.1.1),(1,.clo 196 (.cs .unit x.1.2.1)),(7,.cs I64 x.1.2.2.1),(8,.cs I64 s)],[]⟩) (fun x=>x.1.2.2.2.1)
  (fun x s=>by simp only[B,mC,mB,mS,mO,mN];kernel_rfl)
end Zq115
namespace Zq116
def pts:List PT:=[.cs SI,.clo 196 (.cs .unit)]
def FS:FS:=mkFS [.sh,.sh] pts (fun x=>Zq116 x.1 x.2.1) fun t=>⟨[.cs I64 t],[]⟩
theorem ok:FsOk PR 246 FS:=
 fn_ok tbok hmix Proofs.Tryz.f246 h0 (.R (.L (.R (.one (.fr 0))))) (G:=G) Gok (L:=mkL [(0,Zq115.fr)]) (l:=[(0,.loop Zq115.c)]) ⟨Lam.cons Zq115.ok,trivial⟩
  (fun x=>by simp only[Zq116,mC,mB,mS,mO,mN];kernel_rfl)
end Zq116
def Zq117 (s_:List Int) (f:Unit):Option Bool:=
 (Zq116 s_ f).bind fun r=>some (decide (r≥0))
namespace Zq117
def G:Gam:=mkG [(246,Zq116.FS)]
def pts:List PT:=[.cs SI,.clo 196 (.cs .unit)]
def FS:FS:=mkFS [.sh,.sh] pts (fun x=>Zq117 x.1 x.2.1) fun t=>⟨[.cs .bool t],[]⟩
theorem ok:FsOk PR 195 FS:=
 fn_ok tbok hmix Proofs.Tryz.f195 h0 .no (G:=G) (show GOk PR G from .cons Zq116.ok .nil) (L:=mkL []) (l:=[]) hT
  (fun x=>by simp only[Zq117,mC,mB,mS,mO,mN];kernel_rfl)
end Zq117
def Zq118 (words:List Int):Option Int:=
 cond (decide ((words.length:Int)>64)) (some 2) ((Zq117 words ()).bind fun r=>cond r (some 3) (some 0))
namespace Zq118
def G:Gam:=mkG [(195,Zq117.FS)]
def pts:List PT:=[.cs SI]
def FS:FS:=mkFS [.sh] pts (fun x=>Zq118 x.1) fun t=>⟨[.cs I64 t],[]⟩
theorem ok:FsOk PR 114 FS:=
 fn_ok tbok hmix Proofs.Tryz.f114 h0 .no (G:=G) (show GOk PR G from .cons Zq117.ok .nil) (L:=mkL []) (l:=[]) hT
  (fun x=>by simp only[Zq118,mC,mB,mS,mO,mN];kernel_rfl)
end Zq118
def Zq119 (l:List (List Int)):Option Int:=
 some (l.length:Int)
namespace Zq119
def pts:List PT:=[.cs (.sl SI)]
def FS:FS:=mkFS [.sh] pts (fun x=>Zq119 x.1) fun t=>⟨[.cs I64 t],[]⟩
theorem ok:FsOk PR 110 FS:=
 fn_ok tbok hmix Proofs.Tryz.f110 h0 .no (G:=(mkG [])) .nil (L:=mkL []) (l:=[]) hT
  (fun x=>by simp only[Zq119,mC,mB,mS,mO,mN];kernel_rfl)
end Zq119
def Zq120.B (d:Disk_) (v2:List (List Int)) (v3:Int) (v4:Int):Option (Int⊕((Int⊕Unit))):=
 cond (decide (v4<v3)) (cond (inB v4 v2.length) ((Zq118 (v2.getD v4.toNat [])).bind fun r=>cond (r != 0) (some (.inr (.inl r))) (some (.inl (w64 (v4+1))))) none) (some (.inr (.inr ())))
def Zq120 (d:Disk_) (v2:List (List Int)) (v3:Int):Int→Option ((Int⊕Unit)):=
 loopL fun s=>Zq120.B d v2 v3 s
def Zq121.B (d:Disk_) (v5:List Put_) (v6:Int) (v7:Int):Option (Int⊕((Int⊕Unit))):=
 cond (decide (v7<v6)) (cond (inB v7 v5.length) ((Zq119 d.1).bind fun r2=>(Zq113 (v5.getD v7.toNat zPut_).1 0 (w64 (r2-1))).bind fun r3=>cond (!r3) (some (.inr (.inl 3))) ((Zq118 (v5.getD v7.toNat zPut_).2.1).bind fun r4=>cond (r4 != 0) (some (.inr (.inl r4))) (some (.inl (w64 (v7+1)))))) none) (some (.inr (.inr ())))
def Zq121 (d:Disk_) (v5:List Put_) (v6:Int):Int→Option ((Int⊕Unit)):=
 loopL fun s=>Zq121.B d v5 v6 s
def Zq122 (d:Disk_):Option Int:=
 (some (cond (decide ((d.1.length:Int)>60)) true (decide ((d.2.1.length:Int)>200)))).bind fun v=>cond v (some 2) ((Zq120 d d.1 (d.1.length:Int) 0).bind fun o=>sel o (fun b=>some b) (fun c=>(Zq121 d d.2.1 (d.2.1.length:Int) 0).bind fun o2=>sel o2 (fun b2=>some b2) (fun c2=>some 0)))
namespace Zq122
def G:Gam:=mkG [(114,Zq118.FS),(110,Zq119.FS),(109,Zq113.FS)]
theorem Gok:GOk PR G:=.cons Zq118.ok (.cons Zq119.ok (.cons Zq113.ok .nil))
end Zq122
namespace Zq120
def c:=codeAt (bodyOf Proofs.Tryz.f106) [1,1,0,1,0,0]
def sp:SP:=⟨[(1,.pt tDisk_),(20,.cs (.sl SI)),(21,.cs I64),(22,.cs I64)],[]⟩
def out (d:Disk_) (v2:List (List Int)) (v3:Int):FOut ((Int⊕Unit)):=fun oo0 _ kk0=>sel oo0 (fun bb0=>kk0 (.rt) ⟨[(2,.cs I64 bb0)],[]⟩) (fun cc0=>kk0 (.ex 0) ⟨[(1,.pt tDisk_ d)],[]⟩)
def fr:=lfrag sp (fun x=>Zq120 x.1.1 x.1.2.1 x.1.2.2.1 x.1.2.2.2.1) fun x=>out x.1.1 x.1.2.1 x.1.2.2.1
theorem ok:CodeOk PR 54 1 (.loop c) fr:=
 lp_ok tbok hmix ⟨[1],[],[],0⟩ .no (G:=Zq122.G) Zq122.Gok (L:=mkL []) (l:=[]) hT [1,20,21,22] [] [(0,([1],[]))] ([2],[]) (fun x s=>B x.1.1 x.1.2.1 x.1.2.2.1 s) (fun x s=>⟨[(1,.pt tDisk_ x.1.1),(20,.cs (.sl SI) x.1.2.1),(21,.cs I64 x.1.2.2.1),(22,.cs I64 s)],[]⟩) (fun x=>x.1.2.2.2.1)
  (fun x s=>by simp only[B,mC,mB,mS,mO,mN];kernel_rfl)
end Zq120
namespace Zq121
def c:=codeAt (bodyOf Proofs.Tryz.f106) [1,1,1,0,1,0,0]
def sp:SP:=⟨[(1,.pt tDisk_),(33,.cs (.sl tPut_)),(34,.cs I64),(35,.cs I64)],[]⟩
def out (d:Disk_) (v5:List Put_) (v6:Int):FOut ((Int⊕Unit)):=fun oo0 _ kk0=>sel oo0 (fun bb0=>kk0 (.rt) ⟨[(2,.cs I64 bb0)],[]⟩) (fun cc0=>kk0 (.ex 2) ⟨[],[]⟩)
def fr:=lfrag sp (fun x=>Zq121 x.1.1 x.1.2.1 x.1.2.2.1 x.1.2.2.2.1) fun x=>out x.1.1 x.1.2.1 x.1.2.2.1
theorem ok:CodeOk PR 54 1 (.loop c) fr:=
 lp_ok tbok hmix ⟨[1],[],[],0⟩ .no (G:=Zq122.G) Zq122.Gok (L:=mkL []) (l:=[]) hT [1,33,34,35] [] [(2,([],[]))] ([2],[]) (fun x s=>B x.1.1 x.1.2.1 x.1.2.2.1 s) (fun x s=>⟨[(1,.pt tDisk_ x.1.1),(33,.cs (.sl tPut_) x.1.2.1),(34,.cs I64 x.1.2.2.1),(35,.cs I64 s)],[]⟩) (fun x=>x.1.2.2.2.1)
  (fun x s=>by simp only[B,mC,mB,mS,mO,mN];kernel_rfl)
end Zq121
namespace Zq122
def pts:List PT:=[.cs tDisk_]
def FS:FS:=mkFS [.sh] pts (fun x=>Zq122 x.1) fun t=>⟨[.cs I64 t],[]⟩
theorem ok:FsOk PR 106 FS:=
 fn_ok tbok hmix Proofs.Tryz.f106 ⟨[1],[],[],0⟩ (.R (.R (.two (.R (.one (.fr 0))) (.L (.R (.one (.fr 1))))))) (G:=G) Gok (L:=mkL [(0,Zq120.fr),(1,Zq121.fr)]) (l:=[(0,.loop Zq120.c),(1,.loop Zq121.c)]) ⟨Lam.cons Zq120.ok,Lam.skip rfl (Lam.cons Zq121.ok),trivial⟩
  (fun x=>by simp only[Zq122,mC,mB,mS,mO,mN];kernel_rfl)
end Zq122
noncomputable def Zq123 (d:Disk_) (at_:Int):Option (List Int):=blockP d at_
def Zq123.FS:FS:=mkFS [.sh,.sh] [.pt tDiskB,.cl .sh (.int .i64)] (fun x=>blockP x.1 x.2.1) fun y=>⟨[.cl .sh (.sl (.int .i64)) y],[]⟩
theorem Zq123.ok:FsOk Go.Proofs.Tryz.prog 155 Zq123.FS:=
 block_fs ⟨Go.Proofs.Tryz.f155,by kernel_rfl,by kernel_rfl,by kernel_rfl⟩ (fun bd od at_ A C nB cB nC cC hd w v h1 h2 h3 h4 h5 h6=>callsIn_wide.1 (Go.Proofs.Bk.block_in Fence.wide 3 trivial trivial trivial rfl (by omega) bd od at_ A C nB cB nC cC hd w v h1 h2 h3 h4 h5 h6))
def Zq124 (seq:Int):Option Bool:=
 (Zq113 seq 1 60000).bind fun r=>some r
namespace Zq124
def G:Gam:=mkG [(109,Zq113.FS)]
def pts:List PT:=[.cs I64]
def FS:FS:=mkFS [.sh] pts (fun x=>Zq124 x.1) fun t=>⟨[.cs .bool t],[]⟩
theorem ok:FsOk PR 103 FS:=
 fn_ok tbok hmix Proofs.Tryz.f103 h0 .no (G:=G) (show GOk PR G from .cons Zq113.ok .nil) (L:=mkL []) (l:=[]) hT
  (fun x=>by simp only[Zq124,mC,mB,mS,mO,mN];kernel_rfl)
end Zq124
def Zq125 (d:Disk_):Option (Int×Int):=
 (Zq122 d).bind fun r=>cond (r != 0) (some (0,r)) (cond ((d.1.length:Int) != 47) (some (0,1)) ((Zq123 d 0).bind fun r2=>cond (cond (!((r2.length:Int) != 2)) (inB 0 r2.length) true) ((some (cond ((r2.length:Int) != 2) true ((r2.getD (0:Int).toNat 0) != 7))).bind fun v=>cond v (some (0,5)) (cond (inB 1 r2.length) ((Zq124 (r2.getD (1:Int).toNat 0)).bind fun r3=>cond (!r3) (some (0,5)) (cond (inB 1 r2.length) (some (r2.getD (1:Int).toNat 0,0)) none)) none)) none))
namespace Zq125
def G:Gam:=mkG [(106,Zq122.FS),(155,Zq123.FS),(103,Zq124.FS)]
def pts:List PT:=[.cs tDisk_]
def FS:FS:=mkFS [.sh] pts (fun x=>Zq125 x.1) fun t=>⟨[.cs I64 t.1,.cs I64 t.2],[]⟩
theorem ok:FsOk PR 69 FS:=
 fn_ok tbok hmix Proofs.Tryz.f69 ⟨[1],[],[],0⟩ .no (G:=G) (show GOk PR G from .cons Zq122.ok (.cons Zq123.ok (.cons Zq124.ok .nil))) (L:=mkL []) (l:=[]) hT
  (fun x=>by simp only[Zq125,mC,mB,mS,mO,mN];kernel_rfl)
end Zq125
def Zq126 (l:List Int):Option Int:=
 some (l.length:Int)
namespace Zq126
def pts:List PT:=[.cs SI]
def FS:FS:=mkFS [.sh] pts (fun x=>Zq126 x.1) fun t=>⟨[.cs I64 t],[]⟩
theorem ok:FsOk PR 179 FS:=
 fn_ok tbok hmix Proofs.Tryz.f179 h0 .no (G:=(mkG [])) .nil (L:=mkL []) (l:=[]) hT
  (fun x=>by simp only[Zq126,mC,mB,mS,mO,mN];kernel_rfl)
end Zq126
def Zq127 (size:Int):Option Int:=
 cond (!((8:Int) == 0)) (some (w64 ((w64 ((w64 (size+8))-1)).tdiv 8))) none
namespace Zq127
def pts:List PT:=[.cs I64]
def FS:FS:=mkFS [.sh] pts (fun x=>Zq127 x.1) fun t=>⟨[.cs I64 t],[]⟩
theorem ok:FsOk PR 304 FS:=
 fn_ok tbok hmix Proofs.Tryz.f304 h0 .no (G:=(mkG [])) .nil (L:=mkL []) (l:=[]) hT
  (fun x=>by simp only[Zq127,mC,mB,mS,mO,mN];kernel_rfl)
end Zq127
def Zq128 (b:Int):Option Bool:=
 (Zq113 b 0 19).bind fun r=>some (!r)
namespace Zq128
def G:Gam:=mkG [(109,Zq113.FS)]
def pts:List PT:=[.cs I64]
def FS:FS:=mkFS [.sh] pts (fun x=>Zq128 x.1) fun t=>⟨[.cs .bool t],[]⟩
theorem ok:FsOk PR 305 FS:=
 fn_ok tbok hmix Proofs.Tryz.f305 h0 .no (G:=G) (show GOk PR G from .cons Zq113.ok .nil) (L:=mkL []) (l:=[]) hT
  (fun x=>by simp only[Zq128,mC,mB,mS,mO,mN];kernel_rfl)
end Zq128
def Zq129.B (s_:List Int) (f:Unit) (v:Int) (v2:Int):Option (Int⊕((Int⊕Unit))):=
 cond (decide (v2<v)) (cond (inB v2 s_.length) ((Zq128 (s_.getD v2.toNat 0)).bind fun r=>cond r (some (.inr (.inl v2))) (some (.inl (w64 (v2+1))))) none) (some (.inr (.inr ())))
def Zq129 (s_:List Int) (f:Unit) (v:Int):Int→Option ((Int⊕Unit)):=
 loopL fun s=>Zq129.B s_ f v s
def Zq130 (s_:List Int) (f:Unit):Option Int:=
 (Zq129 s_ f (s_.length:Int) 0).bind fun o=>sel o (fun b=>some b) (fun c=>some (-1))
namespace Zq130
def G:Gam:=mkG [(305,Zq128.FS)]
theorem Gok:GOk PR G:=.cons Zq128.ok .nil
end Zq130
namespace Zq129
def c:=codeAt (bodyOf Proofs.Tryz.f246) [1,0,1,0,0]
def sp:SP:=⟨[(0,.cs SI),(1,.clo 305 (.cs .unit)),(7,.cs I64),(8,.cs I64)],[]⟩
def out (s_:List Int) (f:Unit) (v:Int):FOut ((Int⊕Unit)):=fun oo0 _ kk0=>sel oo0 (fun bb0=>kk0 (.rt) ⟨[(4,.cs I64 bb0)],[]⟩) (fun cc0=>kk0 (.ex 0) ⟨[],[]⟩)
def fr:=lfrag sp (fun x=>Zq129 x.1.1 x.1.2.1 x.1.2.2.1 x.1.2.2.2.1) fun x=>out x.1.1 x.1.2.1 x.1.2.2.1
theorem ok:CodeOk PR 19 2 (.loop c) fr:=
 lp_ok tbok hmix h0 .no (G:=Zq130.G) Zq130.Gok (L:=mkL []) (l:=[]) hT [0,1,7,8] [] [(0,([],[]))] ([4],[]) (fun x s=>B x.1.1 x.1.2.1 x.1.2.2.1 s) (fun x s=>⟨[(0,.cs SI x.1.1),(1,.clo 305 (.cs .unit x.1.2.1)),(7,.cs I64 x.1.2.2.1),(8,.cs I64 s)],[]⟩) (fun x=>x.1.2.2.2.1)
  (fun x s=>by simp only[B,mC,mB,mS,mO,mN];kernel_rfl)
end Zq129
namespace Zq130
def pts:List PT:=[.cs SI,.clo 305 (.cs .unit)]
def FS:FS:=mkFS [.sh,.sh] pts (fun x=>Zq130 x.1 x.2.1) fun t=>⟨[.cs I64 t],[]⟩
theorem ok:FsOk PR 246 FS:=
 fn_ok tbok hmix Proofs.Tryz.f246 h0 (.R (.L (.R (.one (.fr 0))))) (G:=G) Gok (L:=mkL [(0,Zq129.fr)]) (l:=[(0,.loop Zq129.c)]) ⟨Lam.cons Zq129.ok,trivial⟩
  (fun x=>by simp only[Zq130,mC,mB,mS,mO,mN];kernel_rfl)
end Zq130
def Zq131 (s_:List Int) (f:Unit):Option Bool:=
 (Zq130 s_ f).bind fun r=>some (decide (r≥0))
namespace Zq131
def G:Gam:=mkG [(246,Zq130.FS)]
def pts:List PT:=[.cs SI,.clo 305 (.cs .unit)]
def FS:FS:=mkFS [.sh,.sh] pts (fun x=>Zq131 x.1 x.2.1) fun t=>⟨[.cs .bool t],[]⟩
theorem ok:FsOk PR 195 FS:=
 fn_ok tbok hmix Proofs.Tryz.f195 h0 .no (G:=G) (show GOk PR G from .cons Zq130.ok .nil) (L:=mkL []) (l:=[]) hT
  (fun x=>by simp only[Zq131,mC,mB,mS,mO,mN];kernel_rfl)
end Zq131
def Zq132.B (s_:List Int) (v:Int) (v2:Int) (v3:Int):Option (Int⊕((Int⊕Unit))):=
 cond (decide (v3<v2)) (cond (inB v3 s_.length) (cond (v == (s_.getD v3.toNat 0)) (some (.inr (.inl v3))) (some (.inl (w64 (v3+1))))) none) (some (.inr (.inr ())))
def Zq132 (s_:List Int) (v:Int) (v2:Int):Int→Option ((Int⊕Unit)):=
 loopL fun s=>Zq132.B s_ v v2 s
def Zq133 (s_:List Int) (v:Int):Option Int:=
 (Zq132 s_ v (s_.length:Int) 0).bind fun o=>sel o (fun b=>some b) (fun c=>some (-1))
namespace Zq132
def c:=codeAt (bodyOf Proofs.Tryz.f216) [1,0,1,0,0]
def sp:SP:=⟨[(0,.cs SI),(1,.cs I64),(7,.cs I64),(8,.cs I64)],[]⟩
def out (s_:List Int) (v:Int) (v2:Int):FOut ((Int⊕Unit)):=fun oo0 _ kk0=>sel oo0 (fun bb0=>kk0 (.rt) ⟨[(4,.cs I64 bb0)],[]⟩) (fun cc0=>kk0 (.ex 0) ⟨[],[]⟩)
def fr:=lfrag sp (fun x=>Zq132 x.1.1 x.1.2.1 x.1.2.2.1 x.1.2.2.2.1) fun x=>out x.1.1 x.1.2.1 x.1.2.2.1
theorem ok:CodeOk PR 19 2 (.loop c) fr:=
 lp_ok tbok hmix h0 .no (G:=(mkG [])) .nil (L:=mkL []) (l:=[]) hT [0,1,7,8] [] [(0,([],[]))] ([4],[]) (fun x s=>B x.1.1 x.1.2.1 x.1.2.2.1 s) (fun x s=>⟨[(0,.cs SI x.1.1),(1,.cs I64 x.1.2.1),(7,.cs I64 x.1.2.2.1),(8,.cs I64 s)],[]⟩) (fun x=>x.1.2.2.2.1)
  (fun x s=>by simp only[B,mC,mB,mS,mO,mN];kernel_rfl)
end Zq132
namespace Zq133
def pts:List PT:=[.cs SI,.cs I64]
def FS:FS:=mkFS [.sh,.sh] pts (fun x=>Zq133 x.1 x.2.1) fun t=>⟨[.cs I64 t],[]⟩
theorem ok:FsOk PR 216 FS:=
 fn_ok tbok hmix Proofs.Tryz.f216 h0 (.R (.L (.R (.one (.fr 0))))) (G:=(mkG [])) .nil (L:=mkL [(0,Zq132.fr)]) (l:=[(0,.loop Zq132.c)]) ⟨Lam.cons Zq132.ok,trivial⟩
  (fun x=>by simp only[Zq133,mC,mB,mS,mO,mN];kernel_rfl)
end Zq133
def Zq134 (s_:List Int) (v:Int):Option Bool:=
 (Zq133 s_ v).bind fun r=>some (decide (r≥0))
namespace Zq134
def G:Gam:=mkG [(216,Zq133.FS)]
def pts:List PT:=[.cs SI,.cs I64]
def FS:FS:=mkFS [.sh,.sh] pts (fun x=>Zq134 x.1 x.2.1) fun t=>⟨[.cs .bool t],[]⟩
theorem ok:FsOk PR 135 FS:=
 fn_ok tbok hmix Proofs.Tryz.f135 h0 .no (G:=G) (show GOk PR G from .cons Zq133.ok .nil) (L:=mkL []) (l:=[]) hT
  (fun x=>by simp only[Zq134,mC,mB,mS,mO,mN];kernel_rfl)
end Zq134
def Zq135.B (x:Inode_) (v:List Int) (v2:Int) (v3:Int):Option (Int⊕((Int⊕Unit))):=
 cond (decide (v3<v2)) (cond (inB v3 v.length) (cond (decide ((0:Int)≤v3)&&decide (v3≤(x.2.2.2.1.length:Int))) ((Zq134 ((x.2.2.2.1.take v3.toNat).drop 0) (v.getD v3.toNat 0)).bind fun r6=>cond r6 (some (.inr (.inl 7))) (some (.inl (w64 (v3+1))))) none) none) (some (.inr (.inr ())))
def Zq135 (x:Inode_) (v:List Int) (v2:Int):Int→Option ((Int⊕Unit)):=
 loopL fun s=>Zq135.B x v v2 s
def Zq136 (x:Inode_):Option Int:=
 (Zq113 x.2.1 1 60).bind fun r=>cond (!r) (some 3) ((Zq113 x.2.2.1 0 32).bind fun r2=>cond (!r2) (some 3) ((Zq126 x.2.2.2.1).bind fun r3=>(Zq127 x.2.2.1).bind fun r4=>cond (r3 != r4) (some 1) ((Zq131 x.2.2.2.1 ()).bind fun r5=>cond r5 (some 3) ((Zq135 x x.2.2.2.1 (x.2.2.2.1.length:Int) 0).bind fun o=>sel o (fun b=>some b) (fun c=>some 0)))))
namespace Zq136
def G:Gam:=mkG [(109,Zq113.FS),(179,Zq126.FS),(304,Zq127.FS),(195,Zq131.FS),(135,Zq134.FS)]
theorem Gok:GOk PR G:=.cons Zq113.ok (.cons Zq126.ok (.cons Zq127.ok (.cons Zq131.ok (.cons Zq134.ok .nil))))
end Zq136
namespace Zq135
def c:=codeAt (bodyOf Proofs.Tryz.f270) [1,1,0,1,0,0]
def sp:SP:=⟨[(1,.pt tInode_),(29,.cs SI),(30,.cs I64),(31,.cs I64)],[]⟩
def out (x:Inode_) (v:List Int) (v2:Int):FOut ((Int⊕Unit)):=fun oo0 _ kk0=>sel oo0 (fun bb0=>kk0 (.rt) ⟨[(2,.cs I64 bb0)],[]⟩) (fun cc0=>kk0 (.ex 1) ⟨[],[]⟩)
def fr:=lfrag sp (fun x=>Zq135 x.1.1 x.1.2.1 x.1.2.2.1 x.1.2.2.2.1) fun x=>out x.1.1 x.1.2.1 x.1.2.2.1
theorem ok:CodeOk PR 43 1 (.loop c) fr:=
 lp_ok tbok hmix ⟨[1],[],[],0⟩ .no (G:=Zq136.G) Zq136.Gok (L:=mkL []) (l:=[]) hT [1,29,30,31] [] [(1,([],[]))] ([2],[]) (fun x s=>B x.1.1 x.1.2.1 x.1.2.2.1 s) (fun x s=>⟨[(1,.pt tInode_ x.1.1),(29,.cs SI x.1.2.1),(30,.cs I64 x.1.2.2.1),(31,.cs I64 s)],[]⟩) (fun x=>x.1.2.2.2.1)
  (fun x s=>by simp only[B,mC,mB,mS,mO,mN];kernel_rfl)
end Zq135
namespace Zq136
def pts:List PT:=[.cs tInode_]
def FS:FS:=mkFS [.sh] pts (fun x=>Zq136 x.1) fun t=>⟨[.cs I64 t],[]⟩
theorem ok:FsOk PR 270 FS:=
 fn_ok tbok hmix Proofs.Tryz.f270 ⟨[1],[],[],0⟩ (.R (.R (.L (.R (.one (.fr 0)))))) (G:=G) Gok (L:=mkL [(0,Zq135.fr)]) (l:=[(0,.loop Zq135.c)]) ⟨Lam.cons Zq135.ok,trivial⟩
  (fun x=>by simp only[Zq136,mC,mB,mS,mO,mN];kernel_rfl)
end Zq136
def Zq137.B (name:List UInt8) (v:Int) (v2:Int):Option (Int⊕((Int⊕Unit))):=
 cond (decide (v2<v)) (cond (inB v2 name.length) ((some (decide (((name.getD v2.toNat 0).toNat:Int)<97))).bind fun v3=>cond (cond (!v3) (inB v2 name.length) true) ((some (cond v3 true (decide (((name.getD v2.toNat 0).toNat:Int)>122)))).bind fun v4=>cond v4 (some (.inr (.inl 5))) (some (.inl (w64 (v2+1))))) none) none) (some (.inr (.inr ())))
def Zq137 (name:List UInt8) (v:Int):Int→Option ((Int⊕Unit)):=
 loopL fun s=>Zq137.B name v s
def Zq138 (name:List UInt8):Option Int:=
 cond (name == ([]:List UInt8)) (some 5) ((Zq137 name (name.length:Int) 0).bind fun o=>sel o (fun b=>some b) (fun c=>cond (decide ((name.length:Int)>4)) (some 2) (some 0)))
namespace Zq137
def c:=codeAt (bodyOf Proofs.Tryz.f306) [1,1,0,1,0,0]
def sp:SP:=⟨[(0,.cs .str),(7,.cs I64),(8,.cs I64)],[]⟩
def out (name:List UInt8) (v:Int):FOut ((Int⊕Unit)):=fun oo0 _ kk0=>sel oo0 (fun bb0=>kk0 (.rt) ⟨[(2,.cs I64 bb0)],[]⟩) (fun cc0=>kk0 (.ex 0) ⟨[(0,.cs .str name)],[]⟩)
def fr:=lfrag sp (fun x=>Zq137 x.1.1 x.1.2.1 x.1.2.2.1) fun x=>out x.1.1 x.1.2.1
theorem ok:CodeOk PR 25 1 (.loop c) fr:=
 lp_ok tbok hmix h0 .no (G:=(mkG [])) .nil (L:=mkL []) (l:=[]) hT [0,7,8] [] [(0,([0],[]))] ([2],[]) (fun x s=>B x.1.1 x.1.2.1 s) (fun x s=>⟨[(0,.cs .str x.1.1),(7,.cs I64 x.1.2.1),(8,.cs I64 s)],[]⟩) (fun x=>x.1.2.2.1)
  (fun x s=>by simp only[B,mC,mB,mS,mO,mN];kernel_rfl)
end Zq137
namespace Zq138
def pts:List PT:=[.cs .str]
def FS:FS:=mkFS [.sh] pts (fun x=>Zq138 x.1) fun t=>⟨[.cs I64 t],[]⟩
theorem ok:FsOk PR 306 FS:=
 fn_ok tbok hmix Proofs.Tryz.f306 h0 (.R (.R (.L (.R (.one (.fr 0)))))) (G:=(mkG [])) .nil (L:=mkL [(0,Zq137.fr)]) (l:=[(0,.loop Zq137.c)]) ⟨Lam.cons Zq137.ok,trivial⟩
  (fun x=>by simp only[Zq138,mC,mB,mS,mO,mN];kernel_rfl)
end Zq138
def Zq139.B (x:Inode_) (v:List Entry_) (v2:Int) (v3:Int):Option (Int⊕((Int⊕Unit))):=
 cond (decide (v3<v2)) (cond (inB v3 v.length) ((Zq138 (v.getD v3.toNat zEntry_).1).bind fun r=>cond (r != 0) (some (.inr (.inl r))) ((Zq113 (v.getD v3.toNat zEntry_).2.1 0 9).bind fun r2=>cond (!r2) (some (.inr (.inl 3))) (cond (cond (decide (v3>0)) (inB (w64 (v3-1)) x.2.2.2.2.1.length) true) ((some (cond (decide (v3>0)) (!leB (x.2.2.2.2.1.getD (w64 (v3-1)).toNat zEntry_).1 (v.getD v3.toNat zEntry_).1) false)).bind fun v4=>cond v4 (some (.inr (.inl 1))) (some (.inl (w64 (v3+1))))) none))) none) (some (.inr (.inr ())))
def Zq139 (x:Inode_) (v:List Entry_) (v2:Int):Int→Option ((Int⊕Unit)):=
 loopL fun s=>Zq139.B x v v2 s
def Zq140 (x:Inode_):Option Int:=
 cond (decide ((x.2.2.2.2.1.length:Int)>6)) (some 2) ((Zq139 x x.2.2.2.2.1 (x.2.2.2.2.1.length:Int) 0).bind fun o=>sel o (fun b=>some b) (fun c=>some 0))
namespace Zq140
def G:Gam:=mkG [(306,Zq138.FS),(109,Zq113.FS)]
theorem Gok:GOk PR G:=.cons Zq138.ok (.cons Zq113.ok .nil)
end Zq140
namespace Zq139
def c:=codeAt (bodyOf Proofs.Tryz.f271) [1,1,0,1,0,0]
def sp:SP:=⟨[(1,.pt tInode_),(11,.cs (.sl tEntry_)),(12,.cs I64),(13,.cs I64)],[]⟩
def out (x:Inode_) (v:List Entry_) (v2:Int):FOut ((Int⊕Unit)):=fun oo0 _ kk0=>sel oo0 (fun bb0=>kk0 (.rt) ⟨[(2,.cs I64 bb0)],[]⟩) (fun cc0=>kk0 (.ex 0) ⟨[],[]⟩)
def fr:=lfrag sp (fun x=>Zq139 x.1.1 x.1.2.1 x.1.2.2.1 x.1.2.2.2.1) fun x=>out x.1.1 x.1.2.1 x.1.2.2.1
theorem ok:CodeOk PR 43 1 (.loop c) fr:=
 lp_ok tbok hmix ⟨[1],[],[],0⟩ .no (G:=Zq140.G) Zq140.Gok (L:=mkL []) (l:=[]) hT [1,11,12,13] [] [(0,([],[]))] ([2],[]) (fun x s=>B x.1.1 x.1.2.1 x.1.2.2.1 s) (fun x s=>⟨[(1,.pt tInode_ x.1.1),(11,.cs (.sl tEntry_) x.1.2.1),(12,.cs I64 x.1.2.2.1),(13,.cs I64 s)],[]⟩) (fun x=>x.1.2.2.2.1)
  (fun x s=>by simp only[B,mC,mB,mS,mO,mN];kernel_rfl)
end Zq139
namespace Zq140
def pts:List PT:=[.cs tInode_]
def FS:FS:=mkFS [.sh] pts (fun x=>Zq140 x.1) fun t=>⟨[.cs I64 t],[]⟩
theorem ok:FsOk PR 271 FS:=
 fn_ok tbok hmix Proofs.Tryz.f271 ⟨[1],[],[],0⟩ (.R (.R (.L (.R (.one (.fr 0)))))) (G:=G) Gok (L:=mkL [(0,Zq139.fr)]) (l:=[(0,.loop Zq139.c)]) ⟨Lam.cons Zq139.ok,trivial⟩
  (fun x=>by simp only[Zq140,mC,mB,mS,mO,mN];kernel_rfl)
end Zq140
def Zq141 (x:Inode_):Option Int:=
 (some (cond (cond (x.2.1 == 0) (x.2.2.1 == 0) false) ((x.2.2.2.1.length:Int) == 0) false)).bind fun v=>(Zq113 x.1 0 2).bind fun r=>cond (!r) (some 1) (cond (cond (x.1 != 1) (!v) false) (some 1) ((some (cond (x.1 != 2) (!((x.2.2.2.2.1.length:Int) == 0)) false)).bind fun v2=>cond v2 (some 1) (cond (x.1 == 1) ((Zq136 x).bind fun r2=>some r2) ((Zq140 x).bind fun r3=>some r3))))
namespace Zq141
def G:Gam:=mkG [(109,Zq113.FS),(270,Zq136.FS),(271,Zq140.FS)]
def pts:List PT:=[.cs tInode_]
def FS:FS:=mkFS [.sh] pts (fun x=>Zq141 x.1) fun t=>⟨[.cs I64 t],[]⟩
theorem ok:FsOk PR 240 FS:=
 fn_ok tbok hmix Proofs.Tryz.f240 ⟨[1],[],[],0⟩ .no (G:=G) (show GOk PR G from .cons Zq113.ok (.cons Zq136.ok (.cons Zq140.ok .nil))) (L:=mkL []) (l:=[]) hT
  (fun x=>by simp only[Zq141,mC,mB,mS,mO,mN];kernel_rfl)
end Zq141
def Zq142.B (list:List Inode_) (v:Int) (v2:Int):Option (Int⊕((Int⊕Unit))):=
 cond (decide (v2<v)) (cond (inB v2 list.length) ((Zq141 (list.getD v2.toNat zInode_)).bind fun r=>cond (r != 0) (some (.inr (.inl r))) (some (.inl (w64 (v2+1))))) none) (some (.inr (.inr ())))
def Zq142 (list:List Inode_) (v:Int):Int→Option ((Int⊕Unit)):=
 loopL fun s=>Zq142.B list v s
def Zq143 (list:List Inode_):Option Int:=
 cond (decide ((list.length:Int)>10)) (some 2) ((Zq142 list (list.length:Int) 0).bind fun o=>sel o (fun b=>some b) (fun c=>some 0))
namespace Zq143
def G:Gam:=mkG [(240,Zq141.FS)]
theorem Gok:GOk PR G:=.cons Zq141.ok .nil
end Zq143
namespace Zq142
def c:=codeAt (bodyOf Proofs.Tryz.f174) [1,1,0,1,0,0]
def sp:SP:=⟨[(9,.cs (.sl tInode_)),(10,.cs I64),(11,.cs I64)],[]⟩
def out (list:List Inode_) (v:Int):FOut ((Int⊕Unit)):=fun oo0 _ kk0=>sel oo0 (fun bb0=>kk0 (.rt) ⟨[(2,.cs I64 bb0)],[]⟩) (fun cc0=>kk0 (.ex 0) ⟨[],[]⟩)
def fr:=lfrag sp (fun x=>Zq142 x.1.1 x.1.2.1 x.1.2.2.1) fun x=>out x.1.1 x.1.2.1
theorem ok:CodeOk PR 21 1 (.loop c) fr:=
 lp_ok tbok hmix h0 .no (G:=Zq143.G) Zq143.Gok (L:=mkL []) (l:=[]) hT [9,10,11] [] [(0,([],[]))] ([2],[]) (fun x s=>B x.1.1 x.1.2.1 s) (fun x s=>⟨[(9,.cs (.sl tInode_) x.1.1),(10,.cs I64 x.1.2.1),(11,.cs I64 s)],[]⟩) (fun x=>x.1.2.2.1)
  (fun x s=>by simp only[B,mC,mB,mS,mO,mN];kernel_rfl)
end Zq142
namespace Zq143
def pts:List PT:=[.cs (.sl tInode_)]
def FS:FS:=mkFS [.sh] pts (fun x=>Zq143 x.1) fun t=>⟨[.cs I64 t],[]⟩
theorem ok:FsOk PR 174 FS:=
 fn_ok tbok hmix Proofs.Tryz.f174 h0 (.R (.R (.L (.R (.one (.fr 0)))))) (G:=G) Gok (L:=mkL [(0,Zq142.fr)]) (l:=[(0,.loop Zq142.c)]) ⟨Lam.cons Zq142.ok,trivial⟩
  (fun x=>by simp only[Zq143,mC,mB,mS,mO,mN];kernel_rfl)
end Zq143
def Zq144 (f:Fs_):Option Int:=
 (Zq143 f.1).bind fun r=>cond (r != 0) (some r) (cond (cond (!((f.1.length:Int) == 0)) (inB 0 f.1.length) true) ((some (cond ((f.1.length:Int) == 0) true ((f.1.getD (0:Int).toNat zInode_).1 != 2))).bind fun v=>cond (cond v true ((f.2.1.length:Int) != 20)) (some 1) (some 0)) none)
namespace Zq144
def G:Gam:=mkG [(174,Zq143.FS)]
def pts:List PT:=[.cs tFs_]
def FS:FS:=mkFS [.sh] pts (fun x=>Zq144 x.1) fun t=>⟨[.cs I64 t],[]⟩
theorem ok:FsOk PR 85 FS:=
 fn_ok tbok hmix Proofs.Tryz.f85 ⟨[1],[],[],0⟩ .no (G:=G) (show GOk PR G from .cons Zq143.ok .nil) (L:=mkL []) (l:=[]) hT
  (fun x=>by simp only[Zq144,mC,mB,mS,mO,mN];kernel_rfl)
end Zq144
def Zq145 (b:List Int):Option Bool:=
 some (decide ((b.length:Int)>8))
namespace Zq145
def pts:List PT:=[.cs SB]
def FS:FS:=mkFS [.sh] pts (fun x=>Zq145 x.1) fun t=>⟨[.cs .bool t],[]⟩
theorem ok:FsOk PR 229 FS:=
 fn_ok tbok hmix Proofs.Tryz.f229 h0 .no (G:=(mkG [])) .nil (L:=mkL []) (l:=[]) hT
  (fun x=>by simp only[Zq145,mC,mB,mS,mO,mN];kernel_rfl)
end Zq145
def Zq146.B (s_:List (List Int)) (f:Unit) (v:Int) (v2:Int):Option (Int⊕((Int⊕Unit))):=
 cond (decide (v2<v)) (cond (inB v2 s_.length) ((Zq145 (s_.getD v2.toNat [])).bind fun r=>cond r (some (.inr (.inl v2))) (some (.inl (w64 (v2+1))))) none) (some (.inr (.inr ())))
def Zq146 (s_:List (List Int)) (f:Unit) (v:Int):Int→Option ((Int⊕Unit)):=
 loopL fun s=>Zq146.B s_ f v s
def Zq147 (s_:List (List Int)) (f:Unit):Option Int:=
 (Zq146 s_ f (s_.length:Int) 0).bind fun o=>sel o (fun b=>some b) (fun c=>some (-1))
namespace Zq147
def G:Gam:=mkG [(229,Zq145.FS)]
theorem Gok:GOk PR G:=.cons Zq145.ok .nil
end Zq147
namespace Zq146
def c:=codeAt (bodyOf Proofs.Tryz.f260) [1,0,1,0,0]
def sp:SP:=⟨[(0,.cs (.sl SB)),(1,.clo 229 (.cs .unit)),(7,.cs I64),(8,.cs I64)],[]⟩
def out (s_:List (List Int)) (f:Unit) (v:Int):FOut ((Int⊕Unit)):=fun oo0 _ kk0=>sel oo0 (fun bb0=>kk0 (.rt) ⟨[(4,.cs I64 bb0)],[]⟩) (fun cc0=>kk0 (.ex 0) ⟨[],[]⟩)
def fr:=lfrag sp (fun x=>Zq146 x.1.1 x.1.2.1 x.1.2.2.1 x.1.2.2.2.1) fun x=>out x.1.1 x.1.2.1 x.1.2.2.1
theorem ok:CodeOk PR 19 2 (.loop c) fr:=
 lp_ok tbok hmix h0 .no (G:=Zq147.G) Zq147.Gok (L:=mkL []) (l:=[]) hT [0,1,7,8] [] [(0,([],[]))] ([4],[]) (fun x s=>B x.1.1 x.1.2.1 x.1.2.2.1 s) (fun x s=>⟨[(0,.cs (.sl SB) x.1.1),(1,.clo 229 (.cs .unit x.1.2.1)),(7,.cs I64 x.1.2.2.1),(8,.cs I64 s)],[]⟩) (fun x=>x.1.2.2.2.1)
  (fun x s=>by simp only[B,mC,mB,mS,mO,mN];kernel_rfl)
end Zq146
namespace Zq147
def pts:List PT:=[.cs (.sl SB),.clo 229 (.cs .unit)]
def FS:FS:=mkFS [.sh,.sh] pts (fun x=>Zq147 x.1 x.2.1) fun t=>⟨[.cs I64 t],[]⟩
theorem ok:FsOk PR 260 FS:=
 fn_ok tbok hmix Proofs.Tryz.f260 h0 (.R (.L (.R (.one (.fr 0))))) (G:=G) Gok (L:=mkL [(0,Zq146.fr)]) (l:=[(0,.loop Zq146.c)]) ⟨Lam.cons Zq146.ok,trivial⟩
  (fun x=>by simp only[Zq147,mC,mB,mS,mO,mN];kernel_rfl)
end Zq147
def Zq148 (s_:List (List Int)) (f:Unit):Option Bool:=
 (Zq147 s_ f).bind fun r=>some (decide (r≥0))
namespace Zq148
def G:Gam:=mkG [(260,Zq147.FS)]
def pts:List PT:=[.cs (.sl SB),.clo 229 (.cs .unit)]
def FS:FS:=mkFS [.sh,.sh] pts (fun x=>Zq148 x.1 x.2.1) fun t=>⟨[.cs .bool t],[]⟩
theorem ok:FsOk PR 228 FS:=
 fn_ok tbok hmix Proofs.Tryz.f228 h0 .no (G:=G) (show GOk PR G from .cons Zq147.ok .nil) (L:=mkL []) (l:=[]) hT
  (fun x=>by simp only[Zq148,mC,mB,mS,mO,mN];kernel_rfl)
end Zq148
noncomputable def Zq149 (s:List Int):Option (List Int):=sortP s
def Zq149.FS:FS:=mkFS [.mu] [.cl .deep (.sl (.int .i64))] (fun x=>Zq149 x.1) fun y=>⟨[],[.cl .deep (.sl (.int .i64)) y]⟩
theorem Zq149.ok:FsOk Go.Proofs.Tryz.prog 190 Zq149.FS:=
 sort_fs ⟨Go.Proofs.Tryz.f190,by kernel_rfl,by kernel_rfl,by kernel_rfl⟩ (fun blk off cap zs w h1 h2 h3=>Go.Proofs.AnyM.slices_Sort_int Go.Proofs.Tryz.sortLay blk off cap zs w h1 h2 h3) (fun p cap w=>Go.Proofs.AnyM.slices_Sort_int_none Go.Proofs.Tryz.sortLay p cap w)
noncomputable def Zq150 (s:List Int):Option (List Int):=cloneP s
noncomputable def Zq150.FS:FS:=mkFS [.sh] [.cl .sh (.sl (.int .i64))] (fun x=>Zq150 x.1) fun y=>⟨[.cl .deep (.sl (.int .i64)) y],[]⟩
theorem Zq150.ok:FsOk Go.Proofs.Tryz.prog 160 Zq150.FS:=
 clone_fs (hn:=⟨[],[],[],0⟩) tbok hmix (fn:=Go.Proofs.Tryz.f160) (by kernel_rfl) (body_some (by kernel_rfl)) (by kernel_rfl) (by kernel_rfl) .deep (.int .i64) 66 66 2 (by kernel_rfl) (by kernel_rfl) (by kernel_rfl) (by kernel_rfl) (by kernel_rfl) (by kernel_rfl) (by kernel_rfl) (by kernel_rfl) (fun xs=>by kernel_rfl) (fun xs=>by kernel_rfl) (fun xs=>by kernel_rfl) (fun xs=>by kernel_rfl)
def Zq151.B (s2_:Nat) (s2_2:Nat) (k_2:Int) (k2_:Int) (s_2:List Int):Option ((Int×Int×List Int)⊕(Int×List Int)):=
 cond (decide (k2_<(s2_2:Int))) (cond (inB k2_ s2_2) (cond (inB (w64 (k2_-1)) s2_2) ((some ((s_2.getD (s2_+k2_.toNat) 0) != (s_2.getD (s2_+(w64 (k2_-1)).toNat) 0))).bind fun v2=>cond v2 (cond (inB k2_ s2_2) (cond (inB k_2 s_2.length) (some (.inl (w64 (k_2+1),w64 (k2_+1),s_2.set k_2.toNat (s_2.getD (s2_+k2_.toNat) 0)))) none) none) (some (.inl (k_2,w64 (k2_+1),s_2)))) none) none) (some (.inr (k_2,s_2)))
def Zq151 (s2_:Nat) (s2_2:Nat):(Int×Int×List Int)→Option (Int×List Int):=
 loopL fun s=>Zq151.B s2_ s2_2 s.1 s.2.1 s.2.2
def Zq152.B (s_:List Int) (k_:Int):Option (Int⊕(((Nat×Nat×List Int)⊕Unit))):=
 cond (decide (k_<(s_.length:Int))) (cond (inB k_ s_.length) (cond (inB (w64 (k_-1)) s_.length) ((some ((s_.getD k_.toNat 0) == (s_.getD ((w64 (k_-1)).toNat) 0))).bind fun v=>cond v (cond (decide ((0:Int)≤k_)&&decide (k_≤(s_.length:Int))) ((Zq151 k_.toNat (s_.length-k_.toNat) (k_,1,s_)).bind fun o=>cond (decide ((0:Int)≤o.1)&&decide (o.1≤(o.2.length:Int))) ((some (splice o.2 o.1.toNat (List.replicate (o.2.length-o.1.toNat) 0))).bind fun s_3=>cond (decide ((0:Int)≤o.1)&&decide (o.1≤(s_3.length:Int))) (some (.inr (.inl (0,o.1.toNat-0,s_3)))) none) none) none) (some (.inl (w64 (k_+1))))) none) none) (some (.inr (.inr ())))
def Zq152 (s_:List Int):Int→Option (((Nat×Nat×List Int)⊕Unit)):=
 loopL fun s=>Zq152.B s_ s
def Zq153 (s_:List Int):Option (List Int):=
 cond (decide ((s_.length:Int)<2)) (some s_) ((Zq152 s_ 1).bind fun o2=>sel o2 (fun b=>some ((b.2.2.drop b.1).take b.2.1)) (fun c=>some s_))
namespace Zq151
def c:=codeAt (bodyOf Proofs.Tryz.f191) [1,1,0,1,0,0,1,0,0,1,0,1,0,1,0,0]
def sp:SP:=⟨[(0,.seg 0 []),(3,.cs I64),(4,.sub 0 []),(5,.cs I64)],[(0,.reg,.cd SI)]⟩
def out (s2_:Nat) (s2_2:Nat):FOut (Int×List Int):=fun bb0 _ kk0=>kk0 (.ex 2) ⟨[(0,.seg 0 []),(3,.cs I64 bb0.1)],[sr 0 (.cd SI bb0.2)]⟩
def fr:=lfrag sp (fun x=>Zq151 x.1.2.2.1.2.1 x.1.2.2.1.2.2 (x.1.2.1,x.1.2.2.2.1,x.2.1)) fun x=>out x.1.2.2.1.2.1 x.1.2.2.1.2.2
theorem ok:CodeOk PR 61 1 (.loop c) fr:=
 lp_ok tbok hmix h0 .no (G:=(mkG [])) .nil (L:=mkL []) (l:=[]) hT [0,3,4,5] [0] [(2,([0,3],[0]))] ([],[]) (fun x s=>B x.1.2.2.1.2.1 x.1.2.2.1.2.2 s.1 s.2.1 s.2.2) (fun x s=>⟨[(0,.seg 0 []),(3,.cs I64 s.1),(4,.sub 0 [] x.1.2.2.1.2.1 x.1.2.2.1.2.2),(5,.cs I64 s.2.1)],[sr 0 (.cd SI s.2.2)]⟩) (fun x=>(x.1.2.1,x.1.2.2.2.1,x.2.1))
  (fun x s=>by simp only[B,mC,mB,mS,mO,mN];kernel_rfl)
end Zq151
namespace Zq152
def c:=codeAt (bodyOf Proofs.Tryz.f191) [1,1,0,1,0,0]
def sp:SP:=⟨[(0,.seg 0 []),(3,.cs I64)],[(0,.reg,.cd SI)]⟩
def out (s_:List Int):FOut (((Nat×Nat×List Int)⊕Unit)):=fun oo0 _ kk0=>sel oo0 (fun bb0=>kk0 (.rt) ⟨[(2,.sub 0 [] bb0.1 bb0.2.1)],[sr 0 (.cd SI bb0.2.2)]⟩) (fun cc0=>kk0 (.ex 0) ⟨[(0,.seg 0 [])],[sr 0 (.cd SI s_)]⟩)
def fr:=lfrag sp (fun x=>Zq152 x.2.1 x.1.2.1) fun x=>out x.2.1
theorem ok:CodeOk PR 61 1 (.loop c) fr:=
 lp_ok tbok hmix h0 (.R (.L (.one (.R (.L (.R (.L (.R (.one (.fr 1)))))))))) (G:=(mkG [])) .nil (L:=mkL [(1,Zq151.fr)]) (l:=[(1,.loop Zq151.c)]) ⟨Lam.cons Zq151.ok,trivial⟩ [0,3] [0] [(0,([0],[0]))] ([2],[0]) (fun x s=>B x.2.1 s) (fun x s=>⟨[(0,.seg 0 []),(3,.cs I64 s)],[sr 0 (.cd SI x.2.1)]⟩) (fun x=>x.1.2.1)
  (fun x s=>by simp only[B,mC,mB,mS,mO,mN];kernel_rfl)
end Zq152
namespace Zq153
def pts:List PT:=[.cd SI]
def FS:FS:=mkFS [.mv] pts (fun x=>Zq153 x.1) fun t=>⟨[.cd SI t],[]⟩
theorem ok:FsOk PR 191 FS:=
 fn_ok tbok hmix Proofs.Tryz.f191 h0 (.R (.R (.L (.R (.one (.fr 0)))))) (G:=(mkG [])) .nil (L:=mkL [(1,Zq151.fr),(0,Zq152.fr)]) (l:=[(0,.loop Zq152.c)]) ⟨Lam.skip rfl (Lam.cons Zq152.ok),trivial⟩
  (fun x=>by simp only[Zq153,mC,mB,mS,mO,mN];kernel_rfl)
end Zq153
def Zq154.B (list:List Inode_) (v:Int) (v2:Int) (used_:List Int):Option ((Int×List Int)⊕(List Int)):=
 cond (decide (v2<v)) (cond (inB v2 list.length) ((some (used_++(list.getD v2.toNat zInode_).2.2.2.1)).bind fun v3=>cond (decide (v3.length≤2147483648)) (some (.inl (w64 (v2+1),v3))) none) none) (some (.inr used_))
def Zq154 (list:List Inode_) (v:Int):(Int×List Int)→Option (List Int):=
 loopL fun s=>Zq154.B list v s.1 s.2
def Zq155 (list:List Inode_):Option ((List Int)×Bool):=
 (Zq154 list (list.length:Int) (0,[])).bind fun o=>(Zq149 o).bind fun r=>(Zq150 r).bind fun r2=>(Zq153 r2).bind fun r3=>some (r,(r3.length:Int) == (r.length:Int))
namespace Zq155
def G:Gam:=mkG [(190,Zq149.FS),(160,Zq150.FS),(191,Zq153.FS)]
theorem Gok:GOk PR G:=.cons Zq149.ok (.cons Zq150.ok (.cons Zq153.ok .nil))
end Zq155
namespace Zq154
def c:=codeAt (bodyOf Proofs.Tryz.f102) [1,1,0,1,0,0]
def sp:SP:=⟨[(4,.seg 4 []),(7,.cs (.sl tInode_)),(8,.cs I64),(9,.cs I64)],[(4,.reg,.cd SI)]⟩
def out (list:List Inode_) (v:Int):FOut (List Int):=fun bb0 _ kk0=>kk0 (.ex 0) ⟨[(4,.seg 4 [])],[sr 4 (.cd SI bb0)]⟩
def fr:=lfrag sp (fun x=>Zq154 x.1.2.1 x.1.2.2.1 (x.1.2.2.2.1,x.2.1)) fun x=>out x.1.2.1 x.1.2.2.1
theorem ok:CodeOk PR 28 1 (.loop c) fr:=
 lp_ok tbok hmix h0 .no (G:=Zq155.G) Zq155.Gok (L:=mkL []) (l:=[]) hT [4,7,8,9] [4] [(0,([4],[4]))] ([],[]) (fun x s=>B x.1.2.1 x.1.2.2.1 s.1 s.2) (fun x s=>⟨[(4,.seg 4 []),(7,.cs (.sl tInode_) x.1.2.1),(8,.cs I64 x.1.2.2.1),(9,.cs I64 s.1)],[sr 4 (.cd SI s.2)]⟩) (fun x=>(x.1.2.2.2.1,x.2.1))
  (fun x s=>by simp only[B,mC,mB,mS,mO,mN];kernel_rfl)
end Zq154
namespace Zq155
def pts:List PT:=[.cs (.sl tInode_)]
def FS:FS:=mkFS [.sh] pts (fun x=>Zq155 x.1) fun t=>⟨[.cd SI t.1,.cs .bool t.2],[]⟩
theorem ok:FsOk PR 102 FS:=
 fn_ok tbok hmix Proofs.Tryz.f102 h0 (.R (.R (.L (.R (.one (.fr 0)))))) (G:=G) Gok (L:=mkL [(0,Zq154.fr)]) (l:=[(0,.loop Zq154.c)]) ⟨Lam.cons Zq154.ok,trivial⟩
  (fun x=>by simp only[Zq155,mC,mB,mS,mO,mN];kernel_rfl)
end Zq155
def Zq156 (l:List Inode_):Option Int:=
 some (l.length:Int)
namespace Zq156
def pts:List PT:=[.cs (.sl tInode_)]
def FS:FS:=mkFS [.sh] pts (fun x=>Zq156 x.1) fun t=>⟨[.cs I64 t],[]⟩
theorem ok:FsOk PR 188 FS:=
 fn_ok tbok hmix Proofs.Tryz.f188 h0 .no (G:=(mkG [])) .nil (L:=mkL []) (l:=[]) hT
  (fun x=>by simp only[Zq156,mC,mB,mS,mO,mN];kernel_rfl)
end Zq156
def Zq157.B (f:Fs_) (v:List Inode_) (v2:Int) (v3:Int) (v5:List Entry_) (v4:Int) (v6:Int):Option (Int⊕((Int⊕Unit))):=
 cond (decide (v6<v4)) (cond (inB v6 v5.length) ((Zq156 f.1).bind fun r4=>cond (cond (!(decide ((v5.getD v6.toNat zEntry_).2.1≥r4))) (inB (v5.getD v6.toNat zEntry_).2.1 f.1.length) true) ((some (cond (decide ((v5.getD v6.toNat zEntry_).2.1≥r4)) true ((f.1.getD (v5.getD v6.toNat zEntry_).2.1.toNat zInode_).1 == 0))).bind fun v7=>cond v7 (some (.inr (.inl 4))) (some (.inl (w64 (v6+1))))) none) none) (some (.inr (.inr ())))
def Zq157 (f:Fs_) (v:List Inode_) (v2:Int) (v3:Int) (v5:List Entry_) (v4:Int):Int→Option ((Int⊕Unit)):=
 loopL fun s=>Zq157.B f v v2 v3 v5 v4 s
def Zq158.B (f:Fs_) (v:List Inode_) (v2:Int) (v3:Int):Option (Int⊕((Int⊕Unit))):=
 cond (decide (v3<v2)) (cond (inB v3 v.length) ((some ((v.getD v3.toNat zInode_).2.2.2.2.1.length:Int)).bind fun v4=>(Zq157 f v v2 v3 (v.getD v3.toNat zInode_).2.2.2.2.1 v4 0).bind fun o=>sel o (fun b=>some (.inr (.inl b))) (fun c=>some (.inl (w64 (v3+1))))) none) (some (.inr (.inr ())))
def Zq158 (f:Fs_) (v:List Inode_) (v2:Int):Int→Option ((Int⊕Unit)):=
 loopL fun s=>Zq158.B f v v2 s
def Zq159 (f:Fs_):Option Int:=
 (Zq144 f).bind fun r=>cond (r != 0) (some r) ((Zq148 f.2.1 ()).bind fun r2=>cond r2 (some 2) ((Zq155 f.1).bind fun r3=>cond (!r3.2) (some 7) ((Zq158 f f.1 (f.1.length:Int) 0).bind fun o2=>sel o2 (fun b2=>some b2) (fun c2=>some 0))))
namespace Zq159
def G:Gam:=mkG [(85,Zq144.FS),(228,Zq148.FS),(102,Zq155.FS),(188,Zq156.FS)]
theorem Gok:GOk PR G:=.cons Zq144.ok (.cons Zq148.ok (.cons Zq155.ok (.cons Zq156.ok .nil)))
end Zq159
namespace Zq157
def c:=codeAt (bodyOf Proofs.Tryz.f156) [1,1,1,1,0,1,0,0,1,1,0,0,1,1,0,0]
def sp:SP:=⟨[(1,.pt tFs_),(27,.cs (.sl tInode_)),(28,.cs I64),(29,.cs I64),(34,.cs (.sl tEntry_)),(35,.cs I64),(36,.cs I64)],[]⟩
def out (f:Fs_) (v:List Inode_) (v2:Int) (v3:Int) (v5:List Entry_) (v4:Int):FOut ((Int⊕Unit)):=fun oo0 _ kk0=>sel oo0 (fun bb0=>kk0 (.rt) ⟨[(2,.cs I64 bb0)],[]⟩) (fun cc0=>kk0 (.ex 2) ⟨[(1,.pt tFs_ f),(27,.cs (.sl tInode_) v),(28,.cs I64 v2),(29,.cs I64 v3)],[]⟩)
def fr:=lfrag sp (fun x=>Zq157 x.1.1 x.1.2.1 x.1.2.2.1 x.1.2.2.2.1 x.1.2.2.2.2.1 x.1.2.2.2.2.2.1 x.1.2.2.2.2.2.2.1) fun x=>out x.1.1 x.1.2.1 x.1.2.2.1 x.1.2.2.2.1 x.1.2.2.2.2.1 x.1.2.2.2.2.2.1
theorem ok:CodeOk PR 58 1 (.loop c) fr:=
 lp_ok tbok hmix ⟨[1],[],[],0⟩ .no (G:=Zq159.G) Zq159.Gok (L:=mkL []) (l:=[]) hT [1,27,28,29,34,35,36] [] [(2,([1,27,28,29],[]))] ([2],[]) (fun x s=>B x.1.1 x.1.2.1 x.1.2.2.1 x.1.2.2.2.1 x.1.2.2.2.2.1 x.1.2.2.2.2.2.1 s) (fun x s=>⟨[(1,.pt tFs_ x.1.1),(27,.cs (.sl tInode_) x.1.2.1),(28,.cs I64 x.1.2.2.1),(29,.cs I64 x.1.2.2.2.1),(34,.cs (.sl tEntry_) x.1.2.2.2.2.1),(35,.cs I64 x.1.2.2.2.2.2.1),(36,.cs I64 s)],[]⟩) (fun x=>x.1.2.2.2.2.2.2.1)
  (fun x s=>by simp only[B,mC,mB,mS,mO,mN];kernel_rfl)
end Zq157
namespace Zq158
def c:=codeAt (bodyOf Proofs.Tryz.f156) [1,1,1,1,0,1,0,0]
def sp:SP:=⟨[(1,.pt tFs_),(27,.cs (.sl tInode_)),(28,.cs I64),(29,.cs I64)],[]⟩
def out (f:Fs_) (v:List Inode_) (v2:Int):FOut ((Int⊕Unit)):=fun oo0 _ kk0=>sel oo0 (fun bb0=>kk0 (.rt) ⟨[(2,.cs I64 bb0)],[]⟩) (fun cc0=>kk0 (.ex 0) ⟨[],[]⟩)
def fr:=lfrag sp (fun x=>Zq158 x.1.1 x.1.2.1 x.1.2.2.1 x.1.2.2.2.1) fun x=>out x.1.1 x.1.2.1 x.1.2.2.1
theorem ok:CodeOk PR 58 1 (.loop c) fr:=
 lp_ok tbok hmix ⟨[1],[],[],0⟩ (.R (.R (.L (.one (.R (.R (.one (.fr 1)))))))) (G:=Zq159.G) Zq159.Gok (L:=mkL [(1,Zq157.fr)]) (l:=[(1,.loop Zq157.c)]) ⟨Lam.cons Zq157.ok,trivial⟩ [1,27,28,29] [] [(0,([],[]))] ([2],[]) (fun x s=>B x.1.1 x.1.2.1 x.1.2.2.1 s) (fun x s=>⟨[(1,.pt tFs_ x.1.1),(27,.cs (.sl tInode_) x.1.2.1),(28,.cs I64 x.1.2.2.1),(29,.cs I64 s)],[]⟩) (fun x=>x.1.2.2.2.1)
  (fun x s=>by simp only[B,mC,mB,mS,mO,mN];kernel_rfl)
end Zq158
namespace Zq159
def pts:List PT:=[.cs tFs_]
def FS:FS:=mkFS [.sh] pts (fun x=>Zq159 x.1) fun t=>⟨[.cs I64 t],[]⟩
theorem ok:FsOk PR 156 FS:=
 fn_ok tbok hmix Proofs.Tryz.f156 ⟨[1],[],[],0⟩ (.R (.R (.R (.R (.L (.R (.one (.fr 0)))))))) (G:=G) Gok (L:=mkL [(1,Zq157.fr),(0,Zq158.fr)]) (l:=[(0,.loop Zq158.c)]) ⟨Lam.skip rfl (Lam.cons Zq158.ok),trivial⟩
  (fun x=>by simp only[Zq159,mC,mB,mS,mO,mN];kernel_rfl)
end Zq159
def Zq160.B (list:List Inode_) (v3:List Entry_) (v2:Int) (seen_2:List Bool) (v4:Int) (open_3:List Int):Option ((Int×List Int)⊕(List Int)):=
 cond (decide (v4<v2)) (cond (inB v4 v3.length) (cond (decide ((open_3++([(v3.getD v4.toNat zEntry_).2.1])).length≤2147483648)) (some (.inl (w64 (v4+1),open_3++([(v3.getD v4.toNat zEntry_).2.1])))) none) none) (some (.inr open_3))
def Zq160 (list:List Inode_) (v3:List Entry_) (v2:Int) (seen_2:List Bool):(Int×List Int)→Option (List Int):=
 loopL fun s=>Zq160.B list v3 v2 seen_2 s.1 s.2
def Zq161.B (list:List Inode_) (seen_:List Bool) (open_:List Int):Option (((List Bool)×List Int)⊕(List Bool)):=
 cond (decide ((open_.length:Int)>0)) (cond (inB (w64 ((open_.length:Int)-1)) open_.length) ((some (open_.getD ((w64 ((open_.length:Int)-1)).toNat) 0)).bind fun v=>cond (decide ((0:Int)≤(w64 ((open_.length:Int)-1)))&&decide ((w64 ((open_.length:Int)-1))≤(open_.length:Int))) ((some ((open_.drop 0).take (((w64 ((open_.length:Int)-1)).toNat)-0))).bind fun open_2=>cond (inB v seen_.length) (cond (seen_.getD v.toNat false) (some (.inl (seen_,open_2))) (cond (inB v seen_.length) (cond (inB v list.length) ((some ((list.getD v.toNat zInode_).2.2.2.2.1.length:Int)).bind fun v2=>(Zq160 list (list.getD v.toNat zInode_).2.2.2.2.1 v2 (seen_.set v.toNat true) (0,open_2)).bind fun o=>some (.inl (seen_.set v.toNat true,o))) none) none)) none) none) none) (some (.inr seen_))
def Zq161 (list:List Inode_):((List Bool)×List Int)→Option (List Bool):=
 loopL fun s=>Zq161.B list s.1 s.2
def Zq162.B (v5:Int) (o2:List Bool) (v6:Int) (out_:List Int):Option ((Int×List Int)⊕(List Int)):=
 cond (decide (v6<v5)) (cond (inB v6 o2.length) (cond (o2.getD v6.toNat false) (cond (decide ((out_++([v6])).length≤2147483648)) (some (.inl (w64 (v6+1),out_++([v6])))) none) (some (.inl (w64 (v6+1),out_)))) none) (some (.inr out_))
def Zq162 (v5:Int) (o2:List Bool):(Int×List Int)→Option (List Int):=
 loopL fun s=>Zq162.B v5 o2 s.1 s.2
def Zq163 (list:List Inode_) (from_:Int):Option (List Int):=
 cond (decide ((0:Int)≤(list.length:Int))&&(decide ((list.length:Int)≤(list.length:Int))&&decide ((list.length:Int)≤2147483648))) ((Zq161 list (List.replicate (list.length:Int).toNat false,[from_])).bind fun o2=>(Zq162 (o2.length:Int) o2 (0,[])).bind fun o3=>some o3) none
namespace Zq160
def c:=codeAt (bodyOf Proofs.Tryz.f230) [1,1,1,0,0,0,1,0,1,1,1,1,1,0,0]
def sp:SP:=⟨[(0,.cs (.sl tInode_)),(5,.seg 5 []),(6,.seg 6 []),(43,.cs (.sl tEntry_)),(44,.cs I64),(45,.cs I64)],[(5,.reg,.cd (.sl .bool)),(6,.reg,.cd SI)]⟩
def out (list:List Inode_) (v3:List Entry_) (v2:Int) (seen_2:List Bool):FOut (List Int):=fun bb0 _ kk0=>kk0 (.ex 2) ⟨[(0,.cs (.sl tInode_) list),(5,.seg 5 []),(6,.seg 6 [])],[sr 5 (.cd (.sl .bool) seen_2),sr 6 (.cd SI bb0)]⟩
def fr:=lfrag sp (fun x=>Zq160 x.1.1 x.1.2.2.2.1 x.1.2.2.2.2.1 x.2.1 (x.1.2.2.2.2.2.1,x.2.2.1)) fun x=>out x.1.1 x.1.2.2.2.1 x.1.2.2.2.2.1 x.2.1
theorem ok:CodeOk PR 69 2 (.loop c) fr:=
 lp_ok tbok hmix h0 .no (G:=(mkG [])) .nil (L:=mkL []) (l:=[]) hT [0,5,6,43,44,45] [5,6] [(2,([0,5,6],[5,6]))] ([],[]) (fun x s=>B x.1.1 x.1.2.2.2.1 x.1.2.2.2.2.1 x.2.1 s.1 s.2) (fun x s=>⟨[(0,.cs (.sl tInode_) x.1.1),(5,.seg 5 []),(6,.seg 6 []),(43,.cs (.sl tEntry_) x.1.2.2.2.1),(44,.cs I64 x.1.2.2.2.2.1),(45,.cs I64 s.1)],[sr 5 (.cd (.sl .bool) x.2.1),sr 6 (.cd SI s.2)]⟩) (fun x=>(x.1.2.2.2.2.2.1,x.2.2.1))
  (fun x s=>by simp only[B,mC,mB,mS,mO,mN];kernel_rfl)
end Zq160
namespace Zq161
def c:=codeAt (bodyOf Proofs.Tryz.f230) [1,1,1,0,0,0]
def sp:SP:=⟨[(0,.cs (.sl tInode_)),(5,.seg 5 []),(6,.seg 6 [])],[(5,.reg,.cd (.sl .bool)),(6,.reg,.cd SI)]⟩
def out (list:List Inode_):FOut (List Bool):=fun bb0 _ kk0=>kk0 (.ex 0) ⟨[(5,.seg 5 [])],[sr 5 (.cd (.sl .bool) bb0)]⟩
def fr:=lfrag sp (fun x=>Zq161 x.1.1 (x.2.1,x.2.2.1)) fun x=>out x.1.1
theorem ok:CodeOk PR 69 2 (.loop c) fr:=
 lp_ok tbok hmix h0 (.R (.one (.R (.R (.R (.R (.R (.one (.fr 1))))))))) (G:=(mkG [])) .nil (L:=mkL [(1,Zq160.fr)]) (l:=[(1,.loop Zq160.c)]) ⟨Lam.cons Zq160.ok,trivial⟩ [0,5,6] [5,6] [(0,([5],[5]))] ([],[]) (fun x s=>B x.1.1 s.1 s.2) (fun x s=>⟨[(0,.cs (.sl tInode_) x.1.1),(5,.seg 5 []),(6,.seg 6 [])],[sr 5 (.cd (.sl .bool) s.1),sr 6 (.cd SI s.2)]⟩) (fun x=>(x.2.1,x.2.2.1))
  (fun x s=>by simp only[B,mC,mB,mS,mO,mN];kernel_rfl)
end Zq161
namespace Zq162
def c:=codeAt (bodyOf Proofs.Tryz.f230) [1,1,1,1,1,0,1,0,0]
def sp:SP:=⟨[(10,.seg 10 []),(55,.seg 5 []),(56,.cs I64),(57,.cs I64)],[(5,.reg,.cd (.sl .bool)),(10,.reg,.cd SI)]⟩
def out (v5:Int) (o2:List Bool):FOut (List Int):=fun bb0 _ kk0=>kk0 (.ex 4) ⟨[(10,.seg 10 [])],[sr 10 (.cd SI bb0)]⟩
def fr:=lfrag sp (fun x=>Zq162 x.1.2.2.1 x.2.1 (x.1.2.2.2.1,x.2.2.1)) fun x=>out x.1.2.2.1 x.2.1
theorem ok:CodeOk PR 69 2 (.loop c) fr:=
 lp_ok tbok hmix h0 .no (G:=(mkG [])) .nil (L:=mkL []) (l:=[]) hT [10,55,56,57] [5,10] [(4,([10],[10]))] ([],[]) (fun x s=>B x.1.2.2.1 x.2.1 s.1 s.2) (fun x s=>⟨[(10,.seg 10 []),(55,.seg 5 []),(56,.cs I64 x.1.2.2.1),(57,.cs I64 s.1)],[sr 5 (.cd (.sl .bool) x.2.1),sr 10 (.cd SI s.2)]⟩) (fun x=>(x.1.2.2.2.1,x.2.2.1))
  (fun x s=>by simp only[B,mC,mB,mS,mO,mN];kernel_rfl)
end Zq162
namespace Zq163
def pts:List PT:=[.cs (.sl tInode_),.cs I64]
def FS:FS:=mkFS [.sh,.sh] pts (fun x=>Zq163 x.1 x.2.1) fun t=>⟨[.cd SI t],[]⟩
theorem ok:FsOk PR 230 FS:=
 fn_ok tbok hmix Proofs.Tryz.f230 h0 (.R (.R (.R (.two (.one (.fr 0)) (.R (.L (.R (.one (.fr 2))))))))) (G:=(mkG [])) .nil (L:=mkL [(1,Zq160.fr),(0,Zq161.fr),(2,Zq162.fr)]) (l:=[(0,.loop Zq161.c),(2,.loop Zq162.c)]) ⟨Lam.skip rfl (Lam.cons Zq161.ok),Lam.skip rfl (Lam.skip rfl (Lam.cons Zq162.ok)),trivial⟩
  (fun x=>by simp only[Zq163,mC,mB,mS,mO,mN];kernel_rfl)
end Zq163
def Zq164.B (at_:Int) (list:List Inode_) (v:Int) (v2:Int) (v4:List Entry_) (v3:Int) (count_2:Int) (v5:Int):Option ((Int×Int)⊕Int):=
 cond (decide (v5<v3)) (cond (inB v5 v4.length) (cond ((v4.getD v5.toNat zEntry_).2.1 == at_) (some (.inl (w64 (count_2+1),w64 (v5+1)))) (some (.inl (count_2,w64 (v5+1))))) none) (some (.inr count_2))
def Zq164 (at_:Int) (list:List Inode_) (v:Int) (v2:Int) (v4:List Entry_) (v3:Int):(Int×Int)→Option Int:=
 loopL fun s=>Zq164.B at_ list v v2 v4 v3 s.1 s.2
def Zq165.B (at_:Int) (list:List Inode_) (v:Int) (count_:Int) (v2:Int):Option ((Int×Int)⊕Int):=
 cond (decide (v2<v)) (cond (inB v2 list.length) ((some ((list.getD v2.toNat zInode_).2.2.2.2.1.length:Int)).bind fun v3=>(Zq164 at_ list v v2 (list.getD v2.toNat zInode_).2.2.2.2.1 v3 (count_,0)).bind fun o=>some (.inl (o,w64 (v2+1)))) none) (some (.inr count_))
def Zq165 (at_:Int) (list:List Inode_) (v:Int):(Int×Int)→Option Int:=
 loopL fun s=>Zq165.B at_ list v s.1 s.2
def Zq166 (list:List Inode_) (at_:Int):Option Int:=
 (Zq165 at_ list (list.length:Int) (0,0)).bind fun o2=>some o2
namespace Zq164
def c:=codeAt (bodyOf Proofs.Tryz.f231) [1,1,0,1,0,0,1,1,0,0,1,1,0,0]
def sp:SP:=⟨[(1,.cs I64),(5,.cs I64),(10,.cs (.sl tInode_)),(11,.cs I64),(12,.cs I64),(17,.cs (.sl tEntry_)),(18,.cs I64),(19,.cs I64)],[]⟩
def out (at_:Int) (list:List Inode_) (v:Int) (v2:Int) (v4:List Entry_) (v3:Int):FOut Int:=fun bb0 _ kk0=>kk0 (.ex 2) ⟨[(1,.cs I64 at_),(5,.cs I64 bb0),(10,.cs (.sl tInode_) list),(11,.cs I64 v),(12,.cs I64 v2)],[]⟩
def fr:=lfrag sp (fun x=>Zq164 x.1.1 x.1.2.2.1 x.1.2.2.2.1 x.1.2.2.2.2.1 x.1.2.2.2.2.2.1 x.1.2.2.2.2.2.2.1 (x.1.2.1,x.1.2.2.2.2.2.2.2.1)) fun x=>out x.1.1 x.1.2.2.1 x.1.2.2.2.1 x.1.2.2.2.2.1 x.1.2.2.2.2.2.1 x.1.2.2.2.2.2.2.1
theorem ok:CodeOk PR 32 2 (.loop c) fr:=
 lp_ok tbok hmix h0 .no (G:=(mkG [])) .nil (L:=mkL []) (l:=[]) hT [1,5,10,11,12,17,18,19] [] [(2,([1,5,10,11,12],[]))] ([],[]) (fun x s=>B x.1.1 x.1.2.2.1 x.1.2.2.2.1 x.1.2.2.2.2.1 x.1.2.2.2.2.2.1 x.1.2.2.2.2.2.2.1 s.1 s.2) (fun x s=>⟨[(1,.cs I64 x.1.1),(5,.cs I64 s.1),(10,.cs (.sl tInode_) x.1.2.2.1),(11,.cs I64 x.1.2.2.2.1),(12,.cs I64 x.1.2.2.2.2.1),(17,.cs (.sl tEntry_) x.1.2.2.2.2.2.1),(18,.cs I64 x.1.2.2.2.2.2.2.1),(19,.cs I64 s.2)],[]⟩) (fun x=>(x.1.2.1,x.1.2.2.2.2.2.2.2.1))
  (fun x s=>by simp only[B,mC,mB,mS,mO,mN];kernel_rfl)
end Zq164
namespace Zq165
def c:=codeAt (bodyOf Proofs.Tryz.f231) [1,1,0,1,0,0]
def sp:SP:=⟨[(1,.cs I64),(5,.cs I64),(10,.cs (.sl tInode_)),(11,.cs I64),(12,.cs I64)],[]⟩
def out (at_:Int) (list:List Inode_) (v:Int):FOut Int:=fun bb0 _ kk0=>kk0 (.ex 0) ⟨[(5,.cs I64 bb0)],[]⟩
def fr:=lfrag sp (fun x=>Zq165 x.1.1 x.1.2.2.1 x.1.2.2.2.1 (x.1.2.1,x.1.2.2.2.2.1)) fun x=>out x.1.1 x.1.2.2.1 x.1.2.2.2.1
theorem ok:CodeOk PR 32 2 (.loop c) fr:=
 lp_ok tbok hmix h0 (.R (.R (.L (.one (.R (.R (.one (.fr 1)))))))) (G:=(mkG [])) .nil (L:=mkL [(1,Zq164.fr)]) (l:=[(1,.loop Zq164.c)]) ⟨Lam.cons Zq164.ok,trivial⟩ [1,5,10,11,12] [] [(0,([5],[]))] ([],[]) (fun x s=>B x.1.1 x.1.2.2.1 x.1.2.2.2.1 s.1 s.2) (fun x s=>⟨[(1,.cs I64 x.1.1),(5,.cs I64 s.1),(10,.cs (.sl tInode_) x.1.2.2.1),(11,.cs I64 x.1.2.2.2.1),(12,.cs I64 s.2)],[]⟩) (fun x=>(x.1.2.1,x.1.2.2.2.2.1))
  (fun x s=>by simp only[B,mC,mB,mS,mO,mN];kernel_rfl)
end Zq165
namespace Zq166
def pts:List PT:=[.cs (.sl tInode_),.cs I64]
def FS:FS:=mkFS [.sh,.sh] pts (fun x=>Zq166 x.1 x.2.1) fun t=>⟨[.cs I64 t],[]⟩
theorem ok:FsOk PR 231 FS:=
 fn_ok tbok hmix Proofs.Tryz.f231 h0 (.R (.R (.L (.R (.one (.fr 0)))))) (G:=(mkG [])) .nil (L:=mkL [(1,Zq164.fr),(0,Zq165.fr)]) (l:=[(0,.loop Zq165.c)]) ⟨Lam.skip rfl (Lam.cons Zq165.ok),trivial⟩
  (fun x=>by simp only[Zq166,mC,mB,mS,mO,mN];kernel_rfl)
end Zq166
def Zq167.B (f:Fs_) (v:List Inode_) (v2:Int) (r:List Int) (v3:Int):Option (Int⊕((Int⊕Unit))):=
 cond (decide (v3<v2)) (cond (inB v3 v.length) ((Zq166 f.1 v3).bind fun r2=>(some (cond ((v.getD v3.toNat zInode_).1 == 1) ((v.getD v3.toNat zInode_).2.1 != r2) false)).bind fun v4=>cond v4 (some (.inr (.inl 1))) ((some (cond ((v.getD v3.toNat zInode_).1 == 2) (v3 == 0) false)).bind fun v5=>cond (cond v5 (r2 != 0) false) (some (.inr (.inl 1))) ((some (cond ((v.getD v3.toNat zInode_).1 == 2) (decide (v3>0)) false)).bind fun v6=>cond (cond v6 (r2 != 1) false) (some (.inr (.inl 1))) (cond ((v.getD v3.toNat zInode_).1 != 0) ((Zq134 r v3).bind fun r3=>cond (!r3) (some (.inr (.inl 1))) (some (.inl (w64 (v3+1))))) (some (.inl (w64 (v3+1)))))))) none) (some (.inr (.inr ())))
def Zq167 (f:Fs_) (v:List Inode_) (v2:Int) (r:List Int):Int→Option ((Int⊕Unit)):=
 loopL fun s=>Zq167.B f v v2 r s
def Zq168 (f:Fs_):Option Int:=
 (Zq163 f.1 0).bind fun r=>(Zq167 f f.1 (f.1.length:Int) r 0).bind fun o=>sel o (fun b=>some b) (fun c=>some 0)
namespace Zq168
def G:Gam:=mkG [(230,Zq163.FS),(231,Zq166.FS),(135,Zq134.FS)]
theorem Gok:GOk PR G:=.cons Zq163.ok (.cons Zq166.ok (.cons Zq134.ok .nil))
end Zq168
namespace Zq167
def c:=codeAt (bodyOf Proofs.Tryz.f157) [1,1,0,1,0,0]
def sp:SP:=⟨[(1,.pt tFs_),(3,.seg 3 []),(12,.cs (.sl tInode_)),(13,.cs I64),(14,.cs I64)],[(3,.reg,.cd SI)]⟩
def out (f:Fs_) (v:List Inode_) (v2:Int) (r:List Int):FOut ((Int⊕Unit)):=fun oo0 _ kk0=>sel oo0 (fun bb0=>kk0 (.rt) ⟨[(2,.cs I64 bb0)],[]⟩) (fun cc0=>kk0 (.ex 0) ⟨[],[]⟩)
def fr:=lfrag sp (fun x=>Zq167 x.1.1 x.1.2.2.1 x.1.2.2.2.1 x.2.1 x.1.2.2.2.2.1) fun x=>out x.1.1 x.1.2.2.1 x.1.2.2.2.1 x.2.1
theorem ok:CodeOk PR 66 1 (.loop c) fr:=
 lp_ok tbok hmix ⟨[1],[],[],0⟩ .no (G:=Zq168.G) Zq168.Gok (L:=mkL []) (l:=[]) hT [1,3,12,13,14] [3] [(0,([],[]))] ([2],[]) (fun x s=>B x.1.1 x.1.2.2.1 x.1.2.2.2.1 x.2.1 s) (fun x s=>⟨[(1,.pt tFs_ x.1.1),(3,.seg 3 []),(12,.cs (.sl tInode_) x.1.2.2.1),(13,.cs I64 x.1.2.2.2.1),(14,.cs I64 s)],[sr 3 (.cd SI x.2.1)]⟩) (fun x=>x.1.2.2.2.2.1)
  (fun x s=>by simp only[B,mC,mB,mS,mO,mN];kernel_rfl)
end Zq167
namespace Zq168
def pts:List PT:=[.cs tFs_]
def FS:FS:=mkFS [.sh] pts (fun x=>Zq168 x.1) fun t=>⟨[.cs I64 t],[]⟩
theorem ok:FsOk PR 157 FS:=
 fn_ok tbok hmix Proofs.Tryz.f157 ⟨[1],[],[],0⟩ (.R (.R (.L (.R (.one (.fr 0)))))) (G:=G) Gok (L:=mkL [(0,Zq167.fr)]) (l:=[(0,.loop Zq167.c)]) ⟨Lam.cons Zq167.ok,trivial⟩
  (fun x=>by simp only[Zq168,mC,mB,mS,mO,mN];kernel_rfl)
end Zq168
def Zq169.B (list:List Inode_) (v:Int) (v2:Int) (v5:List Int) (v4:Int) (v3:List Int) (x_:Inode_) (v6:Int) (out_2:List Int):Option ((Int×List Int)⊕(List Int)):=
 cond (decide (v6<v4)) (cond (inB v6 v5.length) ((some (cond (decide ((w64 (x_.2.2.1-(w64 (v6*8))))<8)) (w64 (x_.2.2.1-(w64 (v6*8)))) 8)).bind fun v7=>cond (inB (v5.getD v6.toNat 0) 20) (some (.inl (w64 (v6+1),out_2.set ((v5.getD v6.toNat 0).toNat) v7))) none) none) (some (.inr out_2))
def Zq169 (list:List Inode_) (v:Int) (v2:Int) (v5:List Int) (v4:Int) (v3:List Int) (x_:Inode_):(Int×List Int)→Option (List Int):=
 loopL fun s=>Zq169.B list v v2 v5 v4 v3 x_ s.1 s.2
def Zq170.B (list:List Inode_) (v:Int) (v3:List Int) (v2:Int) (out_:List Int):Option ((Int×List Int)⊕(List Int)):=
 cond (decide (v2<v)) (cond (inB v2 list.length) ((some ((list.getD v2.toNat zInode_).2.2.2.1.length:Int)).bind fun v4=>(Zq169 list v v2 (list.getD v2.toNat zInode_).2.2.2.1 v4 v3 (list.getD v2.toNat zInode_) (0,out_)).bind fun o=>some (.inl (w64 (v2+1),o))) none) (some (.inr out_))
def Zq170 (list:List Inode_) (v:Int) (v3:List Int):(Int×List Int)→Option (List Int):=
 loopL fun s=>Zq170.B list v v3 s.1 s.2
def Zq171 (list:List Inode_):Option (List Int):=
 (Zq170 list (list.length:Int) (List.replicate 20 0) (0,(List.replicate 20 0))).bind fun o2=>some o2
namespace Zq169
def c:=codeAt (bodyOf Proofs.Tryz.f177) [1,1,0,1,0,0,1,1,0,0,1,1,0,0]
def sp:SP:=⟨[(2,.loc 2 []),(3,.loc 3 []),(5,.loc 5 []),(8,.cs (.sl tInode_)),(9,.cs I64),(10,.cs I64),(15,.cs SI),(16,.cs I64),(17,.cs I64)],[(2,.mem,.cd (.arr 20 I64)),(3,.mem,.cd (.arr 20 I64)),(5,.mem,.cs tInode_)]⟩
def out (list:List Inode_) (v:Int) (v2:Int) (v5:List Int) (v4:Int) (v3:List Int) (x_:Inode_):FOut (List Int):=fun bb0 _ kk0=>kk0 (.ex 2) ⟨[(2,.loc 2 []),(3,.loc 3 []),(8,.cs (.sl tInode_) list),(9,.cs I64 v),(10,.cs I64 v2)],[(2,some ⟨.mem,.cd (.arr 20 I64) v3⟩),(3,some ⟨.mem,.cd (.arr 20 I64) bb0⟩)]⟩
def fr:=lfrag sp (fun x=>Zq169 x.1.2.2.2.1 x.1.2.2.2.2.1 x.1.2.2.2.2.2.1 x.1.2.2.2.2.2.2.1 x.1.2.2.2.2.2.2.2.1 x.2.1 x.2.2.2.1 (x.1.2.2.2.2.2.2.2.2.1,x.2.2.1)) fun x=>out x.1.2.2.2.1 x.1.2.2.2.2.1 x.1.2.2.2.2.2.1 x.1.2.2.2.2.2.2.1 x.1.2.2.2.2.2.2.2.1 x.2.1 x.2.2.2.1
theorem ok:CodeOk PR 33 1 (.loop c) fr:=
 lp_ok tbok hmix h0 .no (G:=(mkG [])) .nil (L:=mkL []) (l:=[]) hT [2,3,5,8,9,10,15,16,17] [2,3,5] [(2,([2,3,8,9,10],[2,3]))] ([],[]) (fun x s=>B x.1.2.2.2.1 x.1.2.2.2.2.1 x.1.2.2.2.2.2.1 x.1.2.2.2.2.2.2.1 x.1.2.2.2.2.2.2.2.1 x.2.1 x.2.2.2.1 s.1 s.2) (fun x s=>⟨[(2,.loc 2 []),(3,.loc 3 []),(5,.loc 5 []),(8,.cs (.sl tInode_) x.1.2.2.2.1),(9,.cs I64 x.1.2.2.2.2.1),(10,.cs I64 x.1.2.2.2.2.2.1),(15,.cs SI x.1.2.2.2.2.2.2.1),(16,.cs I64 x.1.2.2.2.2.2.2.2.1),(17,.cs I64 s.1)],[(2,some ⟨.mem,.cd (.arr 20 I64) x.2.1⟩),(3,some ⟨.mem,.cd (.arr 20 I64) s.2⟩),(5,some ⟨.mem,.cs tInode_ x.2.2.2.1⟩)]⟩) (fun x=>(x.1.2.2.2.2.2.2.2.2.1,x.2.2.1))
  (fun x s=>by simp only[B,mC,mB,mS,mO,mN];kernel_rfl)
end Zq169
namespace Zq170
def c:=codeAt (bodyOf Proofs.Tryz.f177) [1,1,0,1,0,0]
def sp:SP:=⟨[(2,.loc 2 []),(3,.loc 3 []),(8,.cs (.sl tInode_)),(9,.cs I64),(10,.cs I64)],[(2,.mem,.cd (.arr 20 I64)),(3,.mem,.cd (.arr 20 I64))]⟩
def out (list:List Inode_) (v:Int) (v3:List Int):FOut (List Int):=fun bb0 _ kk0=>kk0 (.ex 0) ⟨[(2,.loc 2 []),(3,.loc 3 [])],[(2,some ⟨.mem,.cd (.arr 20 I64) v3⟩),(3,some ⟨.mem,.cd (.arr 20 I64) bb0⟩)]⟩
def fr:=lfrag sp (fun x=>Zq170 x.1.2.2.1 x.1.2.2.2.1 x.2.1 (x.1.2.2.2.2.1,x.2.2.1)) fun x=>out x.1.2.2.1 x.1.2.2.2.1 x.2.1
theorem ok:CodeOk PR 33 1 (.loop c) fr:=
 lp_ok tbok hmix h0 (.R (.R (.L (.one (.R (.R (.one (.fr 1)))))))) (G:=(mkG [])) .nil (L:=mkL [(1,Zq169.fr)]) (l:=[(1,.loop Zq169.c)]) ⟨Lam.cons Zq169.ok,trivial⟩ [2,3,8,9,10] [2,3] [(0,([2,3],[2,3]))] ([],[]) (fun x s=>B x.1.2.2.1 x.1.2.2.2.1 x.2.1 s.1 s.2) (fun x s=>⟨[(2,.loc 2 []),(3,.loc 3 []),(8,.cs (.sl tInode_) x.1.2.2.1),(9,.cs I64 x.1.2.2.2.1),(10,.cs I64 s.1)],[(2,some ⟨.mem,.cd (.arr 20 I64) x.2.1⟩),(3,some ⟨.mem,.cd (.arr 20 I64) s.2⟩)]⟩) (fun x=>(x.1.2.2.2.2.1,x.2.2.1))
  (fun x s=>by simp only[B,mC,mB,mS,mO,mN];kernel_rfl)
end Zq170
namespace Zq171
def pts:List PT:=[.cs (.sl tInode_)]
def FS:FS:=mkFS [.sh] pts (fun x=>Zq171 x.1) fun t=>⟨[.cs (.arr 20 I64) t],[]⟩
theorem ok:FsOk PR 177 FS:=
 fn_ok tbok hmix Proofs.Tryz.f177 h0 (.R (.R (.L (.R (.one (.fr 0)))))) (G:=(mkG [])) .nil (L:=mkL [(1,Zq169.fr),(0,Zq170.fr)]) (l:=[(0,.loop Zq170.c)]) ⟨Lam.skip rfl (Lam.cons Zq170.ok),trivial⟩
  (fun x=>by simp only[Zq171,mC,mB,mS,mO,mN];kernel_rfl)
end Zq171
def Zq172 (l:List Int):Option Int:=
 some (l.length:Int)
namespace Zq172
def pts:List PT:=[.cs SB]
def FS:FS:=mkFS [.sh] pts (fun x=>Zq172 x.1) fun t=>⟨[.cs I64 t],[]⟩
theorem ok:FsOk PR 180 FS:=
 fn_ok tbok hmix Proofs.Tryz.f180 h0 .no (G:=(mkG [])) .nil (L:=mkL []) (l:=[]) hT
  (fun x=>by simp only[Zq172,mC,mB,mS,mO,mN];kernel_rfl)
end Zq172
def Zq173.B (f:Fs_) (r:List Int) (v:Int):Option (Int⊕((Int⊕Unit))):=
 cond (decide (v<20)) (cond (inB v 20) (cond (inB v f.2.1.length) ((Zq172 (f.2.1.getD v.toNat [])).bind fun r2=>cond (r2 != (r.getD v.toNat 0)) (some (.inr (.inl 1))) (some (.inl (w64 (v+1))))) none) none) (some (.inr (.inr ())))
def Zq173 (f:Fs_) (r:List Int):Int→Option ((Int⊕Unit)):=
 loopL fun s=>Zq173.B f r s
def Zq174 (f:Fs_):Option Int:=
 (Zq171 f.1).bind fun r=>(Zq173 f r 0).bind fun o=>sel o (fun b=>some b) (fun c=>some 0)
namespace Zq174
def G:Gam:=mkG [(177,Zq171.FS),(180,Zq172.FS)]
theorem Gok:GOk PR G:=.cons Zq171.ok (.cons Zq172.ok .nil)
end Zq174
namespace Zq173
def c:=codeAt (bodyOf Proofs.Tryz.f158) [1,0,1,0,0]
def sp:SP:=⟨[(1,.pt tFs_),(7,.cs (.arr 20 I64)),(8,.cs I64)],[]⟩
def out (f:Fs_) (r:List Int):FOut ((Int⊕Unit)):=fun oo0 _ kk0=>sel oo0 (fun bb0=>kk0 (.rt) ⟨[(2,.cs I64 bb0)],[]⟩) (fun cc0=>kk0 (.ex 0) ⟨[],[]⟩)
def fr:=lfrag sp (fun x=>Zq173 x.1.1 x.1.2.1 x.1.2.2.1) fun x=>out x.1.1 x.1.2.1
theorem ok:CodeOk PR 21 1 (.loop c) fr:=
 lp_ok tbok hmix ⟨[1],[],[],0⟩ .no (G:=Zq174.G) Zq174.Gok (L:=mkL []) (l:=[]) hT [1,7,8] [] [(0,([],[]))] ([2],[]) (fun x s=>B x.1.1 x.1.2.1 s) (fun x s=>⟨[(1,.pt tFs_ x.1.1),(7,.cs (.arr 20 I64) x.1.2.1),(8,.cs I64 s)],[]⟩) (fun x=>x.1.2.2.1)
  (fun x s=>by simp only[B,mC,mB,mS,mO,mN];kernel_rfl)
end Zq173
namespace Zq174
def pts:List PT:=[.cs tFs_]
def FS:FS:=mkFS [.sh] pts (fun x=>Zq174 x.1) fun t=>⟨[.cs I64 t],[]⟩
theorem ok:FsOk PR 158 FS:=
 fn_ok tbok hmix Proofs.Tryz.f158 ⟨[1],[],[],0⟩ (.R (.L (.R (.one (.fr 0))))) (G:=G) Gok (L:=mkL [(0,Zq173.fr)]) (l:=[(0,.loop Zq173.c)]) ⟨Lam.cons Zq173.ok,trivial⟩
  (fun x=>by simp only[Zq174,mC,mB,mS,mO,mN];kernel_rfl)
end Zq174
def Zq175 (f:Fs_):Option Int:=
 (Zq159 f).bind fun r=>cond (r != 0) (some r) ((Zq168 f).bind fun r2=>cond (r2 != 0) (some r2) ((Zq174 f).bind fun r3=>some r3))
namespace Zq175
def G:Gam:=mkG [(156,Zq159.FS),(157,Zq168.FS),(158,Zq174.FS)]
def pts:List PT:=[.cs tFs_]
def FS:FS:=mkFS [.sh] pts (fun x=>Zq175 x.1) fun t=>⟨[.cs I64 t],[]⟩
theorem ok:FsOk PR 70 FS:=
 fn_ok tbok hmix Proofs.Tryz.f70 ⟨[1],[],[],0⟩ .no (G:=G) (show GOk PR G from .cons Zq159.ok (.cons Zq168.ok (.cons Zq174.ok .nil))) (L:=mkL []) (l:=[]) hT
  (fun x=>by simp only[Zq175,mC,mB,mS,mO,mN];kernel_rfl)
end Zq175
def Zq176.B (words_:List Int) (v5:Int) (v7:List Int) (v8:Int) (v9:Int) (v10:List Int) (r2:Int) (v11:Int) (v4:Bool) (v12:List Int) (v6:Int) (v3:Inode_) (x_:Inode_) (v13:Int) (e_:Entry_):Option ((Int×Entry_)⊕(((Bool×Inode_)⊕Entry_))):=
 cond (decide (v13<v6)) (cond (inB v13 v12.length) (cond (decide ((v12.getD v13.toNat 0)>255)) (some (.inr (.inl (false,(0,0,0,[],[],()))))) ((some (([IntKind.u8.wrap (v12.getD v13.toNat 0)]).map fun n=>UInt8.ofNat n.toNat)).bind fun v14=>cond (decide (e_.1.length+v14.length≤2147483648)) (some (.inl (w64 (v13+1),(e_.1++v14,e_.2)))) none)) none) (some (.inr (.inr e_)))
def Zq176 (words_:List Int) (v5:Int) (v7:List Int) (v8:Int) (v9:Int) (v10:List Int) (r2:Int) (v11:Int) (v4:Bool) (v12:List Int) (v6:Int) (v3:Inode_) (x_:Inode_):(Int×Entry_)→Option (((Bool×Inode_)⊕Entry_)):=
 loopL fun s=>Zq176.B words_ v5 v7 v8 v9 v10 r2 v11 v4 v12 v6 v3 x_ s.1 s.2
def Zq177.B (v3:Inode_) (words_:List Int) (x_:Inode_):Option (((List Int)×Inode_)⊕(((Bool×Inode_)⊕Inode_))):=
 cond (decide ((words_.length:Int)>0)) (cond (decide ((words_.length:Int)<2)) (some (.inr (.inl (false,(0,0,0,[],[],()))))) (cond (inB 1 words_.length) ((Zq126 words_).bind fun r2=>(some (decide ((words_.getD (1:Int).toNat 0)>(w64 (r2-2))))).bind fun v4=>cond v4 (some (.inr (.inl (false,(0,0,0,[],[],()))))) (cond (inB 1 words_.length) ((some (w64 ((2:Int)+(words_.getD (1:Int).toNat 0)))).bind fun v5=>cond (inB 0 words_.length) (cond (decide ((0:Int)≤v5)&&decide (v5≤(words_.length:Int))&&(decide ((0:Int)≤(2:Int))&&decide ((2:Int)≤v5))) ((some (((words_.take v5.toNat).drop ((2:Int).toNat)).length:Int)).bind fun v6=>(Zq176 words_ v5 words_ (words_.getD (1:Int).toNat 0) (words_.getD (1:Int).toNat 0) words_ r2 (w64 (r2-2)) v4 ((words_.take v5.toNat).drop ((2:Int).toNat)) v6 v3 x_ (0,([],words_.getD (0:Int).toNat 0,()))).bind fun o=>sel o (fun b=>some (.inr (.inl (b.1,b.2)))) (fun c=>cond (decide ((x_.2.2.2.2.1++([c])).length≤2147483648)) (cond (decide ((0:Int)≤v5)&&decide (v5≤(words_.length:Int))) (some (.inl ((words_.take words_.length).drop v5.toNat,(x_.1,x_.2.1,x_.2.2.1,x_.2.2.2.1,x_.2.2.2.2.1++([c]),x_.2.2.2.2.2)))) none) none)) none) none) none)) none)) (some (.inr (.inr x_)))
def Zq177 (v3:Inode_):((List Int)×Inode_)→Option (((Bool×Inode_)⊕Inode_)):=
 loopL fun s=>Zq177.B v3 s.1 s.2
def Zq178 (words:List Int):Option (Inode_×Bool):=
 cond (decide ((words.length:Int)<3)) (some ((0,0,0,[],[],()),false)) (cond (inB 0 words.length) (cond (inB 1 words.length) (cond (inB 2 words.length) (cond (decide ((0:Int)≤(3:Int))&&decide ((3:Int)≤(words.length:Int))) (cond ((words.getD (0:Int).toNat 0) != 2) ((Zq150 ((words.take words.length).drop ((3:Int).toNat))).bind fun r=>some ((words.getD (0:Int).toNat 0,words.getD (1:Int).toNat 0,words.getD (2:Int).toNat 0,r,[],()),true)) ((some (((words.take words.length).drop ((3:Int).toNat)).length:Int)).bind fun v=>cond (v == 0) (some ((0,0,0,[],[],()),false)) (cond (decide ((0:Int)≤(1:Int))&&decide ((1:Int)≤(((words.take words.length).drop ((3:Int).toNat)).length:Int))) ((some ((((words.take words.length).drop ((3:Int).toNat)).take (((words.take words.length).drop ((3:Int).toNat)).length)).drop ((1:Int).toNat))).bind fun v2=>(Zq177 (0,0,0,[],[],()) (v2,(words.getD (0:Int).toNat 0,words.getD (1:Int).toNat 0,words.getD (2:Int).toNat 0,[],[],()))).bind fun o2=>sel o2 (fun b2=>some ((b2.2.1,b2.2.2.1,b2.2.2.2.1,b2.2.2.2.2.1,b2.2.2.2.2.2.1,b2.2.2.2.2.2.2),b2.1)) (fun c2=>some ((c2.1,c2.2.1,c2.2.2.1,c2.2.2.2.1,c2.2.2.2.2.1,c2.2.2.2.2.2),true))) none))) none) none) none) none)
namespace Zq178
def G:Gam:=mkG [(160,Zq150.FS),(179,Zq126.FS)]
theorem Gok:GOk PR G:=.cons Zq150.ok (.cons Zq126.ok .nil)
end Zq178
namespace Zq176
def c:=codeAt (bodyOf Proofs.Tryz.f247) [1,1,1,1,1,1,0,1,0,0,1,0,1,1,1,0,1,0,0]
def sp:SP:=⟨[(0,.cs SI),(2,.loc 2 []),(4,.loc 4 []),(5,.cs I64),(6,.loc 6 []),(45,.cs SI),(46,.pt I64),(47,.cs I64),(48,.cs SI),(49,.cs I64),(50,.cs I64),(51,.cs .bool),(64,.cs SI),(65,.cs I64),(66,.cs I64)],[(2,.mem,.cd tInode_),(4,.mem,.cd tInode_),(6,.mem,.cd tEntry_)]⟩
def out (words_:List Int) (v5:Int) (v7:List Int) (v8:Int) (v9:Int) (v10:List Int) (r2:Int) (v11:Int) (v4:Bool) (v12:List Int) (v6:Int) (v3:Inode_) (x_:Inode_):FOut (((Bool×Inode_)⊕Entry_)):=fun oo0 _ kk0=>sel oo0 (fun bb0=>kk0 (.rt) ⟨[(2,.loc 2 []),(3,.cs .bool bb0.1)],[(2,some ⟨.mem,.cd tInode_ bb0.2⟩)]⟩) (fun cc0=>kk0 (.ex 2) ⟨[(0,.cs SI words_),(2,.loc 2 []),(4,.loc 4 []),(5,.cs I64 v5),(6,.loc 6 []),(45,.cs SI v7),(46,.pt I64 v8),(47,.cs I64 v9),(48,.cs SI v10),(49,.cs I64 r2),(50,.cs I64 v11),(51,.cs .bool v4)],[(2,some ⟨.mem,.cd tInode_ v3⟩),(4,some ⟨.mem,.cd tInode_ x_⟩),(6,some ⟨.mem,.cd tEntry_ cc0⟩)]⟩)
def fr:=lfrag sp (fun x=>Zq176 x.1.1 x.1.2.2.2.1 x.1.2.2.2.2.2.1 x.1.2.2.2.2.2.2.1 x.1.2.2.2.2.2.2.2.1 x.1.2.2.2.2.2.2.2.2.1 x.1.2.2.2.2.2.2.2.2.2.1 x.1.2.2.2.2.2.2.2.2.2.2.1 x.1.2.2.2.2.2.2.2.2.2.2.2.1 x.1.2.2.2.2.2.2.2.2.2.2.2.2.1 x.1.2.2.2.2.2.2.2.2.2.2.2.2.2.1 x.2.1 x.2.2.1 (x.1.2.2.2.2.2.2.2.2.2.2.2.2.2.2.1,x.2.2.2.1)) fun x=>out x.1.1 x.1.2.2.2.1 x.1.2.2.2.2.2.1 x.1.2.2.2.2.2.2.1 x.1.2.2.2.2.2.2.2.1 x.1.2.2.2.2.2.2.2.2.1 x.1.2.2.2.2.2.2.2.2.2.1 x.1.2.2.2.2.2.2.2.2.2.2.1 x.1.2.2.2.2.2.2.2.2.2.2.2.1 x.1.2.2.2.2.2.2.2.2.2.2.2.2.1 x.1.2.2.2.2.2.2.2.2.2.2.2.2.2.1 x.2.1 x.2.2.1
theorem ok:CodeOk PR 92 1 (.loop c) fr:=
 lp_ok tbok hmix h0 .no (G:=Zq178.G) Zq178.Gok (L:=mkL []) (l:=[]) hT [0,2,4,5,6,45,46,47,48,49,50,51,64,65,66] [2,4,6] [(2,([0,2,4,5,6,45,46,47,48,49,50,51],[2,4,6]))] ([2,3],[2]) (fun x s=>B x.1.1 x.1.2.2.2.1 x.1.2.2.2.2.2.1 x.1.2.2.2.2.2.2.1 x.1.2.2.2.2.2.2.2.1 x.1.2.2.2.2.2.2.2.2.1 x.1.2.2.2.2.2.2.2.2.2.1 x.1.2.2.2.2.2.2.2.2.2.2.1 x.1.2.2.2.2.2.2.2.2.2.2.2.1 x.1.2.2.2.2.2.2.2.2.2.2.2.2.1 x.1.2.2.2.2.2.2.2.2.2.2.2.2.2.1 x.2.1 x.2.2.1 s.1 s.2) (fun x s=>⟨[(0,.cs SI x.1.1),(2,.loc 2 []),(4,.loc 4 []),(5,.cs I64 x.1.2.2.2.1),(6,.loc 6 []),(45,.cs SI x.1.2.2.2.2.2.1),(46,.pt I64 x.1.2.2.2.2.2.2.1),(47,.cs I64 x.1.2.2.2.2.2.2.2.1),(48,.cs SI x.1.2.2.2.2.2.2.2.2.1),(49,.cs I64 x.1.2.2.2.2.2.2.2.2.2.1),(50,.cs I64 x.1.2.2.2.2.2.2.2.2.2.2.1),(51,.cs .bool x.1.2.2.2.2.2.2.2.2.2.2.2.1),(64,.cs SI x.1.2.2.2.2.2.2.2.2.2.2.2.2.1),(65,.cs I64 x.1.2.2.2.2.2.2.2.2.2.2.2.2.2.1),(66,.cs I64 s.1)],[(2,some ⟨.mem,.cd tInode_ x.2.1⟩),(4,some ⟨.mem,.cd tInode_ x.2.2.1⟩),(6,some ⟨.mem,.cd tEntry_ s.2⟩)]⟩) (fun x=>(x.1.2.2.2.2.2.2.2.2.2.2.2.2.2.2.1,x.2.2.2.1))
  (fun x s=>by simp only[B,mC,mB,mS,mO,mN];kernel_rfl)
end Zq176
namespace Zq177
def c:=codeAt (bodyOf Proofs.Tryz.f247) [1,1,1,1,1,1,0,1,0,0]
def sp:SP:=⟨[(0,.cs SI),(2,.loc 2 []),(4,.loc 4 [])],[(2,.mem,.cd tInode_),(4,.mem,.cd tInode_)]⟩
def out (v3:Inode_):FOut (((Bool×Inode_)⊕Inode_)):=fun oo0 _ kk0=>sel oo0 (fun bb0=>kk0 (.rt) ⟨[(2,.loc 2 []),(3,.cs .bool bb0.1)],[(2,some ⟨.mem,.cd tInode_ bb0.2⟩)]⟩) (fun cc0=>kk0 (.ex 0) ⟨[(2,.loc 2 []),(4,.loc 4 [])],[(2,some ⟨.mem,.cd tInode_ v3⟩),(4,some ⟨.mem,.cd tInode_ cc0⟩)]⟩)
def fr:=lfrag sp (fun x=>Zq177 x.2.1 (x.1.1,x.2.2.1)) fun x=>out x.2.1
theorem ok:CodeOk PR 92 1 (.loop c) fr:=
 lp_ok tbok hmix h0 (.R (.one (.R (.R (.R (.L (.R (.one (.fr 1))))))))) (G:=Zq178.G) Zq178.Gok (L:=mkL [(1,Zq176.fr)]) (l:=[(1,.loop Zq176.c)]) ⟨Lam.cons Zq176.ok,trivial⟩ [0,2,4] [2,4] [(0,([2,4],[2,4]))] ([2,3],[2]) (fun x s=>B x.2.1 s.1 s.2) (fun x s=>⟨[(0,.cs SI s.1),(2,.loc 2 []),(4,.loc 4 [])],[(2,some ⟨.mem,.cd tInode_ x.2.1⟩),(4,some ⟨.mem,.cd tInode_ s.2⟩)]⟩) (fun x=>(x.1.1,x.2.2.1))
  (fun x s=>by simp only[B,mC,mB,mS,mO,mN];kernel_rfl)
end Zq177
namespace Zq178
def pts:List PT:=[.cs SI]
def FS:FS:=mkFS [.sh] pts (fun x=>Zq178 x.1) fun t=>⟨[.cd tInode_ t.1,.cs .bool t.2],[]⟩
theorem ok:FsOk PR 247 FS:=
 fn_ok tbok hmix Proofs.Tryz.f247 h0 (.R (.R (.R (.R (.R (.R (.L (.R (.one (.fr 0)))))))))) (G:=G) Gok (L:=mkL [(1,Zq176.fr),(0,Zq177.fr)]) (l:=[(0,.loop Zq177.c)]) ⟨Lam.skip rfl (Lam.cons Zq177.ok),trivial⟩
  (fun x=>by simp only[Zq178,mC,mB,mS,mO,mN];kernel_rfl)
end Zq178
def Zq179 (l:List Entry_):Option Int:=
 some (l.length:Int)
namespace Zq179
def pts:List PT:=[.cs (.sl tEntry_)]
def FS:FS:=mkFS [.sh] pts (fun x=>Zq179 x.1) fun t=>⟨[.cs I64 t],[]⟩
theorem ok:FsOk PR 192 FS:=
 fn_ok tbok hmix Proofs.Tryz.f192 h0 .no (G:=(mkG [])) .nil (L:=mkL []) (l:=[]) hT
  (fun x=>by simp only[Zq179,mC,mB,mS,mO,mN];kernel_rfl)
end Zq179
def Zq180.B (v:List Entry_) (v2:Int) (v3:Int) (v5:Int) (e_:Entry_) (v6:Int) (words_2:List Int):Option ((Int×List Int)⊕(List Int)):=
 cond (decide (v6<v5)) (cond (inB v6 e_.1.length) ((some (words_2++([w64 (((e_.1.getD v6.toNat 0).toNat:Int))]))).bind fun v7=>cond (decide (v7.length≤2147483648)) (some (.inl (w64 (v6+1),v7))) none) none) (some (.inr words_2))
def Zq180 (v:List Entry_) (v2:Int) (v3:Int) (v5:Int) (e_:Entry_):(Int×List Int)→Option (List Int):=
 loopL fun s=>Zq180.B v v2 v3 v5 e_ s.1 s.2
def Zq181.B (v:List Entry_) (v2:Int) (v3:Int) (words_:List Int):Option ((Int×List Int)⊕(List Int)):=
 cond (decide (v3<v2)) (cond (inB v3 v.length) ((some (words_++([(v.getD v3.toNat zEntry_).2.1,((v.getD v3.toNat zEntry_).1.length:Int)]))).bind fun v4=>cond (decide (v4.length≤2147483648)) ((Zq180 v v2 v3 ((v.getD v3.toNat zEntry_).1.length:Int) (v.getD v3.toNat zEntry_) (0,v4)).bind fun o=>some (.inl (w64 (v3+1),o))) none) none) (some (.inr words_))
def Zq181 (v:List Entry_) (v2:Int):(Int×List Int)→Option (List Int):=
 loopL fun s=>Zq181.B v v2 s.1 s.2
def Zq182 (x:Inode_):Option (List Int):=
 cond (decide ((([x.1,x.2.1,x.2.2.1])++x.2.2.2.1).length≤2147483648)) (cond (x.1 != 2) (some (([x.1,x.2.1,x.2.2.1])++x.2.2.2.1)) ((Zq179 x.2.2.2.2.1).bind fun r=>cond (decide (((([x.1,x.2.1,x.2.2.1])++x.2.2.2.1)++([r])).length≤2147483648)) ((Zq181 x.2.2.2.2.1 (x.2.2.2.2.1.length:Int) (0,(([x.1,x.2.1,x.2.2.1])++x.2.2.2.1)++([r]))).bind fun o2=>some o2) none)) none
namespace Zq182
def G:Gam:=mkG [(192,Zq179.FS)]
theorem Gok:GOk PR G:=.cons Zq179.ok .nil
end Zq182
namespace Zq180
def c:=codeAt (bodyOf Proofs.Tryz.f105) [1,1,1,1,0,1,0,0,1,1,0,0,1,1,1,0,0]
def sp:SP:=⟨[(3,.seg 3 []),(5,.loc 5 []),(28,.cs (.sl tEntry_)),(29,.cs I64),(30,.cs I64),(44,.cs I64),(45,.cs I64)],[(3,.reg,.cd SI),(5,.mem,.cd tEntry_)]⟩
def out (v:List Entry_) (v2:Int) (v3:Int) (v5:Int) (e_:Entry_):FOut (List Int):=fun bb0 _ kk0=>kk0 (.ex 2) ⟨[(3,.seg 3 []),(28,.cs (.sl tEntry_) v),(29,.cs I64 v2),(30,.cs I64 v3)],[sr 3 (.cd SI bb0)]⟩
def fr:=lfrag sp (fun x=>Zq180 x.1.2.2.1 x.1.2.2.2.1 x.1.2.2.2.2.1 x.1.2.2.2.2.2.1 x.2.2.1 (x.1.2.2.2.2.2.2.1,x.2.1)) fun x=>out x.1.2.2.1 x.1.2.2.2.1 x.1.2.2.2.2.1 x.1.2.2.2.2.2.1 x.2.2.1
theorem ok:CodeOk PR 59 1 (.loop c) fr:=
 lp_ok tbok hmix ⟨[1],[],[],0⟩ .no (G:=Zq182.G) Zq182.Gok (L:=mkL []) (l:=[]) hT [3,5,28,29,30,44,45] [3,5] [(2,([3,28,29,30],[3]))] ([],[]) (fun x s=>B x.1.2.2.1 x.1.2.2.2.1 x.1.2.2.2.2.1 x.1.2.2.2.2.2.1 x.2.2.1 s.1 s.2) (fun x s=>⟨[(3,.seg 3 []),(5,.loc 5 []),(28,.cs (.sl tEntry_) x.1.2.2.1),(29,.cs I64 x.1.2.2.2.1),(30,.cs I64 x.1.2.2.2.2.1),(44,.cs I64 x.1.2.2.2.2.2.1),(45,.cs I64 s.1)],[sr 3 (.cd SI s.2),(5,some ⟨.mem,.cd tEntry_ x.2.2.1⟩)]⟩) (fun x=>(x.1.2.2.2.2.2.2.1,x.2.1))
  (fun x s=>by simp only[B,mC,mB,mS,mO,mN];kernel_rfl)
end Zq180
namespace Zq181
def c:=codeAt (bodyOf Proofs.Tryz.f105) [1,1,1,1,0,1,0,0]
def sp:SP:=⟨[(3,.seg 3 []),(28,.cs (.sl tEntry_)),(29,.cs I64),(30,.cs I64)],[(3,.reg,.cd SI)]⟩
def out (v:List Entry_) (v2:Int):FOut (List Int):=fun bb0 _ kk0=>kk0 (.ex 0) ⟨[(3,.seg 3 [])],[sr 3 (.cd SI bb0)]⟩
def fr:=lfrag sp (fun x=>Zq181 x.1.2.1 x.1.2.2.1 (x.1.2.2.2.1,x.2.1)) fun x=>out x.1.2.1 x.1.2.2.1
theorem ok:CodeOk PR 59 1 (.loop c) fr:=
 lp_ok tbok hmix ⟨[1],[],[],0⟩ (.R (.R (.L (.one (.R (.R (.R (.one (.fr 1))))))))) (G:=Zq182.G) Zq182.Gok (L:=mkL [(1,Zq180.fr)]) (l:=[(1,.loop Zq180.c)]) ⟨Lam.cons Zq180.ok,trivial⟩ [3,28,29,30] [3] [(0,([3],[3]))] ([],[]) (fun x s=>B x.1.2.1 x.1.2.2.1 s.1 s.2) (fun x s=>⟨[(3,.seg 3 []),(28,.cs (.sl tEntry_) x.1.2.1),(29,.cs I64 x.1.2.2.1),(30,.cs I64 s.1)],[sr 3 (.cd SI s.2)]⟩) (fun x=>(x.1.2.2.2.1,x.2.1))
  (fun x s=>by simp only[B,mC,mB,mS,mO,mN];kernel_rfl)
end Zq181
namespace Zq182
def pts:List PT:=[.cs tInode_]
def FS:FS:=mkFS [.sh] pts (fun x=>Zq182 x.1) fun t=>⟨[.cd SI t],[]⟩
theorem ok:FsOk PR 105 FS:=
 fn_ok tbok hmix Proofs.Tryz.f105 ⟨[1],[],[],0⟩ (.R (.R (.R (.R (.L (.R (.one (.fr 0)))))))) (G:=G) Gok (L:=mkL [(1,Zq180.fr),(0,Zq181.fr)]) (l:=[(0,.loop Zq181.c)]) ⟨Lam.skip rfl (Lam.cons Zq181.ok),trivial⟩
  (fun x=>by simp only[Zq182,mC,mB,mS,mO,mN];kernel_rfl)
end Zq182
def Zq183.B (s1:List Int) (s2:List Int) (v:Int) (v2:Int):Option (Int⊕((Bool⊕Unit))):=
 cond (decide (v2<v)) (cond (inB v2 s1.length) (cond (inB v2 s2.length) (cond ((s1.getD v2.toNat 0) != (s2.getD v2.toNat 0)) (some (.inr (.inl false))) (some (.inl (w64 (v2+1))))) none) none) (some (.inr (.inr ())))
def Zq183 (s1:List Int) (s2:List Int) (v:Int):Int→Option ((Bool⊕Unit)):=
 loopL fun s=>Zq183.B s1 s2 v s
def Zq184 (s1:List Int) (s2:List Int):Option Bool:=
 cond ((s1.length:Int) != (s2.length:Int)) (some false) ((Zq183 s1 s2 (s1.length:Int) 0).bind fun o=>sel o (fun b=>some b) (fun c=>some true))
namespace Zq183
def c:=codeAt (bodyOf Proofs.Tryz.f185) [1,1,0,1,0,0]
def sp:SP:=⟨[(0,.cs SI),(1,.cs SI),(12,.cs I64),(13,.cs I64)],[]⟩
def out (s1:List Int) (s2:List Int) (v:Int):FOut ((Bool⊕Unit)):=fun oo0 _ kk0=>sel oo0 (fun bb0=>kk0 (.rt) ⟨[(4,.cs .bool bb0)],[]⟩) (fun cc0=>kk0 (.ex 0) ⟨[],[]⟩)
def fr:=lfrag sp (fun x=>Zq183 x.1.1 x.1.2.1 x.1.2.2.1 x.1.2.2.2.1) fun x=>out x.1.1 x.1.2.1 x.1.2.2.1
theorem ok:CodeOk PR 26 2 (.loop c) fr:=
 lp_ok tbok hmix h0 .no (G:=(mkG [])) .nil (L:=mkL []) (l:=[]) hT [0,1,12,13] [] [(0,([],[]))] ([4],[]) (fun x s=>B x.1.1 x.1.2.1 x.1.2.2.1 s) (fun x s=>⟨[(0,.cs SI x.1.1),(1,.cs SI x.1.2.1),(12,.cs I64 x.1.2.2.1),(13,.cs I64 s)],[]⟩) (fun x=>x.1.2.2.2.1)
  (fun x s=>by simp only[B,mC,mB,mS,mO,mN];kernel_rfl)
end Zq183
namespace Zq184
def pts:List PT:=[.cs SI,.cs SI]
def FS:FS:=mkFS [.sh,.sh] pts (fun x=>Zq184 x.1 x.2.1) fun t=>⟨[.cs .bool t],[]⟩
theorem ok:FsOk PR 185 FS:=
 fn_ok tbok hmix Proofs.Tryz.f185 h0 (.R (.R (.L (.R (.one (.fr 0)))))) (G:=(mkG [])) .nil (L:=mkL [(0,Zq183.fr)]) (l:=[(0,.loop Zq183.c)]) ⟨Lam.cons Zq183.ok,trivial⟩
  (fun x=>by simp only[Zq184,mC,mB,mS,mO,mN];kernel_rfl)
end Zq184
def Zq185 (words:List Int):Option (Inode_×Int):=
 (Zq118 words).bind fun r=>cond (cond (r != 0) true ((words.length:Int) == 0)) (some ((0,0,0,[],[],()),r)) ((Zq178 words).bind fun r2=>cond (!r2.2) (some ((0,0,0,[],[],()),5)) ((Zq141 (r2.1.1,r2.1.2.1,r2.1.2.2.1,r2.1.2.2.2.1,r2.1.2.2.2.2.1,r2.1.2.2.2.2.2)).bind fun r3=>cond (r3 != 0) (some ((0,0,0,[],[],()),5)) ((Zq182 (r2.1.1,r2.1.2.1,r2.1.2.2.1,r2.1.2.2.2.1,r2.1.2.2.2.2.1,r2.1.2.2.2.2.2)).bind fun r4=>(Zq184 r4 words).bind fun r5=>cond (!r5) (some ((0,0,0,[],[],()),5)) (some ((r2.1.1,r2.1.2.1,r2.1.2.2.1,r2.1.2.2.2.1,r2.1.2.2.2.2.1,r2.1.2.2.2.2.2),0)))))
namespace Zq185
def G:Gam:=mkG [(114,Zq118.FS),(247,Zq178.FS),(240,Zq141.FS),(105,Zq182.FS),(185,Zq184.FS)]
def pts:List PT:=[.cs SI]
def FS:FS:=mkFS [.sh] pts (fun x=>Zq185 x.1) fun t=>⟨[.cd tInode_ t.1,.cs I64 t.2],[]⟩
theorem ok:FsOk PR 197 FS:=
 fn_ok tbok hmix Proofs.Tryz.f197 h0 .no (G:=G) (show GOk PR G from .cons Zq118.ok (.cons Zq178.ok (.cons Zq141.ok (.cons Zq182.ok (.cons Zq184.ok .nil))))) (L:=mkL []) (l:=[]) hT
  (fun x=>by simp only[Zq185,mC,mB,mS,mO,mN];kernel_rfl)
end Zq185
def Zq186 (w:Int):Option Bool:=
 some (decide (w>255))
namespace Zq186
def pts:List PT:=[.cs I64]
def FS:FS:=mkFS [.sh] pts (fun x=>Zq186 x.1) fun t=>⟨[.cs .bool t],[]⟩
theorem ok:FsOk PR 198 FS:=
 fn_ok tbok hmix Proofs.Tryz.f198 h0 .no (G:=(mkG [])) .nil (L:=mkL []) (l:=[]) hT
  (fun x=>by simp only[Zq186,mC,mB,mS,mO,mN];kernel_rfl)
end Zq186
def Zq187.B (s_:List Int) (f:Unit) (v:Int) (v2:Int):Option (Int⊕((Int⊕Unit))):=
 cond (decide (v2<v)) (cond (inB v2 s_.length) ((Zq186 (s_.getD v2.toNat 0)).bind fun r=>cond r (some (.inr (.inl v2))) (some (.inl (w64 (v2+1))))) none) (some (.inr (.inr ())))
def Zq187 (s_:List Int) (f:Unit) (v:Int):Int→Option ((Int⊕Unit)):=
 loopL fun s=>Zq187.B s_ f v s
def Zq188 (s_:List Int) (f:Unit):Option Int:=
 (Zq187 s_ f (s_.length:Int) 0).bind fun o=>sel o (fun b=>some b) (fun c=>some (-1))
namespace Zq188
def G:Gam:=mkG [(198,Zq186.FS)]
theorem Gok:GOk PR G:=.cons Zq186.ok .nil
end Zq188
namespace Zq187
def c:=codeAt (bodyOf Proofs.Tryz.f246) [1,0,1,0,0]
def sp:SP:=⟨[(0,.cs SI),(1,.clo 198 (.cs .unit)),(7,.cs I64),(8,.cs I64)],[]⟩
def out (s_:List Int) (f:Unit) (v:Int):FOut ((Int⊕Unit)):=fun oo0 _ kk0=>sel oo0 (fun bb0=>kk0 (.rt) ⟨[(4,.cs I64 bb0)],[]⟩) (fun cc0=>kk0 (.ex 0) ⟨[],[]⟩)
def fr:=lfrag sp (fun x=>Zq187 x.1.1 x.1.2.1 x.1.2.2.1 x.1.2.2.2.1) fun x=>out x.1.1 x.1.2.1 x.1.2.2.1
theorem ok:CodeOk PR 19 2 (.loop c) fr:=
 lp_ok tbok hmix h0 .no (G:=Zq188.G) Zq188.Gok (L:=mkL []) (l:=[]) hT [0,1,7,8] [] [(0,([],[]))] ([4],[]) (fun x s=>B x.1.1 x.1.2.1 x.1.2.2.1 s) (fun x s=>⟨[(0,.cs SI x.1.1),(1,.clo 198 (.cs .unit x.1.2.1)),(7,.cs I64 x.1.2.2.1),(8,.cs I64 s)],[]⟩) (fun x=>x.1.2.2.2.1)
  (fun x s=>by simp only[B,mC,mB,mS,mO,mN];kernel_rfl)
end Zq187
namespace Zq188
def pts:List PT:=[.cs SI,.clo 198 (.cs .unit)]
def FS:FS:=mkFS [.sh,.sh] pts (fun x=>Zq188 x.1 x.2.1) fun t=>⟨[.cs I64 t],[]⟩
theorem ok:FsOk PR 246 FS:=
 fn_ok tbok hmix Proofs.Tryz.f246 h0 (.R (.L (.R (.one (.fr 0))))) (G:=G) Gok (L:=mkL [(0,Zq187.fr)]) (l:=[(0,.loop Zq187.c)]) ⟨Lam.cons Zq187.ok,trivial⟩
  (fun x=>by simp only[Zq188,mC,mB,mS,mO,mN];kernel_rfl)
end Zq188
def Zq189 (s_:List Int) (f:Unit):Option Bool:=
 (Zq188 s_ f).bind fun r=>some (decide (r≥0))
namespace Zq189
def G:Gam:=mkG [(246,Zq188.FS)]
def pts:List PT:=[.cs SI,.clo 198 (.cs .unit)]
def FS:FS:=mkFS [.sh,.sh] pts (fun x=>Zq189 x.1 x.2.1) fun t=>⟨[.cs .bool t],[]⟩
theorem ok:FsOk PR 195 FS:=
 fn_ok tbok hmix Proofs.Tryz.f195 h0 .no (G:=G) (show GOk PR G from .cons Zq188.ok .nil) (L:=mkL []) (l:=[]) hT
  (fun x=>by simp only[Zq189,mC,mB,mS,mO,mN];kernel_rfl)
end Zq189
end Mf
