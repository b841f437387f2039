import Derived.Test.YtdmbfnplackmhaaGreatMountDiskH
import Derived.Test.YtdmbfnplackmhaaGreatMountDiskJ
import Derived.Test.YtdmbfnplackmhaaGreatProg
import Derived.KernelRfl
import Derived.Shelf.SortM.Plain
import Derived.Shelf.SortM.SortNone
import Derived.Shelf.SlGeneric
import Derived.Ground.SlgmProg
namespace Go.Proofs
open Go.Shelf
def Tryz.sortLay_ren:Go.Shelf.Ren:=⟨fun | 5=>190 | 8=>245 | 7=>244 | 19=>284 | 20=>285 | 10=>275 | 11=>276 | 12=>277 | 13=>278 | 14=>279 | 15=>280 | 16=>281 | 17=>282 | 18=>283 | 30=>309 | 31=>310 | 32=>311 | 33=>312 | 34=>313 | 35=>314 | 40=>324 | n=>n,fun | 23=>66 | 25=>2 | 3=>3 | 32=>265 | 22=>66 | 0=>0 | 44=>290 | 46=>292 | 4=>4 | 36=>282 | 35=>281 | 41=>287 | 5=>5 | 9=>9 | 53=>317 | 57=>321 | 63=>334 | 64=>335 | n=>n,fun | n=>n⟩
theorem Tryz.sortLay:Go.Proofs.SlLaysM.n5 Tryz.prog Tryz.sortLay_ren:={
 mixed:=by kernel_rfl
 f5:=⟨Tryz.f190.name,by decide,Tryz.func190.trans (congrArg some (by kernel_rfl))⟩
 f7:=⟨Tryz.f244.name,by decide,Tryz.func244.trans (congrArg some (by kernel_rfl))⟩
 f8:=Tryz.func245.trans (congrArg some (by kernel_rfl))
 f10:=⟨Tryz.f275.name,by decide,Tryz.func275.trans (congrArg some (by kernel_rfl))⟩
 f11:=⟨Tryz.f276.name,by decide,Tryz.func276.trans (congrArg some (by kernel_rfl))⟩
 f12:=⟨Tryz.f277.name,by decide,Tryz.func277.trans (congrArg some (by kernel_rfl))⟩
 f13:=⟨Tryz.f278.name,by decide,Tryz.func278.trans (congrArg some (by kernel_rfl))⟩
 f14:=⟨Tryz.f279.name,by decide,Tryz.func279.trans (congrArg some (by kernel_rfl))⟩
 f15:=⟨Tryz.f280.name,by decide,Tryz.func280.trans (congrArg some (by kernel_rfl))⟩
 f16:=⟨Tryz.f281.name,by decide,Tryz.func281.trans (congrArg some (by kernel_rfl))⟩
 f17:=⟨Tryz.f282.name,by decide,Tryz.func282.trans (congrArg some (by kernel_rfl))⟩
 f18:=⟨Tryz.f283.name,by decide,Tryz.func283.trans (congrArg some (by kernel_rfl))⟩
 f19:=Tryz.func284.trans (congrArg some (by kernel_rfl))
 f20:=Tryz.func285.trans (congrArg some (by kernel_rfl))
 f30:=⟨Tryz.f309.name,by decide,Tryz.func309.trans (congrArg some (by kernel_rfl))⟩
 f31:=Tryz.func310.trans (congrArg some (by kernel_rfl))
 f32:=Tryz.func311.trans (congrArg some (by kernel_rfl))
 f33:=⟨Tryz.f312.name,by decide,Tryz.func312.trans (congrArg some (by kernel_rfl))⟩
 f34:=⟨Tryz.f313.name,by decide,Tryz.func313.trans (congrArg some (by kernel_rfl))⟩
 f35:=⟨Tryz.f314.name,by decide,Tryz.func314.trans (congrArg some (by kernel_rfl))⟩
 f40:=⟨Tryz.f324.name,by decide,Tryz.func324.trans (congrArg some (by kernel_rfl))⟩
 t0:=Tryz.underlying0
 a0:=Tryz.isAgg0
 z0:=Tryz.sizeOf0
 v0:=Tryz.zeroValue0
 t3:=Tryz.underlying3
 a3:=Tryz.isAgg3
 z3:=Tryz.sizeOf3
 v3:=Tryz.zeroValue3
 t4:=Tryz.underlying4
 a4:=Tryz.isAgg4
 z4:=Tryz.sizeOf4
 v4:=Tryz.zeroValue4
 t5:=Tryz.underlying5
 a5:=Tryz.isAgg5
 z5:=Tryz.sizeOf5
 v5:=Tryz.zeroValue5
 t9:=Tryz.underlying9
 a9:=Tryz.isAgg9
 z9:=Tryz.sizeOf9
 v9:=Tryz.zeroValue9
 t22:=Tryz.underlying66
 a22:=Tryz.isAgg66
 z22:=Tryz.sizeOf66
 v22:=Tryz.zeroValue66
 t23:=Tryz.underlying66
 a23:=Tryz.isAgg66
 z23:=Tryz.sizeOf66
 v23:=Tryz.zeroValue66
 t25:=Tryz.underlying2
 a25:=Tryz.isAgg2
 z25:=Tryz.sizeOf2
 v25:=Tryz.zeroValue2
 t32:=Tryz.underlying265
 a32:=Tryz.isAgg265
 z32:=Tryz.sizeOf265
 v32:=Tryz.zeroValue265
 t35:=Tryz.underlying281
 a35:=Tryz.isAgg281
 z35:=Tryz.sizeOf281
 v35:=Tryz.zeroValue281
 t36:=Tryz.underlying282
 a36:=Tryz.isAgg282
 z36:=Tryz.sizeOf282
 v36:=Tryz.zeroValue282
 t41:=Tryz.underlying287
 a41:=Tryz.isAgg287
 z41:=Tryz.sizeOf287
 v41:=Tryz.zeroValue287
 t44:=Tryz.underlying290
 a44:=Tryz.isAgg290
 z44:=Tryz.sizeOf290
 v44:=Tryz.zeroValue290
 t46:=Tryz.underlying292
 a46:=Tryz.isAgg292
 z46:=Tryz.sizeOf292
 v46:=Tryz.zeroValue292
 t53:=Tryz.underlying317
 a53:=Tryz.isAgg317
 z53:=Tryz.sizeOf317
 v53:=Tryz.zeroValue317
 t57:=Tryz.underlying321
 a57:=Tryz.isAgg321
 z57:=Tryz.sizeOf321
 v57:=Tryz.zeroValue321
 t63:=Tryz.underlying334
 a63:=Tryz.isAgg334
 z63:=Tryz.sizeOf334
 v63:=Tryz.zeroValue334
 t64:=Tryz.underlying335
 a64:=Tryz.isAgg335
 z64:=Tryz.sizeOf335
 v64:=Tryz.zeroValue335 }
end Go.Proofs
noncomputable section
namespace Mf
open Go
set_option linter.unusedVariables false
set_option linter.unusedSimpArgs false
set_option maxRecDepth 100000
abbrev tPut_:Ty:=(.pair (.int .i64) (.pair (.sl (.int .i64)) .unit))
abbrev Put_:Type:=Int×(List Int)×Unit
def zPut_:Put_:=(0,[],())
abbrev tDisk_:Ty:=(.pair (.sl (.sl (.int .i64))) (.pair (.sl tPut_) .unit))
abbrev Disk_:Type:=(List (List Int))×(List Put_)×Unit
def zDisk_:Disk_:=([],[],())
abbrev tStep_:Ty:=(.pair .bool tPut_)
abbrev Step_:Type:=Bool×Put_
def zStep_:Step_:=(false,0,[],())
abbrev tEntry_:Ty:=(.pair .str (.pair (.int .i64) .unit))
abbrev Entry_:Type:=(List UInt8)×Int×Unit
def zEntry_:Entry_:=([],0,())
abbrev tInode_:Ty:=(.pair (.int .i64) (.pair (.int .i64) (.pair (.int .i64) (.pair (.sl (.int .i64)) (.pair (.sl tEntry_) .unit)))))
abbrev Inode_:Type:=Int×Int×Int×(List Int)×(List Entry_)×Unit
def zInode_:Inode_:=(0,0,0,[],[],())
abbrev tFs_:Ty:=(.pair (.sl tInode_) (.pair (.sl (.sl (.int .u8))) .unit))
abbrev Fs_:Type:=(List Inode_)×(List (List Int))×Unit
def zFs_:Fs_:=([],[],())
abbrev tWorld_:Ty:=(.pair tDisk_ (.pair tFs_ (.pair tFs_ .unit)))
abbrev World_:Type:=Disk_×Fs_×Fs_×Unit
def zWorld_:World_:=(([],[],()),([],[],()),([],[],()),())
abbrev tBytesResult_:Ty:=(.pair (.int .i64) (.pair (.sl (.int .u8)) .unit))
abbrev BytesResult_:Type:=Int×(List Int)×Unit
def zBytesResult_:BytesResult_:=(0,[],())
abbrev tCall_:Ty:=(.pair (.int .i64) (.pair .str (.pair .str (.pair (.int .i64) tBytesResult_))))
abbrev Call_:Type:=Int×(List UInt8)×(List UInt8)×Int×BytesResult_
def zCall_:Call_:=(0,[],[],0,0,[],())
abbrev tCallResult_:Ty:=(.pair (.int .i64) (.pair (.int .i64) (.pair (.int .i64) (.pair (.sl (.int .u8)) (.pair (.sl .str) (.pair tFs_ .unit))))))
abbrev CallResult_:Type:=Int×Int×Int×(List Int)×(List (List UInt8))×Fs_×Unit
def zCallResult_:CallResult_:=(0,0,0,[],[],([],[],()),())
abbrev tDiskResult_:Ty:=(.pair (.int .i64) (.pair tDisk_ .unit))
abbrev DiskResult_:Type:=Int×Disk_×Unit
def zDiskResult_:DiskResult_:=(0,([],[],()),())
abbrev tFsResult_:Ty:=(.pair (.int .i64) (.pair tFs_ .unit))
abbrev FsResult_:Type:=Int×Fs_×Unit
def zFsResult_:FsResult_:=(0,([],[],()),())
abbrev tIntResult_:Ty:=(.pair (.int .i64) (.pair (.int .i64) .unit))
abbrev IntResult_:Type:=Int×Int×Unit
def zIntResult_:IntResult_:=(0,0,())
abbrev tNamesResult_:Ty:=(.pair (.int .i64) (.pair (.sl .str) .unit))
abbrev NamesResult_:Type:=Int×(List (List UInt8))×Unit
def zNamesResult_:NamesResult_:=(0,[],())
abbrev tPutsResult_:Ty:=(.pair (.int .i64) (.pair (.sl tPut_) .unit))
abbrev PutsResult_:Type:=Int×(List Put_)×Unit
def zPutsResult_:PutsResult_:=(0,[],())
abbrev tStatResult_:Ty:=(.pair (.int .i64) (.pair (.int .i64) (.pair (.int .i64) tIntResult_)))
abbrev StatResult_:Type:=Int×Int×Int×IntResult_
def zStatResult_:StatResult_:=(0,0,0,0,0,())
abbrev tStepsResult_:Ty:=(.pair (.int .i64) (.pair (.sl tStep_) .unit))
abbrev StepsResult_:Type:=Int×(List Step_)×Unit
def zStepsResult_:StepsResult_:=(0,[],())
abbrev tWorldResult_:Ty:=(.pair (.int .i64) (.pair tCallResult_ (.pair tWorld_ .unit)))
abbrev WorldResult_:Type:=Int×CallResult_×World_×Unit
def zWorldResult_:WorldResult_:=(0,(0,0,0,[],[],([],[],()),()),(([],[],()),([],[],()),([],[],()),()),())
abbrev tLook_:Ty:=(.pair tFs_ (.pair (.sl .bool) (.pair (.sl (.sl tEntry_)) (.pair (.int .i64) (.pair (.sl (.int .i64)) (.pair (.sl (.int .i64)) .unit))))))
abbrev Look_:Type:=Fs_×(List Bool)×(List (List Entry_))×Int×(List Int)×(List Int)×Unit
def zLook_:Look_:=(([],[],()),[],[],0,[],[],())
abbrev tBoundsError_:Ty:=(.pair (.int .i64) (.pair (.int .i64) (.pair .bool (.pair (.int .u8) .unit))))
abbrev BoundsError_:Type:=Int×Int×Bool×Int×Unit
def zBoundsError_:BoundsError_:=(0,0,false,0,())
abbrev tErrorAddressString_:Ty:=(.pair .str (.pair (.int .u64) .unit))
abbrev ErrorAddressString_:Type:=(List UInt8)×Int×Unit
def zErrorAddressString_:ErrorAddressString_:=([],0,())
abbrev tL1Src_:Ty:=(.pair (.sl (.int .u8)) (.pair (.int .i64) .unit))
abbrev L1Src_:Type:=(List Int)×Int×Unit
def zL1Src_:L1Src_:=([],0,())
abbrev PR:Program:=Go.Proofs.Tryz.prog
def tb:Tb:=[(2,⟨.int .i64,(.int .i64),8⟩),(3,⟨.int .i64,(.int .i64),8⟩),(4,⟨.bool,.bool,1⟩),(5,⟨.int .u8,(.int .u8),1⟩),(6,⟨.int .u8,(.int .u8),1⟩),(7,⟨.st [0,1,2,3],tBoundsError_,24⟩),(8,⟨.st [0,1,2,3],tBoundsError_,24⟩),(9,⟨.str,.str,16⟩),(10,⟨.str,.str,16⟩),(11,⟨.str,.str,16⟩),(12,⟨.int .u64,(.int .u64),8⟩),(13,⟨.st [0,1],tErrorAddressString_,24⟩),(14,⟨.st [0,1],tErrorAddressString_,24⟩),(21,⟨.int .i32,(.int .i32),4⟩),(22,⟨.sl 66,(.sl (.sl (.int .i64))),24⟩),(23,⟨.sl 174,(.sl tPut_),24⟩),(24,⟨.st [0,1],tDisk_,48⟩),(25,⟨.st [0,1],tDisk_,48⟩),(26,⟨.sl 178,(.sl tInode_),24⟩),(27,⟨.sl 60,(.sl (.sl (.int .u8))),24⟩),(28,⟨.st [0,1],tFs_,48⟩),(29,⟨.st [0,1],tFs_,48⟩),(30,⟨.st [0,2,4],tWorld_,144⟩),(31,⟨.st [0,2,4],tWorld_,144⟩),(34,⟨.sl 85,(.sl tPut_),24⟩),(35,⟨.st [0,1],tDisk_,48⟩),(36,⟨.st [0,1],tDisk_,48⟩),(37,⟨.sl 136,(.sl tInode_),24⟩),(38,⟨.st [0,1],tFs_,48⟩),(39,⟨.st [0,1],tFs_,48⟩),(40,⟨.st [0,2,4],tWorld_,144⟩),(41,⟨.st [0,2,4],tWorld_,144⟩),(47,⟨.sl 186,(.sl tStep_),24⟩),(48,⟨.st [0,1],tStepsResult_,32⟩),(49,⟨.st [0,1],tStepsResult_,32⟩),(60,⟨.sl 5,(.sl (.int .u8)),24⟩),(63,⟨.st [0,1],tFsResult_,56⟩),(64,⟨.st [0,1],tFsResult_,56⟩),(66,⟨.sl 2,(.sl (.int .i64)),24⟩),(67,⟨.st [0,1],tPut_,32⟩),(68,⟨.st [0,1],tPut_,32⟩),(76,⟨.st [0,1],tPutsResult_,32⟩),(77,⟨.st [0,1],tPutsResult_,32⟩),(79,⟨.st [0,1],tDiskResult_,56⟩),(80,⟨.st [0,1],tDiskResult_,56⟩),(84,⟨.st [0,1],tPut_,32⟩),(85,⟨.st [0,1],tPut_,32⟩),(87,⟨.st [0,1],tIntResult_,16⟩),(88,⟨.st [0,1],tIntResult_,16⟩),(90,⟨.sl 9,(.sl .str),24⟩),(91,⟨.st [0,1,2,3,4,5],tCallResult_,120⟩),(92,⟨.st [0,1,2,3,4,5],tCallResult_,120⟩),(93,⟨.st [0,1,8],tWorldResult_,272⟩),(94,⟨.st [0,1,8],tWorldResult_,272⟩),(134,⟨.sl 201,(.sl tEntry_),24⟩),(135,⟨.st [0,1,2,3,4],tInode_,72⟩),(136,⟨.st [0,1,2,3,4],tInode_,72⟩),(174,⟨.st [0,1],tPut_,32⟩),(176,⟨.sl 270,(.sl tEntry_),24⟩),(177,⟨.st [0,1,2,3,4],tInode_,72⟩),(178,⟨.st [0,1,2,3,4],tInode_,72⟩),(185,⟨.st [0,1,2],tStep_,40⟩),(186,⟨.st [0,1,2],tStep_,40⟩),(200,⟨.st [0,1],tEntry_,24⟩),(201,⟨.st [0,1],tEntry_,24⟩),(204,⟨.st [0,1],tL1Src_,32⟩),(205,⟨.st [0,1],tL1Src_,32⟩),(207,⟨.sl 4,(.sl .bool),24⟩),(208,⟨.sl 134,(.sl (.sl tEntry_)),24⟩),(209,⟨.st [0,2,3,4,5,6],tLook_,152⟩),(210,⟨.st [0,2,3,4,5,6],tLook_,152⟩),(214,⟨.arr 20 2,(.arr 20 (.int .i64)),160⟩),(251,⟨.sl 47,(.sl (.sl tStep_)),24⟩),(256,⟨.st [0,1,2,3,4,5],tCall_,80⟩),(257,⟨.st [0,1,2,3,4,5],tCall_,80⟩),(265,⟨.int .u64,(.int .u64),8⟩),(270,⟨.st [0,1],tEntry_,24⟩),(281,⟨.int .i64,(.int .i64),8⟩),(290,⟨.int .u32,(.int .u32),4⟩),(292,⟨.int .u64,(.int .u64),8⟩),(299,⟨.st [0,1],tBytesResult_,32⟩),(300,⟨.st [0,1],tBytesResult_,32⟩),(309,⟨.st [0,1,2,3,4],tStatResult_,40⟩),(310,⟨.st [0,1,2,3,4],tStatResult_,40⟩),(312,⟨.st [0,1],tNamesResult_,32⟩),(313,⟨.st [0,1],tNamesResult_,32⟩),(317,⟨.int .u64,(.int .u64),8⟩),(349,⟨.int .u8,(.int .u8),1⟩),(350,⟨.int .u8,(.int .u8),1⟩),(353,⟨.int .i32,(.int .i32),4⟩),(354,⟨.int .i32,(.int .i32),4⟩)]
theorem tbok:TbOk Go.Proofs.Tryz.prog tb:=tbB_ok (by kernel_rfl)
theorem hmix:Go.Proofs.Tryz.prog.follows .mixedOrders=true:=by kernel_rfl
def Zq109 (a:List Int) (left:Int):Option Int:=
 cond (decide ((w64 (left-(a.length:Int)))<0)) (some (-1)) (some (w64 (left-(a.length:Int))))
namespace Zq109
def pts:List PT:=[.cs SI,.cs I64]
def FS:FS:=mkFS [.sh,.sh] pts (fun x=>Zq109 x.1 x.2.1) fun t=>⟨[.cs I64 t],[]⟩
theorem ok:FsOk PR 136 FS:=
 fn_ok tbok hmix Proofs.Tryz.f136 h0 .no (G:=(mkG [])) .nil (L:=mkL []) (l:=[]) hT
  (fun x=>by simp only[Zq109,mC,mB,mS,mO,mN];kernel_rfl)
end Zq109
def Zq110.B (a:List (List Int)) (left_:Int) (i_:Int):Option ((Int×Int)⊕((Int⊕Int))):=
 cond (decide (i_<(a.length:Int))) (cond (inB i_ a.length) ((Zq109 (a.getD i_.toNat []) left_).bind fun r=>cond (decide (r<0)) (some (.inr (.inl (-1)))) (some (.inl (r,w64 (i_+1))))) none) (some (.inr (.inr left_)))
def Zq110 (a:List (List Int)):(Int×Int)→Option ((Int⊕Int)):=
 loopL fun s=>Zq110.B a s.1 s.2
def Zq111 (a:List (List Int)) (left:Int):Option Int:=
 cond (decide ((w64 (left-(a.length:Int)))<0)) (some (-1)) ((Zq110 a (w64 (left-(a.length:Int)),0)).bind fun o=>sel o (fun b=>some b) (fun c=>some c))
namespace Zq111
def G:Gam:=mkG [(136,Zq109.FS)]
theorem Gok:GOk PR G:=.cons Zq109.ok .nil
end Zq111
namespace Zq110
def c:=codeAt (bodyOf Proofs.Tryz.f58) [1,1,1,0,1,0,0]
def sp:SP:=⟨[(0,.cs (.sl SI)),(1,.cs I64),(5,.cs I64)],[]⟩
def out (a:List (List Int)):FOut ((Int⊕Int)):=fun o _ k=>sel o (fun b=>k (.rt) ⟨[(4,.cs I64 b)],[]⟩) (fun c=>k (.ex 0) ⟨[(1,.cs I64 c)],[]⟩)
def fr:=lfrag sp (fun x=>Zq110 x.1.1 (x.1.2.1,x.1.2.2.1)) fun x=>out x.1.1
theorem ok:CodeOk PR 27 2 (.loop c) fr:=
 lp_ok tbok hmix h0 .no (G:=Zq111.G) Zq111.Gok (L:=mkL []) (l:=[]) hT [0,1,5] [] [(0,([1],[]))] ([4],[]) (fun x s=>B x.1.1 s.1 s.2) (fun x s=>⟨[(0,.cs (.sl SI) x.1.1),(1,.cs I64 s.1),(5,.cs I64 s.2)],[]⟩) (fun x=>(x.1.2.1,x.1.2.2.1))
  (fun x s=>by simp only[B,mC,mB,mS,mO,mN];kernel_rfl)
end Zq110
namespace Zq111
def pts:List PT:=[.cs (.sl SI),.cs I64]
def FS:FS:=mkFS [.sh,.sh] pts (fun x=>Zq111 x.1 x.2.1) fun t=>⟨[.cs I64 t],[]⟩
theorem ok:FsOk PR 58 FS:=
 fn_ok tbok hmix Proofs.Tryz.f58 h0 (.R (.R (.R (.L (.R (.one (.fr 0))))))) (G:=G) Gok (L:=mkL [(0,Zq110.fr)]) (l:=[(0,.loop Zq110.c)]) ⟨Lam.cons Zq110.ok,trivial⟩
  (fun x=>by simp only[Zq111,mC,mB,mS,mO,mN];kernel_rfl)
end Zq111
def Zq112 (a:Put_) (left:Int):Option Int:=
 (Zq109 a.2.1 left).bind fun r=>cond (decide (r<0)) (some (-1)) (some r)
namespace Zq112
def G:Gam:=mkG [(136,Zq109.FS)]
def pts:List PT:=[.cs tPut_,.cs I64]
def FS:FS:=mkFS [.sh,.sh] pts (fun x=>Zq112 x.1 x.2.1) fun t=>⟨[.cs I64 t],[]⟩
theorem ok:FsOk PR 137 FS:=
 fn_ok tbok hmix Proofs.Tryz.f137 ⟨[2],[],[],0⟩ .no (G:=G) (show GOk PR G from .cons Zq109.ok .nil) (L:=mkL []) (l:=[]) hT
  (fun x=>by simp only[Zq112,mC,mB,mS,mO,mN];kernel_rfl)
end Zq112
def Zq113.B (a:List Put_) (left_:Int) (i_:Int):Option ((Int×Int)⊕((Int⊕Int))):=
 cond (decide (i_<(a.length:Int))) (cond (inB i_ a.length) ((Zq112 (a.getD i_.toNat zPut_) left_).bind fun r=>cond (decide (r<0)) (some (.inr (.inl (-1)))) (some (.inl (r,w64 (i_+1))))) none) (some (.inr (.inr left_)))
def Zq113 (a:List Put_):(Int×Int)→Option ((Int⊕Int)):=
 loopL fun s=>Zq113.B a s.1 s.2
def Zq114 (a:List Put_) (left:Int):Option Int:=
 cond (decide ((w64 (left-(a.length:Int)))<0)) (some (-1)) ((Zq113 a (w64 (left-(a.length:Int)),0)).bind fun o=>sel o (fun b=>some b) (fun c=>some c))
namespace Zq114
def G:Gam:=mkG [(137,Zq112.FS)]
theorem Gok:GOk PR G:=.cons Zq112.ok .nil
end Zq114
namespace Zq113
def c:=codeAt (bodyOf Proofs.Tryz.f59) [1,1,1,0,1,0,0]
def sp:SP:=⟨[(0,.cs (.sl tPut_)),(1,.cs I64),(5,.cs I64)],[]⟩
def out (a:List Put_):FOut ((Int⊕Int)):=fun o _ k=>sel o (fun b=>k (.rt) ⟨[(4,.cs I64 b)],[]⟩) (fun c=>k (.ex 0) ⟨[(1,.cs I64 c)],[]⟩)
def fr:=lfrag sp (fun x=>Zq113 x.1.1 (x.1.2.1,x.1.2.2.1)) fun x=>out x.1.1
theorem ok:CodeOk PR 27 2 (.loop c) fr:=
 lp_ok tbok hmix h0 .no (G:=Zq114.G) Zq114.Gok (L:=mkL []) (l:=[]) hT [0,1,5] [] [(0,([1],[]))] ([4],[]) (fun x s=>B x.1.1 s.1 s.2) (fun x s=>⟨[(0,.cs (.sl tPut_) x.1.1),(1,.cs I64 s.1),(5,.cs I64 s.2)],[]⟩) (fun x=>(x.1.2.1,x.1.2.2.1))
  (fun x s=>by simp only[B,mC,mB,mS,mO,mN];kernel_rfl)
end Zq113
namespace Zq114
def pts:List PT:=[.cs (.sl tPut_),.cs I64]
def FS:FS:=mkFS [.sh,.sh] pts (fun x=>Zq114 x.1 x.2.1) fun t=>⟨[.cs I64 t],[]⟩
theorem ok:FsOk PR 59 FS:=
 fn_ok tbok hmix Proofs.Tryz.f59 h0 (.R (.R (.R (.L (.R (.one (.fr 0))))))) (G:=G) Gok (L:=mkL [(0,Zq113.fr)]) (l:=[(0,.loop Zq113.c)]) ⟨Lam.cons Zq113.ok,trivial⟩
  (fun x=>by simp only[Zq114,mC,mB,mS,mO,mN];kernel_rfl)
end Zq114
def Zq106 (a:Disk_) (left:Int):Option Int:=
 (Zq111 a.1 left).bind fun r=>cond (decide (r<0)) (some (-1)) ((Zq114 a.2.1 r).bind fun r2=>cond (decide (r2<0)) (some (-1)) (some r2))
namespace Zq106
def G:Gam:=mkG [(58,Zq111.FS),(59,Zq114.FS)]
def pts:List PT:=[.cs tDisk_,.cs I64]
def FS:FS:=mkFS [.sh,.sh] pts (fun x=>Zq106 x.1 x.2.1) fun t=>⟨[.cs I64 t],[]⟩
theorem ok:FsOk PR 14 FS:=
 fn_ok tbok hmix Proofs.Tryz.f14 ⟨[2],[],[],0⟩ .no (G:=G) (show GOk PR G from .cons Zq111.ok (.cons Zq114.ok .nil)) (L:=mkL []) (l:=[]) hT
  (fun x=>by simp only[Zq106,mC,mB,mS,mO,mN];kernel_rfl)
end Zq106
def Zq115.B (a:List Int) (i_:Int) (out_:List Int):Option ((Int×List Int)⊕(List Int)):=
 cond (decide (i_<(a.length:Int))) (cond (inB i_ a.length) (cond (inB i_ out_.length) (some (.inl (w64 (i_+1),out_.set i_.toNat (a.getD i_.toNat 0)))) none) none) (some (.inr out_))
def Zq115 (a:List Int):(Int×List Int)→Option (List Int):=
 loopL fun s=>Zq115.B a s.1 s.2
def Zq116 (a:List Int):Option (List Int):=
 cond (decide ((0:Int)≤(a.length:Int))&&(decide ((a.length:Int)≤(a.length:Int))&&decide ((a.length:Int)≤2147483648))) ((Zq115 a (0,List.replicate (a.length:Int).toNat 0)).bind fun o=>some o) none
namespace Zq115
def c:=codeAt (bodyOf Proofs.Tryz.f151) [1,1,0,1,0,0]
def sp:SP:=⟨[(0,.cs SI),(3,.seg 3 []),(4,.cs I64)],[(3,.reg,.cd SI)]⟩
def out (a:List Int):FOut (List Int):=fun b _ k=>k (.ex 0) ⟨[(3,.seg 3 [])],[sr 3 (.cd SI b)]⟩
def fr:=lfrag sp (fun x=>Zq115 x.1.1 (x.1.2.2.1,x.2.1)) fun x=>out x.1.1
theorem ok:CodeOk PR 22 1 (.loop c) fr:=
 lp_ok tbok hmix h0 .no (G:=(mkG [])) .nil (L:=mkL []) (l:=[]) hT [0,3,4] [3] [(0,([3],[3]))] ([],[]) (fun x s=>B x.1.1 s.1 s.2) (fun x s=>⟨[(0,.cs SI x.1.1),(3,.seg 3 []),(4,.cs I64 s.1)],[sr 3 (.cd SI s.2)]⟩) (fun x=>(x.1.2.2.1,x.2.1))
  (fun x s=>by simp only[B,mC,mB,mS,mO,mN];kernel_rfl)
end Zq115
namespace Zq116
def pts:List PT:=[.cs SI]
def FS:FS:=mkFS [.sh] pts (fun x=>Zq116 x.1) fun t=>⟨[.cd SI t],[]⟩
theorem ok:FsOk PR 151 FS:=
 fn_ok tbok hmix Proofs.Tryz.f151 h0 (.R (.R (.L (.R (.one (.fr 0)))))) (G:=(mkG [])) .nil (L:=mkL [(0,Zq115.fr)]) (l:=[(0,.loop Zq115.c)]) ⟨Lam.cons Zq115.ok,trivial⟩
  (fun x=>by simp only[Zq116,mC,mB,mS,mO,mN];kernel_rfl)
end Zq116
def Zq117.B (a:List (List Int)) (i_:Int) (out_:List (List Int)):Option ((Int×List (List Int))⊕(List (List Int))):=
 cond (decide (i_<(a.length:Int))) (cond (inB i_ a.length) ((Zq116 (a.getD i_.toNat [])).bind fun r=>cond (inB i_ out_.length) (some (.inl (w64 (i_+1),out_.set i_.toNat r))) none) none) (some (.inr out_))
def Zq117 (a:List (List Int)):(Int×List (List Int))→Option (List (List Int)):=
 loopL fun s=>Zq117.B a s.1 s.2
def Zq118 (a:List (List Int)):Option (List (List Int)):=
 cond (decide ((0:Int)≤(a.length:Int))&&(decide ((a.length:Int)≤(a.length:Int))&&decide ((a.length:Int)≤2147483648))) ((some (List.replicate (a.length:Int).toNat ([]:List Int))).bind fun v=>(Zq117 a (0,v)).bind fun o=>some o) none
namespace Zq118
def G:Gam:=mkG [(151,Zq116.FS)]
theorem Gok:GOk PR G:=.cons Zq116.ok .nil
end Zq118
namespace Zq117
def c:=codeAt (bodyOf Proofs.Tryz.f65) [1,1,0,1,0,0]
def sp:SP:=⟨[(0,.cs (.sl SI)),(3,.seg 3 []),(4,.cs I64)],[(3,.reg,.cd (.sl SI))]⟩
def out (a:List (List Int)):FOut (List (List Int)):=fun b _ k=>k (.ex 0) ⟨[(3,.seg 3 [])],[sr 3 (.cd (.sl SI) b)]⟩
def fr:=lfrag sp (fun x=>Zq117 x.1.1 (x.1.2.2.1,x.2.1)) fun x=>out x.1.1
theorem ok:CodeOk PR 23 1 (.loop c) fr:=
 lp_ok tbok hmix h0 .no (G:=Zq118.G) Zq118.Gok (L:=mkL []) (l:=[]) hT [0,3,4] [3] [(0,([3],[3]))] ([],[]) (fun x s=>B x.1.1 s.1 s.2) (fun x s=>⟨[(0,.cs (.sl SI) x.1.1),(3,.seg 3 []),(4,.cs I64 s.1)],[sr 3 (.cd (.sl SI) s.2)]⟩) (fun x=>(x.1.2.2.1,x.2.1))
  (fun x s=>by simp only[B,mC,mB,mS,mO,mN];kernel_rfl)
end Zq117
namespace Zq118
def pts:List PT:=[.cs (.sl SI)]
def FS:FS:=mkFS [.sh] pts (fun x=>Zq118 x.1) fun t=>⟨[.cd (.sl SI) t],[]⟩
theorem ok:FsOk PR 65 FS:=
 fn_ok tbok hmix Proofs.Tryz.f65 h0 (.R (.R (.L (.R (.one (.fr 0)))))) (G:=G) Gok (L:=mkL [(0,Zq117.fr)]) (l:=[(0,.loop Zq117.c)]) ⟨Lam.cons Zq117.ok,trivial⟩
  (fun x=>by simp only[Zq118,mC,mB,mS,mO,mN];kernel_rfl)
end Zq118
def Zq119 (a:Put_):Option Put_:=
 (Zq116 a.2.1).bind fun r=>some (a.1,r,())
namespace Zq119
def G:Gam:=mkG [(151,Zq116.FS)]
def pts:List PT:=[.cs tPut_]
def FS:FS:=mkFS [.sh] pts (fun x=>Zq119 x.1) fun t=>⟨[.cd tPut_ t],[]⟩
theorem ok:FsOk PR 152 FS:=
 fn_ok tbok hmix Proofs.Tryz.f152 ⟨[1],[],[],0⟩ .no (G:=G) (show GOk PR G from .cons Zq116.ok .nil) (L:=mkL []) (l:=[]) hT
  (fun x=>by simp only[Zq119,mC,mB,mS,mO,mN];kernel_rfl)
end Zq119
def Zq120.B (a:List Put_) (i_:Int) (out_:List Put_):Option ((Int×List Put_)⊕(List Put_)):=
 cond (decide (i_<(a.length:Int))) (cond (inB i_ a.length) ((Zq119 (a.getD i_.toNat zPut_)).bind fun r=>cond (inB i_ out_.length) (some (.inl (w64 (i_+1),out_.set i_.toNat (r.1,r.2.1,r.2.2)))) none) none) (some (.inr out_))
def Zq120 (a:List Put_):(Int×List Put_)→Option (List Put_):=
 loopL fun s=>Zq120.B a s.1 s.2
def Zq121 (a:List Put_):Option (List Put_):=
 cond (decide ((0:Int)≤(a.length:Int))&&(decide ((a.length:Int)≤(a.length:Int))&&decide ((a.length:Int)≤2147483648))) ((Zq120 a (0,List.replicate (a.length:Int).toNat zPut_)).bind fun o=>some o) none
namespace Zq121
def G:Gam:=mkG [(152,Zq119.FS)]
theorem Gok:GOk PR G:=.cons Zq119.ok .nil
end Zq121
namespace Zq120
def c:=codeAt (bodyOf Proofs.Tryz.f66) [1,1,0,1,0,0]
def sp:SP:=⟨[(0,.cs (.sl tPut_)),(3,.seg 3 []),(4,.cs I64)],[(3,.reg,.cd (.sl tPut_))]⟩
def out (a:List Put_):FOut (List Put_):=fun b _ k=>k (.ex 0) ⟨[(3,.seg 3 [])],[sr 3 (.cd (.sl tPut_) b)]⟩
def fr:=lfrag sp (fun x=>Zq120 x.1.1 (x.1.2.2.1,x.2.1)) fun x=>out x.1.1
theorem ok:CodeOk PR 23 1 (.loop c) fr:=
 lp_ok tbok hmix h0 .no (G:=Zq121.G) Zq121.Gok (L:=mkL []) (l:=[]) hT [0,3,4] [3] [(0,([3],[3]))] ([],[]) (fun x s=>B x.1.1 s.1 s.2) (fun x s=>⟨[(0,.cs (.sl tPut_) x.1.1),(3,.seg 3 []),(4,.cs I64 s.1)],[sr 3 (.cd (.sl tPut_) s.2)]⟩) (fun x=>(x.1.2.2.1,x.2.1))
  (fun x s=>by simp only[B,mC,mB,mS,mO,mN];kernel_rfl)
end Zq120
namespace Zq121
def pts:List PT:=[.cs (.sl tPut_)]
def FS:FS:=mkFS [.sh] pts (fun x=>Zq121 x.1) fun t=>⟨[.cd (.sl tPut_) t],[]⟩
theorem ok:FsOk PR 66 FS:=
 fn_ok tbok hmix Proofs.Tryz.f66 h0 (.R (.R (.L (.R (.one (.fr 0)))))) (G:=G) Gok (L:=mkL [(0,Zq120.fr)]) (l:=[(0,.loop Zq120.c)]) ⟨Lam.cons Zq120.ok,trivial⟩
  (fun x=>by simp only[Zq121,mC,mB,mS,mO,mN];kernel_rfl)
end Zq121
def Zq107 (a:Disk_):Option Disk_:=
 (Zq118 a.1).bind fun r=>(Zq121 a.2.1).bind fun r2=>some (r,r2,())
namespace Zq107
def G:Gam:=mkG [(65,Zq118.FS),(66,Zq121.FS)]
def pts:List PT:=[.cs tDisk_]
def FS:FS:=mkFS [.sh] pts (fun x=>Zq107 x.1) fun t=>⟨[.cd tDisk_ t],[]⟩
theorem ok:FsOk PR 17 FS:=
 fn_ok tbok hmix Proofs.Tryz.f17 ⟨[1],[],[],0⟩ .no (G:=G) (show GOk PR G from .cons Zq118.ok (.cons Zq121.ok .nil)) (L:=mkL []) (l:=[]) hT
  (fun x=>by simp only[Zq107,mC,mB,mS,mO,mN];kernel_rfl)
end Zq107
def Zq122 (v:Int) (low:Int) (high:Int):Option Bool:=
 (some (cond (decide (v≥low)) (decide (v≤high)) false)).bind fun v2=>some v2
namespace Zq122
def pts:List PT:=[.cs I64,.cs I64,.cs I64]
def FS:FS:=mkFS [.sh,.sh,.sh] pts (fun x=>Zq122 x.1 x.2.1 x.2.2.1) fun t=>⟨[.cs .bool t],[]⟩
theorem ok:FsOk PR 219 FS:=
 fn_ok tbok hmix Proofs.Tryz.f219 h0 .no (G:=(mkG [])) .nil (L:=mkL []) (l:=[]) hT
  (fun x=>by simp only[Zq122,mC,mB,mS,mO,mN];kernel_rfl)
end Zq122
def Zq123.B (w:List Int) (i_:Int):Option (Int⊕((Int⊕Unit))):=
 cond (decide (i_<(w.length:Int))) (cond (inB i_ w.length) ((Zq122 (w.getD i_.toNat 0) 0 65535).bind fun r=>cond (!r) (some (.inr (.inl 3))) (some (.inl (w64 (i_+1))))) none) (some (.inr (.inr ())))
def Zq123 (w:List Int):Int→Option ((Int⊕Unit)):=
 loopL fun s=>Zq123.B w s
def Zq124 (w:List Int):Option Int:=
 cond (decide ((w.length:Int)>64)) (some 2) ((Zq123 w 0).bind fun o=>sel o (fun b=>some b) (fun c=>some 0))
namespace Zq124
def G:Gam:=mkG [(219,Zq122.FS)]
theorem Gok:GOk PR G:=.cons Zq122.ok .nil
end Zq124
namespace Zq123
def c:=codeAt (bodyOf Proofs.Tryz.f218) [1,1,0,1,0,0]
def sp:SP:=⟨[(0,.cs SI),(3,.cs I64)],[]⟩
def out (w:List Int):FOut ((Int⊕Unit)):=fun o _ k=>sel o (fun b=>k (.rt) ⟨[(2,.cs I64 b)],[]⟩) (fun c=>k (.ex 0) ⟨[],[]⟩)
def fr:=lfrag sp (fun x=>Zq123 x.1.1 x.1.2.1) fun x=>out x.1.1
theorem ok:CodeOk PR 19 1 (.loop c) fr:=
 lp_ok tbok hmix h0 .no (G:=Zq124.G) Zq124.Gok (L:=mkL []) (l:=[]) hT [0,3] [] [(0,([],[]))] ([2],[]) (fun x s=>B x.1.1 s) (fun x s=>⟨[(0,.cs SI x.1.1),(3,.cs I64 s)],[]⟩) (fun x=>x.1.2.1)
  (fun x s=>by simp only[B,mC,mB,mS,mO,mN];kernel_rfl)
end Zq123
namespace Zq124
def pts:List PT:=[.cs SI]
def FS:FS:=mkFS [.sh] pts (fun x=>Zq124 x.1) fun t=>⟨[.cs I64 t],[]⟩
theorem ok:FsOk PR 218 FS:=
 fn_ok tbok hmix Proofs.Tryz.f218 h0 (.R (.R (.L (.R (.one (.fr 0)))))) (G:=G) Gok (L:=mkL [(0,Zq123.fr)]) (l:=[(0,.loop Zq123.c)]) ⟨Lam.cons Zq123.ok,trivial⟩
  (fun x=>by simp only[Zq124,mC,mB,mS,mO,mN];kernel_rfl)
end Zq124
def Zq125.B (d:Disk_) (i_:Int):Option (Int⊕((Int⊕Unit))):=
 cond (decide (i_<(d.1.length:Int))) (cond (inB i_ d.1.length) ((Zq124 (d.1.getD i_.toNat [])).bind fun r=>cond (r != 0) (some (.inr (.inl r))) (some (.inl (w64 (i_+1))))) none) (some (.inr (.inr ())))
def Zq125 (d:Disk_):Int→Option ((Int⊕Unit)):=
 loopL fun s=>Zq125.B d s
def Zq126.B (d:Disk_) (i_2:Int):Option (Int⊕((Int⊕Unit))):=
 cond (decide (i_2<(d.2.1.length:Int))) (cond (inB i_2 d.2.1.length) ((Zq122 (d.2.1.getD i_2.toNat zPut_).1 0 (w64 ((d.1.length:Int)-1))).bind fun r2=>cond (!r2) (some (.inr (.inl 3))) (cond (inB i_2 d.2.1.length) ((Zq124 (d.2.1.getD i_2.toNat zPut_).2.1).bind fun r3=>cond (r3 != 0) (some (.inr (.inl r3))) (some (.inl (w64 (i_2+1))))) none)) none) (some (.inr (.inr ())))
def Zq126 (d:Disk_):Int→Option ((Int⊕Unit)):=
 loopL fun s=>Zq126.B d s
def Zq127 (d:Disk_):Option Int:=
 (some (cond (decide ((d.1.length:Int)>60)) true (decide ((d.2.1.length:Int)>200)))).bind fun v=>cond v (some 2) ((Zq125 d 0).bind fun o=>sel o (fun b=>some b) (fun c=>(Zq126 d 0).bind fun o2=>sel o2 (fun b2=>some b2) (fun c2=>some 0)))
namespace Zq127
def G:Gam:=mkG [(218,Zq124.FS),(219,Zq122.FS)]
theorem Gok:GOk PR G:=.cons Zq124.ok (.cons Zq122.ok .nil)
end Zq127
namespace Zq125
def c:=codeAt (bodyOf Proofs.Tryz.f140) [1,1,0,1,0,0]
def sp:SP:=⟨[(0,.pt tDisk_),(3,.cs I64)],[]⟩
def out (d:Disk_):FOut ((Int⊕Unit)):=fun o _ k=>sel o (fun b=>k (.rt) ⟨[(2,.cs I64 b)],[]⟩) (fun c=>k (.ex 0) ⟨[(0,.pt tDisk_ d)],[]⟩)
def fr:=lfrag sp (fun x=>Zq125 x.1.1 x.1.2.1) fun x=>out x.1.1
theorem ok:CodeOk PR 78 1 (.loop c) fr:=
 lp_ok tbok hmix h0 .no (G:=Zq127.G) Zq127.Gok (L:=mkL []) (l:=[]) hT [0,3] [] [(0,([0],[]))] ([2],[]) (fun x s=>B x.1.1 s) (fun x s=>⟨[(0,.pt tDisk_ x.1.1),(3,.cs I64 s)],[]⟩) (fun x=>x.1.2.1)
  (fun x s=>by simp only[B,mC,mB,mS,mO,mN];kernel_rfl)
end Zq125
namespace Zq126
def c:=codeAt (bodyOf Proofs.Tryz.f140) [1,1,1,0,1,0,0]
def sp:SP:=⟨[(0,.pt tDisk_),(5,.cs I64)],[]⟩
def out (d:Disk_):FOut ((Int⊕Unit)):=fun o _ k=>sel o (fun b=>k (.rt) ⟨[(2,.cs I64 b)],[]⟩) (fun c=>k (.ex 2) ⟨[],[]⟩)
def fr:=lfrag sp (fun x=>Zq126 x.1.1 x.1.2.1) fun x=>out x.1.1
theorem ok:CodeOk PR 78 1 (.loop c) fr:=
 lp_ok tbok hmix h0 .no (G:=Zq127.G) Zq127.Gok (L:=mkL []) (l:=[]) hT [0,5] [] [(2,([],[]))] ([2],[]) (fun x s=>B x.1.1 s) (fun x s=>⟨[(0,.pt tDisk_ x.1.1),(5,.cs I64 s)],[]⟩) (fun x=>x.1.2.1)
  (fun x s=>by simp only[B,mC,mB,mS,mO,mN];kernel_rfl)
end Zq126
namespace Zq127
def pts:List PT:=[.pt tDisk_]
def FS:FS:=mkFS [.sh] pts (fun x=>Zq127 x.1) fun t=>⟨[.cs I64 t],[]⟩
theorem ok:FsOk PR 140 FS:=
 fn_ok tbok hmix Proofs.Tryz.f140 h0 (.R (.R (.two (.R (.one (.fr 0))) (.L (.R (.one (.fr 1))))))) (G:=G) Gok (L:=mkL [(0,Zq125.fr),(1,Zq126.fr)]) (l:=[(0,.loop Zq125.c),(1,.loop Zq126.c)]) ⟨Lam.cons Zq125.ok,Lam.skip rfl (Lam.cons Zq126.ok),trivial⟩
  (fun x=>by simp only[Zq127,mC,mB,mS,mO,mN];kernel_rfl)
end Zq127
def Zq128.B (d:Disk_) (at_:Int) (i_:Int):Option (Int⊕(((List Int)⊕Unit))):=
 cond (decide (i_≥0)) (cond (inB i_ d.2.1.length) (cond ((d.2.1.getD i_.toNat zPut_).1 == at_) (cond (inB i_ d.2.1.length) (some (.inr (.inl (d.2.1.getD i_.toNat zPut_).2.1))) none) (some (.inl (w64 (i_-1))))) none) (some (.inr (.inr ())))
def Zq128 (d:Disk_) (at_:Int):Int→Option (((List Int)⊕Unit)):=
 loopL fun s=>Zq128.B d at_ s
def Zq129 (d:Disk_) (at_:Int):Option (List Int):=
 (Zq128 d at_ (w64 ((d.2.1.length:Int)-1))).bind fun o=>sel o (fun b=>some b) (fun c=>cond (inB at_ d.1.length) (some (d.1.getD at_.toNat [])) none)
namespace Zq128
def c:=codeAt (bodyOf Proofs.Tryz.f141) [1,0,1,0,0]
def sp:SP:=⟨[(0,.pt tDisk_),(1,.cs I64),(5,.cs I64)],[]⟩
def out (d:Disk_) (at_:Int):FOut (((List Int)⊕Unit)):=fun o _ k=>sel o (fun b=>k (.rt) ⟨[(4,.cs SI b)],[]⟩) (fun c=>k (.ex 0) ⟨[(0,.pt tDisk_ d),(1,.cs I64 at_)],[]⟩)
def fr:=lfrag sp (fun x=>Zq128 x.1.1 x.1.2.1 x.1.2.2.1) fun x=>out x.1.1 x.1.2.1
theorem ok:CodeOk PR 41 2 (.loop c) fr:=
 lp_ok tbok hmix h0 .no (G:=(mkG [])) .nil (L:=mkL []) (l:=[]) hT [0,1,5] [] [(0,([0,1],[]))] ([4],[]) (fun x s=>B x.1.1 x.1.2.1 s) (fun x s=>⟨[(0,.pt tDisk_ x.1.1),(1,.cs I64 x.1.2.1),(5,.cs I64 s)],[]⟩) (fun x=>x.1.2.2.1)
  (fun x s=>by simp only[B,mC,mB,mS,mO,mN];kernel_rfl)
end Zq128
namespace Zq129
def pts:List PT:=[.pt tDisk_,.cs I64]
def FS:FS:=mkFS [.sh,.sh] pts (fun x=>Zq129 x.1 x.2.1) fun t=>⟨[.cs SI t],[]⟩
theorem ok:FsOk PR 141 FS:=
 fn_ok tbok hmix Proofs.Tryz.f141 h0 (.R (.L (.R (.one (.fr 0))))) (G:=(mkG [])) .nil (L:=mkL [(0,Zq128.fr)]) (l:=[(0,.loop Zq128.c)]) ⟨Lam.cons Zq128.ok,trivial⟩
  (fun x=>by simp only[Zq129,mC,mB,mS,mO,mN];kernel_rfl)
end Zq129
def Zq130 (n:Int):Option Bool:=
 (Zq122 n 1 60000).bind fun r=>some r
namespace Zq130
def G:Gam:=mkG [(219,Zq122.FS)]
def pts:List PT:=[.cs I64]
def FS:FS:=mkFS [.sh] pts (fun x=>Zq130 x.1) fun t=>⟨[.cs .bool t],[]⟩
theorem ok:FsOk PR 142 FS:=
 fn_ok tbok hmix Proofs.Tryz.f142 h0 .no (G:=G) (show GOk PR G from .cons Zq122.ok .nil) (L:=mkL []) (l:=[]) hT
  (fun x=>by simp only[Zq130,mC,mB,mS,mO,mN];kernel_rfl)
end Zq130
def Zq131 (d:Disk_):Option IntResult_:=
 (Zq127 d).bind fun r=>cond (r != 0) (some (r,0,())) (cond ((d.1.length:Int) != 47) (some (1,0,())) ((Zq129 d 0).bind fun r2=>cond (cond (!((r2.length:Int) != 2)) (inB 0 r2.length) true) ((some (cond ((r2.length:Int) != 2) true ((r2.getD (0:Int).toNat 0) != 7))).bind fun v=>cond v (some (5,0,())) (cond (inB 1 r2.length) ((Zq130 (r2.getD (1:Int).toNat 0)).bind fun r3=>cond (!r3) (some (5,0,())) (cond (inB 1 r2.length) (some (0,r2.getD (1:Int).toNat 0,())) none)) none)) none))
namespace Zq131
def G:Gam:=mkG [(140,Zq127.FS),(141,Zq129.FS),(142,Zq130.FS)]
def pts:List PT:=[.cs tDisk_]
def FS:FS:=mkFS [.sh] pts (fun x=>Zq131 x.1) fun t=>⟨[.cs tIntResult_ t],[]⟩
theorem ok:FsOk PR 62 FS:=
 fn_ok tbok hmix Proofs.Tryz.f62 ⟨[1],[],[],0⟩ .no (G:=G) (show GOk PR G from .cons Zq127.ok (.cons Zq129.ok (.cons Zq130.ok .nil))) (L:=mkL []) (l:=[]) hT
  (fun x=>by simp only[Zq131,mC,mB,mS,mO,mN];kernel_rfl)
end Zq131
def Zq132.B (a:List Int) (b:List Int) (i_:Int):Option (Int⊕((Bool⊕Unit))):=
 cond (decide (i_<(a.length:Int))) (cond (inB i_ a.length) (cond (inB i_ b.length) (cond ((a.getD i_.toNat 0) != (b.getD i_.toNat 0)) (some (.inr (.inl false))) (some (.inl (w64 (i_+1))))) none) none) (some (.inr (.inr ())))
def Zq132 (a:List Int) (b:List Int):Int→Option ((Bool⊕Unit)):=
 loopL fun s=>Zq132.B a b s
def Zq133 (a:List Int) (b:List Int):Option Bool:=
 cond ((a.length:Int) != (b.length:Int)) (some false) ((Zq132 a b 0).bind fun o=>sel o (fun b2=>some b2) (fun c=>some true))
namespace Zq132
def c:=codeAt (bodyOf Proofs.Tryz.f225) [1,1,0,1,0,0]
def sp:SP:=⟨[(0,.cs SI),(1,.cs SI),(5,.cs I64)],[]⟩
def out (a:List Int) (b:List Int):FOut ((Bool⊕Unit)):=fun o _ k=>sel o (fun b=>k (.rt) ⟨[(4,.cs .bool b)],[]⟩) (fun c=>k (.ex 0) ⟨[],[]⟩)
def fr:=lfrag sp (fun x=>Zq132 x.1.1 x.1.2.1 x.1.2.2.1) fun x=>out x.1.1 x.1.2.1
theorem ok:CodeOk PR 26 2 (.loop c) fr:=
 lp_ok tbok hmix h0 .no (G:=(mkG [])) .nil (L:=mkL []) (l:=[]) hT [0,1,5] [] [(0,([],[]))] ([4],[]) (fun x s=>B x.1.1 x.1.2.1 s) (fun x s=>⟨[(0,.cs SI x.1.1),(1,.cs SI x.1.2.1),(5,.cs I64 s)],[]⟩) (fun x=>x.1.2.2.1)
  (fun x s=>by simp only[B,mC,mB,mS,mO,mN];kernel_rfl)
end Zq132
namespace Zq133
def pts:List PT:=[.cs SI,.cs SI]
def FS:FS:=mkFS [.sh,.sh] pts (fun x=>Zq133 x.1 x.2.1) fun t=>⟨[.cs .bool t],[]⟩
theorem ok:FsOk PR 225 FS:=
 fn_ok tbok hmix Proofs.Tryz.f225 h0 (.R (.R (.L (.R (.one (.fr 0)))))) (G:=(mkG [])) .nil (L:=mkL [(0,Zq132.fr)]) (l:=[(0,.loop Zq132.c)]) ⟨Lam.cons Zq132.ok,trivial⟩
  (fun x=>by simp only[Zq133,mC,mB,mS,mO,mN];kernel_rfl)
end Zq133
def Zq134 (w:List Int):Option (List Int):=
 cond (decide (([]++w).length≤2147483648)) (some ([]++w)) none
namespace Zq134
def pts:List PT:=[.cs SI]
def FS:FS:=mkFS [.sh] pts (fun x=>Zq134 x.1) fun t=>⟨[.cd SI t],[]⟩
theorem ok:FsOk PR 149 FS:=
 fn_ok tbok hmix Proofs.Tryz.f149 h0 .no (G:=(mkG [])) .nil (L:=mkL []) (l:=[]) hT
  (fun x=>by simp only[Zq134,mC,mB,mS,mO,mN];kernel_rfl)
end Zq134
def Zq135.B (d:Disk_) (r:List Int) (n_:Int) (i_:Int) (out_:List Put_):Option ((Int×List Put_)⊕(((Bool×List Put_)⊕(List Put_)))):=
 cond (decide (i_<n_)) (cond (inB (w64 ((3:Int)+i_)) r.length) ((Zq122 (r.getD (w64 ((3:Int)+i_)).toNat 0) 17 26).bind fun r5=>cond (!r5) (some (.inr (.inl (false,[])))) (cond (inB (w64 ((3:Int)+i_)) r.length) ((Zq129 d (w64 ((2:Int)+i_))).bind fun r6=>(Zq134 r6).bind fun r7=>(some (out_++([(r.getD (w64 ((3:Int)+i_)).toNat 0,r7,())]))).bind fun v3=>cond (decide (v3.length≤2147483648)) (some (.inl (w64 (i_+1),v3))) none) none)) none) (some (.inr (.inr out_)))
def Zq135 (d:Disk_) (r:List Int) (n_:Int):(Int×List Put_)→Option (((Bool×List Put_)⊕(List Put_))):=
 loopL fun s=>Zq135.B d r n_ s.1 s.2
def Zq136 (d:Disk_) (seq:Int):Option ((List Put_)×Bool):=
 (Zq129 d 1).bind fun r=>cond (cond (!(decide ((r.length:Int)<3))) (inB 0 r.length) true) ((some (cond (decide ((r.length:Int)<3)) true ((r.getD (0:Int).toNat 0) != 1))).bind fun v=>cond (cond (!v) (inB 1 r.length) true) (cond (cond v true ((r.getD (1:Int).toNat 0) != seq)) (cond (cond (!true) (inB 2 r.length) true) (some ([],false)) none) (cond (inB 2 r.length) ((Zq122 (r.getD (2:Int).toNat 0) 0 10).bind fun r2=>cond (cond (!(!r2)) (inB 2 r.length) true) ((some (cond (!r2) true ((r.length:Int) != (w64 ((3:Int)+(r.getD (2:Int).toNat 0)))))).bind fun v2=>cond v2 (some ([],false)) (cond (inB 2 r.length) ((Zq129 d (w64 ((2:Int)+(r.getD (2:Int).toNat 0)))).bind fun r3=>(Zq133 r3 ([2,seq,r.getD (2:Int).toNat 0])).bind fun r4=>cond (!r4) (some ([],false)) ((Zq135 d r (r.getD (2:Int).toNat 0) (0,[])).bind fun o=>sel o (fun b=>some (b.2,b.1)) (fun c=>some (c,true)))) none)) none) none)) none) none
namespace Zq136
def G:Gam:=mkG [(141,Zq129.FS),(219,Zq122.FS),(225,Zq133.FS),(149,Zq134.FS)]
theorem Gok:GOk PR G:=.cons Zq129.ok (.cons Zq122.ok (.cons Zq133.ok (.cons Zq134.ok .nil)))
end Zq136
namespace Zq135
def c:=codeAt (bodyOf Proofs.Tryz.f199) [1,1,1,1,1,1,0,1,0,0]
def sp:SP:=⟨[(0,.pt tDisk_),(6,.cs SI),(7,.cs I64),(8,.seg 8 []),(9,.cs I64)],[(8,.reg,.cd (.sl tPut_))]⟩
def out (d:Disk_) (r:List Int) (n_:Int):FOut (((Bool×List Put_)⊕(List Put_))):=fun o _ k=>sel o (fun b=>k (.rt) ⟨[(4,.seg 4 []),(5,.cs .bool b.1)],[sr 4 (.cd (.sl tPut_) b.2)]⟩) (fun c=>k (.ex 0) ⟨[(8,.seg 8 [])],[sr 8 (.cd (.sl tPut_) c)]⟩)
def fr:=lfrag sp (fun x=>Zq135 x.1.1 x.1.2.1 x.1.2.2.1 (x.1.2.2.2.2.1,x.2.1)) fun x=>out x.1.1 x.1.2.1 x.1.2.2.1
theorem ok:CodeOk PR 84 2 (.loop c) fr:=
 lp_ok tbok hmix h0 .no (G:=Zq136.G) Zq136.Gok (L:=mkL []) (l:=[]) hT [0,6,7,8,9] [8] [(0,([8],[8]))] ([4,5],[4]) (fun x s=>B x.1.1 x.1.2.1 x.1.2.2.1 s.1 s.2) (fun x s=>⟨[(0,.pt tDisk_ x.1.1),(6,.cs SI x.1.2.1),(7,.cs I64 x.1.2.2.1),(8,.seg 8 []),(9,.cs I64 s.1)],[sr 8 (.cd (.sl tPut_) s.2)]⟩) (fun x=>(x.1.2.2.2.2.1,x.2.1))
  (fun x s=>by simp only[B,mC,mB,mS,mO,mN];kernel_rfl)
end Zq135
namespace Zq136
def pts:List PT:=[.pt tDisk_,.cs I64]
def FS:FS:=mkFS [.sh,.sh] pts (fun x=>Zq136 x.1 x.2.1) fun t=>⟨[.cd (.sl tPut_) t.1,.cs .bool t.2],[]⟩
theorem ok:FsOk PR 199 FS:=
 fn_ok tbok hmix Proofs.Tryz.f199 h0 (.R (.R (.R (.R (.R (.R (.L (.R (.one (.fr 0)))))))))) (G:=G) Gok (L:=mkL [(0,Zq135.fr)]) (l:=[(0,.loop Zq135.c)]) ⟨Lam.cons Zq135.ok,trivial⟩
  (fun x=>by simp only[Zq136,mC,mB,mS,mO,mN];kernel_rfl)
end Zq136
def Zq137.B (list:List Put_) (i_:Int) (out_:List Step_):Option ((Int×List Step_)⊕(List Step_)):=
 cond (decide (i_<(list.length:Int))) (cond (inB i_ list.length) (cond (inB i_ list.length) ((Zq134 (list.getD i_.toNat zPut_).2.1).bind fun r=>(some (out_++([(false,(list.getD i_.toNat zPut_).1,r,())]))).bind fun v=>cond (decide (v.length≤2147483648)) (some (.inl (w64 (i_+1),v))) none) none) none) (some (.inr out_))
def Zq137 (list:List Put_):(Int×List Step_)→Option (List Step_):=
 loopL fun s=>Zq137.B list s.1 s.2
def Zq138 (list:List Put_):Option (List Step_):=
 (Zq137 list (0,[])).bind fun o=>some o
namespace Zq138
def G:Gam:=mkG [(149,Zq134.FS)]
theorem Gok:GOk PR G:=.cons Zq134.ok .nil
end Zq138
namespace Zq137
def c:=codeAt (bodyOf Proofs.Tryz.f147) [1,1,0,1,0,0]
def sp:SP:=⟨[(0,.cs (.sl tPut_)),(3,.seg 3 []),(4,.cs I64)],[(3,.reg,.cd (.sl tStep_))]⟩
def out (list:List Put_):FOut (List Step_):=fun b _ k=>k (.ex 0) ⟨[(3,.seg 3 [])],[sr 3 (.cd (.sl tStep_) b)]⟩
def fr:=lfrag sp (fun x=>Zq137 x.1.1 (x.1.2.2.1,x.2.1)) fun x=>out x.1.1
theorem ok:CodeOk PR 28 1 (.loop c) fr:=
 lp_ok tbok hmix h0 .no (G:=Zq138.G) Zq138.Gok (L:=mkL []) (l:=[]) hT [0,3,4] [3] [(0,([3],[3]))] ([],[]) (fun x s=>B x.1.1 s.1 s.2) (fun x s=>⟨[(0,.cs (.sl tPut_) x.1.1),(3,.seg 3 []),(4,.cs I64 s.1)],[sr 3 (.cd (.sl tStep_) s.2)]⟩) (fun x=>(x.1.2.2.1,x.2.1))
  (fun x s=>by simp only[B,mC,mB,mS,mO,mN];kernel_rfl)
end Zq137
namespace Zq138
def pts:List PT:=[.cs (.sl tPut_)]
def FS:FS:=mkFS [.sh] pts (fun x=>Zq138 x.1) fun t=>⟨[.cd (.sl tStep_) t],[]⟩
theorem ok:FsOk PR 147 FS:=
 fn_ok tbok hmix Proofs.Tryz.f147 h0 (.R (.R (.L (.R (.one (.fr 0)))))) (G:=G) Gok (L:=mkL [(0,Zq137.fr)]) (l:=[(0,.loop Zq137.c)]) ⟨Lam.cons Zq137.ok,trivial⟩
  (fun x=>by simp only[Zq138,mC,mB,mS,mO,mN];kernel_rfl)
end Zq138
def Zq139 (seq:Int):Option (List Step_):=
 some ([(true,0,[],()),(false,0,[7,w64 (seq+1)],()),(true,0,[],())])
namespace Zq139
def pts:List PT:=[.cs I64]
def FS:FS:=mkFS [.sh] pts (fun x=>Zq139 x.1) fun t=>⟨[.cd (.sl tStep_) t],[]⟩
theorem ok:FsOk PR 150 FS:=
 fn_ok tbok hmix Proofs.Tryz.f150 h0 .no (G:=(mkG [])) .nil (L:=mkL []) (l:=[]) hT
  (fun x=>by simp only[Zq139,mC,mB,mS,mO,mN];kernel_rfl)
end Zq139
def Zq140 (d:Disk_):Option StepsResult_:=
 (Zq131 d).bind fun r=>cond (r.1 != 0) (some (r.1,[],())) ((Zq136 d r.2.1).bind fun r2=>cond (cond (!r2.2) true (decide (r.2.1≥60000))) (some (0,[],())) ((Zq138 r2.1).bind fun r3=>(Zq139 r.2.1).bind fun r4=>cond (decide ((r3++r4).length≤2147483648)) (some (0,r3++r4,())) none))
namespace Zq140
def G:Gam:=mkG [(62,Zq131.FS),(199,Zq136.FS),(147,Zq138.FS),(150,Zq139.FS)]
def pts:List PT:=[.cs tDisk_]
def FS:FS:=mkFS [.sh] pts (fun x=>Zq140 x.1) fun t=>⟨[.cd tStepsResult_ t],[]⟩
theorem ok:FsOk PR 119 FS:=
 fn_ok tbok hmix Proofs.Tryz.f119 ⟨[1],[],[],0⟩ .no (G:=G) (show GOk PR G from .cons Zq131.ok (.cons Zq136.ok (.cons Zq138.ok (.cons Zq139.ok .nil)))) (L:=mkL []) (l:=[]) hT
  (fun x=>by simp only[Zq140,mC,mB,mS,mO,mN];kernel_rfl)
end Zq140
def Zq141.B (d:Disk_) (v:Disk_) (i_:Int) (out_:Disk_):Option ((Int×Disk_)⊕Disk_):=
 cond (decide (i_<(d.1.length:Int))) (cond (inB i_ d.1.length) ((Zq134 (d.1.getD i_.toNat [])).bind fun r=>cond (decide ((out_.1++([r])).length≤2147483648)) (some (.inl (w64 (i_+1),(out_.1++([r]),out_.2)))) none) none) (some (.inr out_))
def Zq141 (d:Disk_) (v:Disk_):(Int×Disk_)→Option Disk_:=
 loopL fun s=>Zq141.B d v s.1 s.2
def Zq142.B (d:Disk_) (v2:Disk_) (i_2:Int) (out_2:Disk_):Option ((Int×Disk_)⊕Disk_):=
 cond (decide (i_2<(d.2.1.length:Int))) (cond (inB i_2 d.2.1.length) (cond (inB i_2 d.2.1.length) ((Zq134 (d.2.1.getD i_2.toNat zPut_).2.1).bind fun r2=>(some (out_2.2.1++([((d.2.1.getD i_2.toNat zPut_).1,r2,())]))).bind fun v3=>cond (decide (v3.length≤2147483648)) (some (.inl (w64 (i_2+1),(out_2.1,v3,out_2.2.2)))) none) none) none) (some (.inr out_2))
def Zq142 (d:Disk_) (v2:Disk_):(Int×Disk_)→Option Disk_:=
 loopL fun s=>Zq142.B d v2 s.1 s.2
def Zq143 (d:Disk_):Option Disk_:=
 (Zq141 d ([],[],()) (0,([],[],()))).bind fun o=>(Zq142 d ([],[],()) (0,o)).bind fun o2=>some (o2.1,o2.2.1,o2.2.2)
namespace Zq143
def G:Gam:=mkG [(149,Zq134.FS)]
theorem Gok:GOk PR G:=.cons Zq134.ok .nil
end Zq143
namespace Zq141
def c:=codeAt (bodyOf Proofs.Tryz.f202) [1,1,0,1,0,0]
def sp:SP:=⟨[(1,.pt tDisk_),(2,.loc 2 []),(3,.loc 3 []),(4,.cs I64)],[(2,.mem,.cd tDisk_),(3,.mem,.cd tDisk_)]⟩
def out (d:Disk_) (v:Disk_):FOut Disk_:=fun b _ k=>k (.ex 0) ⟨[(1,.pt tDisk_ d),(2,.loc 2 []),(3,.loc 3 [])],[(2,some ⟨.mem,.cd tDisk_ v⟩),(3,some ⟨.mem,.cd tDisk_ b⟩)]⟩
def fr:=lfrag sp (fun x=>Zq141 x.1.1 x.2.1 (x.1.2.2.2.1,x.2.2.1)) fun x=>out x.1.1 x.2.1
theorem ok:CodeOk PR 52 1 (.loop c) fr:=
 lp_ok tbok hmix ⟨[1],[],[],0⟩ .no (G:=Zq143.G) Zq143.Gok (L:=mkL []) (l:=[]) hT [1,2,3,4] [2,3] [(0,([1,2,3],[2,3]))] ([],[]) (fun x s=>B x.1.1 x.2.1 s.1 s.2) (fun x s=>⟨[(1,.pt tDisk_ x.1.1),(2,.loc 2 []),(3,.loc 3 []),(4,.cs I64 s.1)],[(2,some ⟨.mem,.cd tDisk_ x.2.1⟩),(3,some ⟨.mem,.cd tDisk_ s.2⟩)]⟩) (fun x=>(x.1.2.2.2.1,x.2.2.1))
  (fun x s=>by simp only[B,mC,mB,mS,mO,mN];kernel_rfl)
end Zq141
namespace Zq142
def c:=codeAt (bodyOf Proofs.Tryz.f202) [1,1,1,0,1,0,0]
def sp:SP:=⟨[(1,.pt tDisk_),(2,.loc 2 []),(3,.loc 3 []),(5,.cs I64)],[(2,.mem,.cd tDisk_),(3,.mem,.cd tDisk_)]⟩
def out (d:Disk_) (v2:Disk_):FOut Disk_:=fun b _ k=>k (.ex 2) ⟨[(2,.loc 2 []),(3,.loc 3 [])],[(2,some ⟨.mem,.cd tDisk_ v2⟩),(3,some ⟨.mem,.cd tDisk_ b⟩)]⟩
def fr:=lfrag sp (fun x=>Zq142 x.1.1 x.2.1 (x.1.2.2.2.1,x.2.2.1)) fun x=>out x.1.1 x.2.1
theorem ok:CodeOk PR 52 1 (.loop c) fr:=
 lp_ok tbok hmix ⟨[1],[],[],0⟩ .no (G:=Zq143.G) Zq143.Gok (L:=mkL []) (l:=[]) hT [1,2,3,5] [2,3] [(2,([2,3],[2,3]))] ([],[]) (fun x s=>B x.1.1 x.2.1 s.1 s.2) (fun x s=>⟨[(1,.pt tDisk_ x.1.1),(2,.loc 2 []),(3,.loc 3 []),(5,.cs I64 s.1)],[(2,some ⟨.mem,.cd tDisk_ x.2.1⟩),(3,some ⟨.mem,.cd tDisk_ s.2⟩)]⟩) (fun x=>(x.1.2.2.2.1,x.2.2.1))
  (fun x s=>by simp only[B,mC,mB,mS,mO,mN];kernel_rfl)
end Zq142
namespace Zq143
def pts:List PT:=[.cs tDisk_]
def FS:FS:=mkFS [.sh] pts (fun x=>Zq143 x.1) fun t=>⟨[.cd tDisk_ t],[]⟩
theorem ok:FsOk PR 202 FS:=
 fn_ok tbok hmix Proofs.Tryz.f202 ⟨[1],[],[],0⟩ (.R (.R (.two (.R (.one (.fr 0))) (.L (.R (.one (.fr 1))))))) (G:=G) Gok (L:=mkL [(0,Zq141.fr),(1,Zq142.fr)]) (l:=[(0,.loop Zq141.c),(1,.loop Zq142.c)]) ⟨Lam.cons Zq141.ok,Lam.skip rfl (Lam.cons Zq142.ok),trivial⟩
  (fun x=>by simp only[Zq143,mC,mB,mS,mO,mN];kernel_rfl)
end Zq143
def Zq144.B (picks:List Bool) (all:Bool) (d:Disk_) (v:Disk_) (i_:Int) (out_:Disk_):Option ((Int×Disk_)⊕Disk_):=
 cond (decide (i_<(d.2.1.length:Int))) (cond (cond ((!all)&&(decide (i_<(picks.length:Int)))) (inB i_ picks.length) true) ((some (cond all true (cond (decide (i_<(picks.length:Int))) (picks.getD i_.toNat false) false))).bind fun v2=>cond v2 (cond (inB i_ d.2.1.length) (cond (inB i_ d.2.1.length) ((Zq134 (d.2.1.getD i_.toNat zPut_).2.1).bind fun r2=>cond (inB (d.2.1.getD i_.toNat zPut_).1 out_.1.length) ((some (out_.1.set ((d.2.1.getD i_.toNat zPut_).1.toNat) r2)).bind fun out_2=>some (.inl (w64 (i_+1),(out_2,out_.2)))) none) none) none) (some (.inl (w64 (i_+1),out_)))) none) (some (.inr out_))
def Zq144 (picks:List Bool) (all:Bool) (d:Disk_) (v:Disk_):(Int×Disk_)→Option Disk_:=
 loopL fun s=>Zq144.B picks all d v s.1 s.2
def Zq145 (d:Disk_) (picks:List Bool) (all:Bool):Option Disk_:=
 (Zq143 d).bind fun r=>(Zq144 picks all d ([],[],()) (0,(r.1,[],r.2.2))).bind fun o=>some (o.1,o.2.1,o.2.2)
namespace Zq145
def G:Gam:=mkG [(202,Zq143.FS),(149,Zq134.FS)]
theorem Gok:GOk PR G:=.cons Zq143.ok (.cons Zq134.ok .nil)
end Zq145
namespace Zq144
def c:=codeAt (bodyOf Proofs.Tryz.f121) [1,1,1,0,1,0,0]
def sp:SP:=⟨[(1,.cs (.sl .bool)),(2,.cs .bool),(3,.pt tDisk_),(6,.loc 6 []),(7,.loc 7 []),(8,.cs I64)],[(6,.mem,.cd tDisk_),(7,.mem,.cd tDisk_)]⟩
def out (picks:List Bool) (all:Bool) (d:Disk_) (v:Disk_):FOut Disk_:=fun b _ k=>k (.ex 0) ⟨[(6,.loc 6 []),(7,.loc 7 [])],[(6,some ⟨.mem,.cd tDisk_ v⟩),(7,some ⟨.mem,.cd tDisk_ b⟩)]⟩
def fr:=lfrag sp (fun x=>Zq144 x.1.1 x.1.2.1 x.1.2.2.1 x.2.1 (x.1.2.2.2.2.2.1,x.2.2.1)) fun x=>out x.1.1 x.1.2.1 x.1.2.2.1 x.2.1
theorem ok:CodeOk PR 49 3 (.loop c) fr:=
 lp_ok tbok hmix ⟨[3],[],[],0⟩ .no (G:=Zq145.G) Zq145.Gok (L:=mkL []) (l:=[]) hT [1,2,3,6,7,8] [6,7] [(0,([6,7],[6,7]))] ([],[]) (fun x s=>B x.1.1 x.1.2.1 x.1.2.2.1 x.2.1 s.1 s.2) (fun x s=>⟨[(1,.cs (.sl .bool) x.1.1),(2,.cs .bool x.1.2.1),(3,.pt tDisk_ x.1.2.2.1),(6,.loc 6 []),(7,.loc 7 []),(8,.cs I64 s.1)],[(6,some ⟨.mem,.cd tDisk_ x.2.1⟩),(7,some ⟨.mem,.cd tDisk_ s.2⟩)]⟩) (fun x=>(x.1.2.2.2.2.2.1,x.2.2.1))
  (fun x s=>by simp only[B,mC,mB,mS,mO,mN];kernel_rfl)
end Zq144
namespace Zq145
def pts:List PT:=[.cs tDisk_,.cs (.sl .bool),.cs .bool]
def FS:FS:=mkFS [.sh,.sh,.sh] pts (fun x=>Zq145 x.1 x.2.1 x.2.2.1) fun t=>⟨[.cd tDisk_ t],[]⟩
theorem ok:FsOk PR 121 FS:=
 fn_ok tbok hmix Proofs.Tryz.f121 ⟨[3],[],[],0⟩ (.R (.R (.R (.L (.R (.one (.fr 0))))))) (G:=G) Gok (L:=mkL [(0,Zq144.fr)]) (l:=[(0,.loop Zq144.c)]) ⟨Lam.cons Zq144.ok,trivial⟩
  (fun x=>by simp only[Zq145,mC,mB,mS,mO,mN];kernel_rfl)
end Zq145
def Zq146 (x:Step_):Option Int:=
 (some (cond x.1 (cond (x.2.1 != 0) true (decide ((x.2.2.1.length:Int)>0))) false)).bind fun v=>cond v (some 1) ((Zq122 x.2.1 0 46).bind fun r=>cond (!r) (some 3) ((Zq124 x.2.2.1).bind fun r2=>some r2))
namespace Zq146
def G:Gam:=mkG [(219,Zq122.FS),(218,Zq124.FS)]
def pts:List PT:=[.cs tStep_]
def FS:FS:=mkFS [.sh] pts (fun x=>Zq146 x.1) fun t=>⟨[.cs I64 t],[]⟩
theorem ok:FsOk PR 248 FS:=
 fn_ok tbok hmix Proofs.Tryz.f248 ⟨[1],[],[],0⟩ .no (G:=G) (show GOk PR G from .cons Zq122.ok (.cons Zq124.ok .nil)) (L:=mkL []) (l:=[]) hT
  (fun x=>by simp only[Zq146,mC,mB,mS,mO,mN];kernel_rfl)
end Zq146
def Zq147.B (list:List Step_) (i_:Int):Option (Int⊕((Int⊕Unit))):=
 cond (decide (i_<(list.length:Int))) (cond (inB i_ list.length) ((Zq146 (list.getD i_.toNat zStep_)).bind fun r=>cond (r != 0) (some (.inr (.inl r))) (some (.inl (w64 (i_+1))))) none) (some (.inr (.inr ())))
def Zq147 (list:List Step_):Int→Option ((Int⊕Unit)):=
 loopL fun s=>Zq147.B list s
def Zq148 (list:List Step_):Option Int:=
 cond (decide ((list.length:Int)>120)) (some 2) ((Zq147 list 0).bind fun o=>sel o (fun b=>some b) (fun c=>some 0))
namespace Zq148
def G:Gam:=mkG [(248,Zq146.FS)]
theorem Gok:GOk PR G:=.cons Zq146.ok .nil
end Zq148
namespace Zq147
def c:=codeAt (bodyOf Proofs.Tryz.f200) [1,1,0,1,0,0]
def sp:SP:=⟨[(0,.cs (.sl tStep_)),(3,.cs I64)],[]⟩
def out (list:List Step_):FOut ((Int⊕Unit)):=fun o _ k=>sel o (fun b=>k (.rt) ⟨[(2,.cs I64 b)],[]⟩) (fun c=>k (.ex 0) ⟨[],[]⟩)
def fr:=lfrag sp (fun x=>Zq147 x.1.1 x.1.2.1) fun x=>out x.1.1
theorem ok:CodeOk PR 22 1 (.loop c) fr:=
 lp_ok tbok hmix h0 .no (G:=Zq148.G) Zq148.Gok (L:=mkL []) (l:=[]) hT [0,3] [] [(0,([],[]))] ([2],[]) (fun x s=>B x.1.1 s) (fun x s=>⟨[(0,.cs (.sl tStep_) x.1.1),(3,.cs I64 s)],[]⟩) (fun x=>x.1.2.1)
  (fun x s=>by simp only[B,mC,mB,mS,mO,mN];kernel_rfl)
end Zq147
namespace Zq148
def pts:List PT:=[.cs (.sl tStep_)]
def FS:FS:=mkFS [.sh] pts (fun x=>Zq148 x.1) fun t=>⟨[.cs I64 t],[]⟩
theorem ok:FsOk PR 200 FS:=
 fn_ok tbok hmix Proofs.Tryz.f200 h0 (.R (.R (.L (.R (.one (.fr 0)))))) (G:=G) Gok (L:=mkL [(0,Zq147.fr)]) (l:=[(0,.loop Zq147.c)]) ⟨Lam.cons Zq147.ok,trivial⟩
  (fun x=>by simp only[Zq148,mC,mB,mS,mO,mN];kernel_rfl)
end Zq148
def Zq149 (d:Disk_) (at_:Int):Option Bool:=
 (Zq122 at_ 0 (w64 ((d.1.length:Int)-1))).bind fun r=>some r
namespace Zq149
def G:Gam:=mkG [(219,Zq122.FS)]
def pts:List PT:=[.pt tDisk_,.cs I64]
def FS:FS:=mkFS [.sh,.sh] pts (fun x=>Zq149 x.1 x.2.1) fun t=>⟨[.cs .bool t],[]⟩
theorem ok:FsOk PR 286 FS:=
 fn_ok tbok hmix Proofs.Tryz.f286 h0 .no (G:=G) (show GOk PR G from .cons Zq122.ok .nil) (L:=mkL []) (l:=[]) hT
  (fun x=>by simp only[Zq149,mC,mB,mS,mO,mN];kernel_rfl)
end Zq149
def Zq150 (d:Disk_) (at_:Int) (words:List Int):Option DiskResult_:=
 (Zq127 d).bind fun r=>cond (r != 0) (some (r,([],[],()),())) ((Zq149 d at_).bind fun r2=>cond (!r2) (some (3,([],[],()),())) ((Zq124 words).bind fun r3=>cond (r3 != 0) (some (r3,([],[],()),())) (cond (decide ((d.2.1.length:Int)≥200)) (some (2,([],[],()),())) ((Zq143 d).bind fun r4=>(Zq134 words).bind fun r5=>cond (decide ((r4.2.1++([(at_,r5,())])).length≤2147483648)) (some (0,(r4.1,r4.2.1++([(at_,r5,())]),r4.2.2),())) none))))
namespace Zq150
def G:Gam:=mkG [(140,Zq127.FS),(286,Zq149.FS),(218,Zq124.FS),(202,Zq143.FS),(149,Zq134.FS)]
def pts:List PT:=[.cs tDisk_,.cs I64,.cs SI]
def FS:FS:=mkFS [.sh,.sh,.sh] pts (fun x=>Zq150 x.1 x.2.1 x.2.2.1) fun t=>⟨[.cd tDiskResult_ t],[]⟩
theorem ok:FsOk PR 249 FS:=
 fn_ok tbok hmix Proofs.Tryz.f249 ⟨[3],[],[],0⟩ .no (G:=G) (show GOk PR G from .cons Zq127.ok (.cons Zq149.ok (.cons Zq124.ok (.cons Zq143.ok (.cons Zq134.ok .nil))))) (L:=mkL []) (l:=[]) hT
  (fun x=>by simp only[Zq150,mC,mB,mS,mO,mN];kernel_rfl)
end Zq150
def Zq151.B (list:List Step_) (v:DiskResult_) (i_:Int) (out_:DiskResult_):Option ((Int×DiskResult_)⊕((DiskResult_⊕DiskResult_))):=
 cond (decide (i_<(list.length:Int))) (cond (inB i_ list.length) (cond (list.getD i_.toNat zStep_).1 ((Zq145 (out_.2.1.1,out_.2.1.2.1,out_.2.1.2.2) [] true).bind fun r2=>some (.inl (w64 (i_+1),(out_.1,(r2.1,r2.2.1,r2.2.2),out_.2.2)))) (cond (inB i_ list.length) (cond (inB i_ list.length) ((Zq150 (out_.2.1.1,out_.2.1.2.1,out_.2.1.2.2) (list.getD i_.toNat zStep_).2.1 (list.getD i_.toNat zStep_).2.2.1).bind fun r3=>cond (r3.1 != 0) (some (.inr (.inl (r3.1,(r3.2.1.1,r3.2.1.2.1,r3.2.1.2.2),r3.2.2)))) (some (.inl (w64 (i_+1),(r3.1,(r3.2.1.1,r3.2.1.2.1,r3.2.1.2.2),r3.2.2))))) none) none)) none) (some (.inr (.inr out_)))
def Zq151 (list:List Step_) (v:DiskResult_):(Int×DiskResult_)→Option ((DiskResult_⊕DiskResult_)):=
 loopL fun s=>Zq151.B list v s.1 s.2
def Zq152 (d:Disk_) (list:List Step_):Option DiskResult_:=
 (Zq143 d).bind fun r=>(Zq151 list (0,([],[],()),()) (0,(0,(r.1,r.2.1,r.2.2),()))).bind fun o=>sel o (fun b=>some (b.1,(b.2.1.1,b.2.1.2.1,b.2.1.2.2),b.2.2)) (fun c=>some (c.1,(c.2.1.1,c.2.1.2.1,c.2.1.2.2),c.2.2))
namespace Zq152
def G:Gam:=mkG [(202,Zq143.FS),(121,Zq145.FS),(249,Zq150.FS)]
theorem Gok:GOk PR G:=.cons Zq143.ok (.cons Zq145.ok (.cons Zq150.ok .nil))
end Zq152
namespace Zq151
def c:=codeAt (bodyOf Proofs.Tryz.f201) [1,1,0,1,0,0]
def sp:SP:=⟨[(1,.cs (.sl tStep_)),(4,.loc 4 []),(5,.loc 5 []),(6,.cs I64)],[(4,.mem,.cd tDiskResult_),(5,.mem,.cd tDiskResult_)]⟩
def out (list:List Step_) (v:DiskResult_):FOut ((DiskResult_⊕DiskResult_)):=fun o _ k=>sel o (fun b=>k (.rt) ⟨[(4,.loc 4 [])],[(4,some ⟨.mem,.cd tDiskResult_ b⟩)]⟩) (fun c=>k (.ex 0) ⟨[(4,.loc 4 []),(5,.loc 5 [])],[(4,some ⟨.mem,.cd tDiskResult_ v⟩),(5,some ⟨.mem,.cd tDiskResult_ c⟩)]⟩)
def fr:=lfrag sp (fun x=>Zq151 x.1.1 x.2.1 (x.1.2.2.2.1,x.2.2.1)) fun x=>out x.1.1 x.2.1
theorem ok:CodeOk PR 43 2 (.loop c) fr:=
 lp_ok tbok hmix ⟨[2],[],[],0⟩ .no (G:=Zq152.G) Zq152.Gok (L:=mkL []) (l:=[]) hT [1,4,5,6] [4,5] [(0,([4,5],[4,5]))] ([4],[4]) (fun x s=>B x.1.1 x.2.1 s.1 s.2) (fun x s=>⟨[(1,.cs (.sl tStep_) x.1.1),(4,.loc 4 []),(5,.loc 5 []),(6,.cs I64 s.1)],[(4,some ⟨.mem,.cd tDiskResult_ x.2.1⟩),(5,some ⟨.mem,.cd tDiskResult_ s.2⟩)]⟩) (fun x=>(x.1.2.2.2.1,x.2.2.1))
  (fun x s=>by simp only[B,mC,mB,mS,mO,mN];kernel_rfl)
end Zq151
namespace Zq152
def pts:List PT:=[.cs tDisk_,.cs (.sl tStep_)]
def FS:FS:=mkFS [.sh,.sh] pts (fun x=>Zq152 x.1 x.2.1) fun t=>⟨[.cd tDiskResult_ t],[]⟩
theorem ok:FsOk PR 201 FS:=
 fn_ok tbok hmix Proofs.Tryz.f201 ⟨[2],[],[],0⟩ (.R (.R (.L (.R (.one (.fr 0)))))) (G:=G) Gok (L:=mkL [(0,Zq151.fr)]) (l:=[(0,.loop Zq151.c)]) ⟨Lam.cons Zq151.ok,trivial⟩
  (fun x=>by simp only[Zq152,mC,mB,mS,mO,mN];kernel_rfl)
end Zq152
def Zq153 (d:Disk_) (list:List Step_):Option DiskResult_:=
 (Zq127 d).bind fun r=>cond (r != 0) (some (r,([],[],()),())) (cond ((d.1.length:Int) != 47) (some (1,([],[],()),())) ((Zq148 list).bind fun r2=>cond (r2 != 0) (some (r2,([],[],()),())) ((Zq152 d list).bind fun r3=>some (r3.1,(r3.2.1.1,r3.2.1.2.1,r3.2.1.2.2),r3.2.2))))
namespace Zq153
def G:Gam:=mkG [(140,Zq127.FS),(200,Zq148.FS),(201,Zq152.FS)]
def pts:List PT:=[.cs tDisk_,.cs (.sl tStep_)]
def FS:FS:=mkFS [.sh,.sh] pts (fun x=>Zq153 x.1 x.2.1) fun t=>⟨[.cd tDiskResult_ t],[]⟩
theorem ok:FsOk PR 120 FS:=
 fn_ok tbok hmix Proofs.Tryz.f120 ⟨[2],[],[],0⟩ .no (G:=G) (show GOk PR G from .cons Zq127.ok (.cons Zq148.ok (.cons Zq152.ok .nil))) (L:=mkL []) (l:=[]) hT
  (fun x=>by simp only[Zq153,mC,mB,mS,mO,mN];kernel_rfl)
end Zq153
def Zq154 (words:List Int) (at_:Int):Option Int:=
 cond (decide (at_<(words.length:Int))) (cond (inB at_ words.length) (some (words.getD at_.toNat 0)) none) (some 0)
namespace Zq154
def pts:List PT:=[.cs SI,.cs I64]
def FS:FS:=mkFS [.sh,.sh] pts (fun x=>Zq154 x.1 x.2.1) fun t=>⟨[.cs I64 t],[]⟩
theorem ok:FsOk PR 250 FS:=
 fn_ok tbok hmix Proofs.Tryz.f250 h0 .no (G:=(mkG [])) .nil (L:=mkL []) (l:=[]) hT
  (fun x=>by simp only[Zq154,mC,mB,mS,mO,mN];kernel_rfl)
end Zq154
def Zq155 (n:Int):Option Bool:=
 (Zq122 n 0 32).bind fun r=>some r
namespace Zq155
def G:Gam:=mkG [(219,Zq122.FS)]
def pts:List PT:=[.cs I64]
def FS:FS:=mkFS [.sh] pts (fun x=>Zq155 x.1) fun t=>⟨[.cs .bool t],[]⟩
theorem ok:FsOk PR 307 FS:=
 fn_ok tbok hmix Proofs.Tryz.f307 h0 .no (G:=G) (show GOk PR G from .cons Zq122.ok .nil) (L:=mkL []) (l:=[]) hT
  (fun x=>by simp only[Zq155,mC,mB,mS,mO,mN];kernel_rfl)
end Zq155
def Zq156 (size:Int):Option Int:=
 cond (!((8:Int) == 0)) (some (w64 ((w64 ((w64 (size+8))-1)).tdiv 8))) none
namespace Zq156
def pts:List PT:=[.cs I64]
def FS:FS:=mkFS [.sh] pts (fun x=>Zq156 x.1) fun t=>⟨[.cs I64 t],[]⟩
theorem ok:FsOk PR 239 FS:=
 fn_ok tbok hmix Proofs.Tryz.f239 h0 .no (G:=(mkG [])) .nil (L:=mkL []) (l:=[]) hT
  (fun x=>by simp only[Zq156,mC,mB,mS,mO,mN];kernel_rfl)
end Zq156
def Zq157.B (x:Inode_) (i_:Int):Option (Int⊕((Int⊕Unit))):=
 cond (decide (i_<(x.2.2.2.1.length:Int))) (cond (inB i_ x.2.2.2.1.length) ((Zq122 (x.2.2.2.1.getD i_.toNat 0) 0 19).bind fun r4=>cond (!r4) (some (.inr (.inl 3))) (some (.inl (w64 (i_+1))))) none) (some (.inr (.inr ())))
def Zq157 (x:Inode_):Int→Option ((Int⊕Unit)):=
 loopL fun s=>Zq157.B x s
def Zq158.B (x:Inode_) (i_2:Int) (k_:Int):Option (Int⊕((Int⊕Unit))):=
 cond (decide (k_<i_2)) (cond (inB k_ x.2.2.2.1.length) (cond (inB i_2 x.2.2.2.1.length) ((some ((x.2.2.2.1.getD k_.toNat 0) == (x.2.2.2.1.getD i_2.toNat 0))).bind fun v=>cond v (some (.inr (.inl 7))) (some (.inl (w64 (k_+1))))) none) none) (some (.inr (.inr ())))
def Zq158 (x:Inode_) (i_2:Int):Int→Option ((Int⊕Unit)):=
 loopL fun s=>Zq158.B x i_2 s
def Zq159.B (x:Inode_) (i_2:Int):Option (Int⊕((Int⊕Unit))):=
 cond (decide (i_2<(x.2.2.2.1.length:Int))) ((Zq158 x i_2 0).bind fun o2=>sel o2 (fun b2=>some (.inr (.inl b2))) (fun c2=>some (.inl (w64 (i_2+1))))) (some (.inr (.inr ())))
def Zq159 (x:Inode_):Int→Option ((Int⊕Unit)):=
 loopL fun s=>Zq159.B x s
def Zq160 (x:Inode_):Option Int:=
 (Zq122 x.2.1 1 60).bind fun r=>cond (!r) (some 3) ((Zq155 x.2.2.1).bind fun r2=>cond (!r2) (some 3) ((Zq156 x.2.2.1).bind fun r3=>cond ((x.2.2.2.1.length:Int) != r3) (some 1) ((Zq157 x 0).bind fun o=>sel o (fun b=>some b) (fun c=>(Zq159 x 0).bind fun o3=>sel o3 (fun b3=>some b3) (fun c3=>some 0)))))
namespace Zq160
def G:Gam:=mkG [(219,Zq122.FS),(307,Zq155.FS),(239,Zq156.FS)]
theorem Gok:GOk PR G:=.cons Zq122.ok (.cons Zq155.ok (.cons Zq156.ok .nil))
end Zq160
namespace Zq157
def c:=codeAt (bodyOf Proofs.Tryz.f272) [1,1,1,0,1,0,0]
def sp:SP:=⟨[(0,.pt tInode_),(3,.cs I64)],[]⟩
def out (x:Inode_):FOut ((Int⊕Unit)):=fun o _ k=>sel o (fun b=>k (.rt) ⟨[(2,.cs I64 b)],[]⟩) (fun c=>k (.ex 0) ⟨[(0,.pt tInode_ x)],[]⟩)
def fr:=lfrag sp (fun x=>Zq157 x.1.1 x.1.2.1) fun x=>out x.1.1
theorem ok:CodeOk PR 78 1 (.loop c) fr:=
 lp_ok tbok hmix h0 .no (G:=Zq160.G) Zq160.Gok (L:=mkL []) (l:=[]) hT [0,3] [] [(0,([0],[]))] ([2],[]) (fun x s=>B x.1.1 s) (fun x s=>⟨[(0,.pt tInode_ x.1.1),(3,.cs I64 s)],[]⟩) (fun x=>x.1.2.1)
  (fun x s=>by simp only[B,mC,mB,mS,mO,mN];kernel_rfl)
end Zq157
namespace Zq158
def c:=codeAt (bodyOf Proofs.Tryz.f272) [1,1,1,1,0,1,0,0,1,0,0,1,0,0]
def sp:SP:=⟨[(0,.pt tInode_),(4,.cs I64),(5,.cs I64)],[]⟩
def out (x:Inode_) (i_2:Int):FOut ((Int⊕Unit)):=fun o _ k=>sel o (fun b=>k (.rt) ⟨[(2,.cs I64 b)],[]⟩) (fun c=>k (.ex 4) ⟨[(0,.pt tInode_ x),(4,.cs I64 i_2)],[]⟩)
def fr:=lfrag sp (fun x=>Zq158 x.1.1 x.1.2.1 x.1.2.2.1) fun x=>out x.1.1 x.1.2.1
theorem ok:CodeOk PR 78 1 (.loop c) fr:=
 lp_ok tbok hmix h0 .no (G:=Zq160.G) Zq160.Gok (L:=mkL []) (l:=[]) hT [0,4,5] [] [(4,([0,4],[]))] ([2],[]) (fun x s=>B x.1.1 x.1.2.1 s) (fun x s=>⟨[(0,.pt tInode_ x.1.1),(4,.cs I64 x.1.2.1),(5,.cs I64 s)],[]⟩) (fun x=>x.1.2.2.1)
  (fun x s=>by simp only[B,mC,mB,mS,mO,mN];kernel_rfl)
end Zq158
namespace Zq159
def c:=codeAt (bodyOf Proofs.Tryz.f272) [1,1,1,1,0,1,0,0]
def sp:SP:=⟨[(0,.pt tInode_),(4,.cs I64)],[]⟩
def out (x:Inode_):FOut ((Int⊕Unit)):=fun o _ k=>sel o (fun b=>k (.rt) ⟨[(2,.cs I64 b)],[]⟩) (fun c=>k (.ex 2) ⟨[],[]⟩)
def fr:=lfrag sp (fun x=>Zq159 x.1.1 x.1.2.1) fun x=>out x.1.1
theorem ok:CodeOk PR 78 1 (.loop c) fr:=
 lp_ok tbok hmix h0 (.R (.L (.one (.R (.one (.fr 2)))))) (G:=Zq160.G) Zq160.Gok (L:=mkL [(2,Zq158.fr)]) (l:=[(2,.loop Zq158.c)]) ⟨Lam.cons Zq158.ok,trivial⟩ [0,4] [] [(2,([],[]))] ([2],[]) (fun x s=>B x.1.1 s) (fun x s=>⟨[(0,.pt tInode_ x.1.1),(4,.cs I64 s)],[]⟩) (fun x=>x.1.2.1)
  (fun x s=>by simp only[B,mC,mB,mS,mO,mN];kernel_rfl)
end Zq159
namespace Zq160
def pts:List PT:=[.pt tInode_]
def FS:FS:=mkFS [.sh] pts (fun x=>Zq160 x.1) fun t=>⟨[.cs I64 t],[]⟩
theorem ok:FsOk PR 272 FS:=
 fn_ok tbok hmix Proofs.Tryz.f272 h0 (.R (.R (.R (.two (.R (.one (.fr 0))) (.L (.R (.one (.fr 1)))))))) (G:=G) Gok (L:=mkL [(0,Zq157.fr),(2,Zq158.fr),(1,Zq159.fr)]) (l:=[(0,.loop Zq157.c),(1,.loop Zq159.c)]) ⟨Lam.cons Zq157.ok,Lam.skip rfl (Lam.skip rfl (Lam.cons Zq159.ok)),trivial⟩
  (fun x=>by simp only[Zq160,mC,mB,mS,mO,mN];kernel_rfl)
end Zq160
def Zq161.B (name:List UInt8) (i_:Int):Option (Int⊕((Int⊕Unit))):=
 cond (decide (i_<(name.length:Int))) (cond (inB i_ name.length) ((some (decide (((name.getD i_.toNat 0).toNat:Int)<97))).bind fun v=>cond (cond (!v) (inB i_ name.length) true) ((some (cond v true (decide (((name.getD i_.toNat 0).toNat:Int)>122)))).bind fun v2=>cond v2 (some (.inr (.inl 5))) (some (.inl (w64 (i_+1))))) none) none) (some (.inr (.inr ())))
def Zq161 (name:List UInt8):Int→Option ((Int⊕Unit)):=
 loopL fun s=>Zq161.B name s
def Zq162 (name:List UInt8):Option Int:=
 (Zq161 name 0).bind fun o=>sel o (fun b=>some b) (fun c=>cond (name == ([]:List UInt8)) (some 5) (cond (decide ((name.length:Int)>4)) (some 2) (some 0)))
namespace Zq161
def c:=codeAt (bodyOf Proofs.Tryz.f308) [1,0,1,0,0]
def sp:SP:=⟨[(0,.cs .str),(3,.cs I64)],[]⟩
def out (name:List UInt8):FOut ((Int⊕Unit)):=fun o _ k=>sel o (fun b=>k (.rt) ⟨[(2,.cs I64 b)],[]⟩) (fun c=>k (.ex 0) ⟨[(0,.cs .str name)],[]⟩)
def fr:=lfrag sp (fun x=>Zq161 x.1.1 x.1.2.1) fun x=>out x.1.1
theorem ok:CodeOk PR 25 1 (.loop c) fr:=
 lp_ok tbok hmix h0 .no (G:=(mkG [])) .nil (L:=mkL []) (l:=[]) hT [0,3] [] [(0,([0],[]))] ([2],[]) (fun x s=>B x.1.1 s) (fun x s=>⟨[(0,.cs .str x.1.1),(3,.cs I64 s)],[]⟩) (fun x=>x.1.2.1)
  (fun x s=>by simp only[B,mC,mB,mS,mO,mN];kernel_rfl)
end Zq161
namespace Zq162
def pts:List PT:=[.cs .str]
def FS:FS:=mkFS [.sh] pts (fun x=>Zq162 x.1) fun t=>⟨[.cs I64 t],[]⟩
theorem ok:FsOk PR 308 FS:=
 fn_ok tbok hmix Proofs.Tryz.f308 h0 (.R (.L (.R (.one (.fr 0))))) (G:=(mkG [])) .nil (L:=mkL [(0,Zq161.fr)]) (l:=[(0,.loop Zq161.c)]) ⟨Lam.cons Zq161.ok,trivial⟩
  (fun x=>by simp only[Zq162,mC,mB,mS,mO,mN];kernel_rfl)
end Zq162
def Zq163.B (x:Inode_) (i_:Int):Option (Int⊕((Int⊕Unit))):=
 cond (decide (i_<(x.2.2.2.2.1.length:Int))) (cond (inB i_ x.2.2.2.2.1.length) ((Zq162 (x.2.2.2.2.1.getD i_.toNat zEntry_).1).bind fun r=>cond (r != 0) (some (.inr (.inl r))) (cond (inB i_ x.2.2.2.2.1.length) ((Zq122 (x.2.2.2.2.1.getD i_.toNat zEntry_).2.1 0 9).bind fun r2=>cond (!r2) (some (.inr (.inl 3))) (cond (cond (decide (i_>0)) (inB i_ x.2.2.2.2.1.length) true) (cond (cond (decide (i_>0)) (inB (w64 (i_-1)) x.2.2.2.2.1.length) true) ((some (cond (decide (i_>0)) (leB (x.2.2.2.2.1.getD i_.toNat zEntry_).1 (x.2.2.2.2.1.getD (w64 (i_-1)).toNat zEntry_).1 || (x.2.2.2.2.1.getD i_.toNat zEntry_).1 == (x.2.2.2.2.1.getD (w64 (i_-1)).toNat zEntry_).1) false)).bind fun v=>cond v (some (.inr (.inl 1))) (some (.inl (w64 (i_+1))))) none) none)) none)) none) (some (.inr (.inr ())))
def Zq163 (x:Inode_):Int→Option ((Int⊕Unit)):=
 loopL fun s=>Zq163.B x s
def Zq164 (x:Inode_):Option Int:=
 cond (decide ((x.2.2.2.2.1.length:Int)>6)) (some 2) ((Zq163 x 0).bind fun o=>sel o (fun b=>some b) (fun c=>some 0))
namespace Zq164
def G:Gam:=mkG [(308,Zq162.FS),(219,Zq122.FS)]
theorem Gok:GOk PR G:=.cons Zq162.ok (.cons Zq122.ok .nil)
end Zq164
namespace Zq163
def c:=codeAt (bodyOf Proofs.Tryz.f273) [1,1,0,1,0,0]
def sp:SP:=⟨[(0,.pt tInode_),(3,.cs I64)],[]⟩
def out (x:Inode_):FOut ((Int⊕Unit)):=fun o _ k=>sel o (fun b=>k (.rt) ⟨[(2,.cs I64 b)],[]⟩) (fun c=>k (.ex 0) ⟨[],[]⟩)
def fr:=lfrag sp (fun x=>Zq163 x.1.1 x.1.2.1) fun x=>out x.1.1
theorem ok:CodeOk PR 64 1 (.loop c) fr:=
 lp_ok tbok hmix h0 .no (G:=Zq164.G) Zq164.Gok (L:=mkL []) (l:=[]) hT [0,3] [] [(0,([],[]))] ([2],[]) (fun x s=>B x.1.1 s) (fun x s=>⟨[(0,.pt tInode_ x.1.1),(3,.cs I64 s)],[]⟩) (fun x=>x.1.2.1)
  (fun x s=>by simp only[B,mC,mB,mS,mO,mN];kernel_rfl)
end Zq163
namespace Zq164
def pts:List PT:=[.pt tInode_]
def FS:FS:=mkFS [.sh] pts (fun x=>Zq164 x.1) fun t=>⟨[.cs I64 t],[]⟩
theorem ok:FsOk PR 273 FS:=
 fn_ok tbok hmix Proofs.Tryz.f273 h0 (.R (.R (.L (.R (.one (.fr 0)))))) (G:=G) Gok (L:=mkL [(0,Zq163.fr)]) (l:=[(0,.loop Zq163.c)]) ⟨Lam.cons Zq163.ok,trivial⟩
  (fun x=>by simp only[Zq164,mC,mB,mS,mO,mN];kernel_rfl)
end Zq164
def Zq165 (x:Inode_):Option Int:=
 (Zq122 x.1 0 2).bind fun r=>cond (!r) (some 1) ((some (cond (x.1 != 1) (cond (cond (x.2.1 != 0) true (x.2.2.1 != 0)) true (decide ((x.2.2.2.1.length:Int)>0))) false)).bind fun v=>(some (cond v true (cond (x.1 != 2) (decide ((x.2.2.2.2.1.length:Int)>0)) false))).bind fun v2=>cond v2 (some 1) (cond (x.1 == 1) ((Zq160 x).bind fun r2=>some r2) (cond (x.1 == 2) ((Zq164 x).bind fun r3=>some r3) (some 0))))
namespace Zq165
def G:Gam:=mkG [(219,Zq122.FS),(272,Zq160.FS),(273,Zq164.FS)]
def pts:List PT:=[.pt tInode_]
def FS:FS:=mkFS [.sh] pts (fun x=>Zq165 x.1) fun t=>⟨[.cs I64 t],[]⟩
theorem ok:FsOk PR 241 FS:=
 fn_ok tbok hmix Proofs.Tryz.f241 h0 .no (G:=G) (show GOk PR G from .cons Zq122.ok (.cons Zq160.ok (.cons Zq164.ok .nil))) (L:=mkL []) (l:=[]) hT
  (fun x=>by simp only[Zq165,mC,mB,mS,mO,mN];kernel_rfl)
end Zq165
def Zq166.B (x:Inode_) (i_:Int) (e_:Entry_) (k_:Int) (out_2:List Int):Option ((Int×List Int)⊕(List Int)):=
 cond (decide (k_<(e_.1.length:Int))) (cond (inB k_ e_.1.length) ((some (out_2++([w64 (((e_.1.getD k_.toNat 0).toNat:Int))]))).bind fun v4=>cond (decide (v4.length≤2147483648)) (some (.inl (w64 (k_+1),v4))) none) none) (some (.inr out_2))
def Zq166 (x:Inode_) (i_:Int) (e_:Entry_):(Int×List Int)→Option (List Int):=
 loopL fun s=>Zq166.B x i_ e_ s.1 s.2
def Zq167.B (x:Inode_) (i_:Int) (out_:List Int):Option ((Int×List Int)⊕(List Int)):=
 cond (decide (i_<(x.2.2.2.2.1.length:Int))) (cond (inB i_ x.2.2.2.2.1.length) ((some ((x.2.2.2.2.1.getD i_.toNat zEntry_).1.length:Int)).bind fun v2=>(some (out_++([(x.2.2.2.2.1.getD i_.toNat zEntry_).2.1,v2]))).bind fun v3=>cond (decide (v3.length≤2147483648)) ((Zq166 x i_ (x.2.2.2.2.1.getD i_.toNat zEntry_) (0,v3)).bind fun o=>some (.inl (w64 (i_+1),o))) none) none) (some (.inr out_))
def Zq167 (x:Inode_):(Int×List Int)→Option (List Int):=
 loopL fun s=>Zq167.B x s.1 s.2
def Zq168 (x:Inode_):Option (List Int):=
 cond (decide ((([x.1,x.2.1,x.2.2.1])++x.2.2.2.1).length≤2147483648)) (cond (x.1 != 2) (some (([x.1,x.2.1,x.2.2.1])++x.2.2.2.1)) ((some ((([x.1,x.2.1,x.2.2.1])++x.2.2.2.1)++([(x.2.2.2.2.1.length:Int)]))).bind fun v=>cond (decide (v.length≤2147483648)) ((Zq167 x (0,v)).bind fun o2=>some o2) none)) none
namespace Zq166
def c:=codeAt (bodyOf Proofs.Tryz.f189) [1,1,1,1,0,1,0,0,1,0,0,1,1,1,0,0]
def sp:SP:=⟨[(1,.pt tInode_),(3,.seg 3 []),(4,.cs I64),(5,.loc 5 []),(6,.cs I64)],[(3,.reg,.cd SI),(5,.mem,.cd tEntry_)]⟩
def out (x:Inode_) (i_:Int) (e_:Entry_):FOut (List Int):=fun b _ k=>k (.ex 2) ⟨[(1,.pt tInode_ x),(3,.seg 3 []),(4,.cs I64 i_)],[sr 3 (.cd SI b)]⟩
def fr:=lfrag sp (fun x=>Zq166 x.1.1 x.1.2.2.1 x.2.2.1 (x.1.2.2.2.2.1,x.2.1)) fun x=>out x.1.1 x.1.2.2.1 x.2.2.1
theorem ok:CodeOk PR 63 1 (.loop c) fr:=
 lp_ok tbok hmix ⟨[1],[],[],0⟩ .no (G:=(mkG [])) .nil (L:=mkL []) (l:=[]) hT [1,3,4,5,6] [3,5] [(2,([1,3,4],[3]))] ([],[]) (fun x s=>B x.1.1 x.1.2.2.1 x.2.2.1 s.1 s.2) (fun x s=>⟨[(1,.pt tInode_ x.1.1),(3,.seg 3 []),(4,.cs I64 x.1.2.2.1),(5,.loc 5 []),(6,.cs I64 s.1)],[sr 3 (.cd SI s.2),(5,some ⟨.mem,.cd tEntry_ x.2.2.1⟩)]⟩) (fun x=>(x.1.2.2.2.2.1,x.2.1))
  (fun x s=>by simp only[B,mC,mB,mS,mO,mN];kernel_rfl)
end Zq166
namespace Zq167
def c:=codeAt (bodyOf Proofs.Tryz.f189) [1,1,1,1,0,1,0,0]
def sp:SP:=⟨[(1,.pt tInode_),(3,.seg 3 []),(4,.cs I64)],[(3,.reg,.cd SI)]⟩
def out (x:Inode_):FOut (List Int):=fun b _ k=>k (.ex 0) ⟨[(3,.seg 3 [])],[sr 3 (.cd SI b)]⟩
def fr:=lfrag sp (fun x=>Zq167 x.1.1 (x.1.2.2.1,x.2.1)) fun x=>out x.1.1
theorem ok:CodeOk PR 63 1 (.loop c) fr:=
 lp_ok tbok hmix ⟨[1],[],[],0⟩ (.R (.L (.one (.R (.R (.R (.one (.fr 1)))))))) (G:=(mkG [])) .nil (L:=mkL [(1,Zq166.fr)]) (l:=[(1,.loop Zq166.c)]) ⟨Lam.cons Zq166.ok,trivial⟩ [1,3,4] [3] [(0,([3],[3]))] ([],[]) (fun x s=>B x.1.1 s.1 s.2) (fun x s=>⟨[(1,.pt tInode_ x.1.1),(3,.seg 3 []),(4,.cs I64 s.1)],[sr 3 (.cd SI s.2)]⟩) (fun x=>(x.1.2.2.1,x.2.1))
  (fun x s=>by simp only[B,mC,mB,mS,mO,mN];kernel_rfl)
end Zq167
namespace Zq168
def pts:List PT:=[.cs tInode_]
def FS:FS:=mkFS [.sh] pts (fun x=>Zq168 x.1) fun t=>⟨[.cd SI t],[]⟩
theorem ok:FsOk PR 189 FS:=
 fn_ok tbok hmix Proofs.Tryz.f189 ⟨[1],[],[],0⟩ (.R (.R (.R (.R (.L (.R (.one (.fr 0)))))))) (G:=(mkG [])) .nil (L:=mkL [(1,Zq166.fr),(0,Zq167.fr)]) (l:=[(0,.loop Zq167.c)]) ⟨Lam.skip rfl (Lam.cons Zq167.ok),trivial⟩
  (fun x=>by simp only[Zq168,mC,mB,mS,mO,mN];kernel_rfl)
end Zq168
def Zq169.B (words:List Int) (k_:Int) (r6:Int) (v4:Int) (v5:List Int) (r4:Int) (v6:Bool) (v2:Inode_) (x_:Inode_) (at_2:Int) (i_:Int) (e_:Entry_):Option ((Int×Int×Entry_)⊕(Int×Entry_)):=
 cond (cond (decide (i_<r6)) (decide (i_<8)) false) ((Zq154 words at_2).bind fun r7=>cond (!((256:Int) == 0)) ((some (([IntKind.u8.wrap (r7.tmod 256)]).map fun n=>UInt8.ofNat n.toNat)).bind fun v7=>cond (decide (e_.1.length+v7.length≤2147483648)) (some (.inl (w64 (at_2+1),w64 (i_+1),(e_.1++v7,e_.2)))) none) none) (some (.inr (at_2,e_)))
def Zq169 (words:List Int) (k_:Int) (r6:Int) (v4:Int) (v5:List Int) (r4:Int) (v6:Bool) (v2:Inode_) (x_:Inode_):(Int×Int×Entry_)→Option (Int×Entry_):=
 loopL fun s=>Zq169.B words k_ r6 v4 v5 r4 v6 v2 x_ s.1 s.2.1 s.2.2
def Zq170.B (words:List Int) (v2:Inode_) (at_:Int) (k_:Int) (x_:Inode_):Option ((Int×Int×Inode_)⊕Inode_):=
 cond (x_.1 == 2) ((Zq154 words 3).bind fun r4=>(some (cond (decide (k_<r4)) (decide (at_<(words.length:Int))) false)).bind fun v3=>cond v3 ((Zq154 words at_).bind fun r5=>(Zq154 words (w64 (at_+1))).bind fun r6=>(Zq169 words k_ r6 k_ words r4 (decide (k_<r4)) v2 x_ (w64 (at_+2),0,([],r5,()))).bind fun o=>cond (decide ((x_.2.2.2.2.1++([o.2])).length≤2147483648)) (some (.inl (o.1,w64 (k_+1),(x_.1,x_.2.1,x_.2.2.1,x_.2.2.2.1,x_.2.2.2.2.1++([o.2]),x_.2.2.2.2.2)))) none) (some (.inr x_))) (some (.inr x_))
def Zq170 (words:List Int) (v2:Inode_):(Int×Int×Inode_)→Option Inode_:=
 loopL fun s=>Zq170.B words v2 s.1 s.2.1 s.2.2
def Zq171 (words:List Int):Option (Inode_×Bool):=
 cond ((words.length:Int) == 0) (some ((0,0,0,[],[],()),true)) (cond (inB 0 words.length) ((Zq154 words 1).bind fun r=>(Zq154 words 2).bind fun r2=>(some (cond ((words.getD (0:Int).toNat 0) == 1) (decide ((words.length:Int)>3)) false)).bind fun v=>cond v (cond (decide ((0:Int)≤(3:Int))&&decide ((3:Int)≤(words.length:Int))) ((Zq134 ((words.take words.length).drop ((3:Int).toNat))).bind fun r3=>(Zq170 words (0,0,0,[],[],()) (4,0,(words.getD (0:Int).toNat 0,r,r2,r3,[],()))).bind fun o2=>(Zq165 o2).bind fun r8=>cond (r8 == 0) ((Zq168 (o2.1,o2.2.1,o2.2.2.1,o2.2.2.2.1,o2.2.2.2.2.1,o2.2.2.2.2.2)).bind fun r9=>(Zq133 r9 words).bind fun r10=>some ((o2.1,o2.2.1,o2.2.2.1,o2.2.2.2.1,o2.2.2.2.2.1,o2.2.2.2.2.2),r10)) (some ((o2.1,o2.2.1,o2.2.2.1,o2.2.2.2.1,o2.2.2.2.2.1,o2.2.2.2.2.2),false))) none) ((Zq170 words (0,0,0,[],[],()) (4,0,(words.getD (0:Int).toNat 0,r,r2,[],[],()))).bind fun o3=>(Zq165 o3).bind fun r11=>cond (r11 == 0) ((Zq168 (o3.1,o3.2.1,o3.2.2.1,o3.2.2.2.1,o3.2.2.2.2.1,o3.2.2.2.2.2)).bind fun r12=>(Zq133 r12 words).bind fun r13=>some ((o3.1,o3.2.1,o3.2.2.1,o3.2.2.2.1,o3.2.2.2.2.1,o3.2.2.2.2.2),r13)) (some ((o3.1,o3.2.1,o3.2.2.1,o3.2.2.2.1,o3.2.2.2.2.1,o3.2.2.2.2.2),false)))) none)
namespace Zq171
def G:Gam:=mkG [(250,Zq154.FS),(149,Zq134.FS),(241,Zq165.FS),(189,Zq168.FS),(225,Zq133.FS)]
theorem Gok:GOk PR G:=.cons Zq154.ok (.cons Zq134.ok (.cons Zq165.ok (.cons Zq168.ok (.cons Zq133.ok .nil))))
end Zq171
namespace Zq169
def c:=codeAt (bodyOf Proofs.Tryz.f203) [1,1,1,1,1,0,1,0,0,1,0,0,1,1,1,0,1,0,0]
def sp:SP:=⟨[(0,.cs SI),(2,.loc 2 []),(4,.loc 4 []),(5,.cs I64),(6,.cs I64),(7,.loc 7 []),(8,.cs I64),(9,.cs I64),(38,.cs I64),(39,.cs SI),(40,.cs I64),(41,.cs .bool)],[(2,.mem,.cd tInode_),(4,.mem,.cd tInode_),(7,.mem,.cd tEntry_)]⟩
def out (words:List Int) (k_:Int) (r6:Int) (v4:Int) (v5:List Int) (r4:Int) (v6:Bool) (v2:Inode_) (x_:Inode_):FOut (Int×Entry_):=fun b _ k=>k (.ex 2) ⟨[(0,.cs SI words),(2,.loc 2 []),(4,.loc 4 []),(5,.cs I64 b.1),(6,.cs I64 k_),(7,.loc 7 []),(38,.cs I64 v4),(39,.cs SI v5),(40,.cs I64 r4),(41,.cs .bool v6)],[(2,some ⟨.mem,.cd tInode_ v2⟩),(4,some ⟨.mem,.cd tInode_ x_⟩),(7,some ⟨.mem,.cd tEntry_ b.2⟩)]⟩
def fr:=lfrag sp (fun x=>Zq169 x.1.1 x.1.2.2.2.2.1 x.1.2.2.2.2.2.2.1 x.1.2.2.2.2.2.2.2.2.1 x.1.2.2.2.2.2.2.2.2.2.1 x.1.2.2.2.2.2.2.2.2.2.2.1 x.1.2.2.2.2.2.2.2.2.2.2.2.1 x.2.1 x.2.2.1 (x.1.2.2.2.1,x.1.2.2.2.2.2.2.2.1,x.2.2.2.1)) fun x=>out x.1.1 x.1.2.2.2.2.1 x.1.2.2.2.2.2.2.1 x.1.2.2.2.2.2.2.2.2.1 x.1.2.2.2.2.2.2.2.2.2.1 x.1.2.2.2.2.2.2.2.2.2.2.1 x.1.2.2.2.2.2.2.2.2.2.2.2.1 x.2.1 x.2.2.1
theorem ok:CodeOk PR 98 1 (.loop c) fr:=
 lp_ok tbok hmix h0 .no (G:=Zq171.G) Zq171.Gok (L:=mkL []) (l:=[]) hT [0,2,4,5,6,7,8,9,38,39,40,41] [2,4,7] [(2,([0,2,4,5,6,7,38,39,40,41],[2,4,7]))] ([],[]) (fun x s=>B x.1.1 x.1.2.2.2.2.1 x.1.2.2.2.2.2.2.1 x.1.2.2.2.2.2.2.2.2.1 x.1.2.2.2.2.2.2.2.2.2.1 x.1.2.2.2.2.2.2.2.2.2.2.1 x.1.2.2.2.2.2.2.2.2.2.2.2.1 x.2.1 x.2.2.1 s.1 s.2.1 s.2.2) (fun x s=>⟨[(0,.cs SI x.1.1),(2,.loc 2 []),(4,.loc 4 []),(5,.cs I64 s.1),(6,.cs I64 x.1.2.2.2.2.1),(7,.loc 7 []),(8,.cs I64 x.1.2.2.2.2.2.2.1),(9,.cs I64 s.2.1),(38,.cs I64 x.1.2.2.2.2.2.2.2.2.1),(39,.cs SI x.1.2.2.2.2.2.2.2.2.2.1),(40,.cs I64 x.1.2.2.2.2.2.2.2.2.2.2.1),(41,.cs .bool x.1.2.2.2.2.2.2.2.2.2.2.2.1)],[(2,some ⟨.mem,.cd tInode_ x.2.1⟩),(4,some ⟨.mem,.cd tInode_ x.2.2.1⟩),(7,some ⟨.mem,.cd tEntry_ s.2.2⟩)]⟩) (fun x=>(x.1.2.2.2.1,x.1.2.2.2.2.2.2.2.1,x.2.2.2.1))
  (fun x s=>by simp only[B,mC,mB,mS,mO,mN];kernel_rfl)
end Zq169
namespace Zq170
def c:=codeAt (bodyOf Proofs.Tryz.f203) [1,1,1,1,1,0,1,0,0]
def sp:SP:=⟨[(0,.cs SI),(2,.loc 2 []),(4,.loc 4 []),(5,.cs I64),(6,.cs I64)],[(2,.mem,.cd tInode_),(4,.mem,.cd tInode_)]⟩
def out (words:List Int) (v2:Inode_):FOut Inode_:=fun b _ k=>k (.ex 0) ⟨[(0,.cs SI words),(2,.loc 2 []),(4,.loc 4 [])],[(2,some ⟨.mem,.cd tInode_ v2⟩),(4,some ⟨.mem,.cd tInode_ b⟩)]⟩
def fr:=lfrag sp (fun x=>Zq170 x.1.1 x.2.1 (x.1.2.2.2.1,x.1.2.2.2.2.1,x.2.2.1)) fun x=>out x.1.1 x.2.1
theorem ok:CodeOk PR 98 1 (.loop c) fr:=
 lp_ok tbok hmix h0 (.R (.L (.one (.R (.R (.R (.L (.R (.one (.fr 1)))))))))) (G:=Zq171.G) Zq171.Gok (L:=mkL [(1,Zq169.fr)]) (l:=[(1,.loop Zq169.c)]) ⟨Lam.cons Zq169.ok,trivial⟩ [0,2,4,5,6] [2,4] [(0,([0,2,4],[2,4]))] ([],[]) (fun x s=>B x.1.1 x.2.1 s.1 s.2.1 s.2.2) (fun x s=>⟨[(0,.cs SI x.1.1),(2,.loc 2 []),(4,.loc 4 []),(5,.cs I64 s.1),(6,.cs I64 s.2.1)],[(2,some ⟨.mem,.cd tInode_ x.2.1⟩),(4,some ⟨.mem,.cd tInode_ s.2.2⟩)]⟩) (fun x=>(x.1.2.2.2.1,x.1.2.2.2.2.1,x.2.2.1))
  (fun x s=>by simp only[B,mC,mB,mS,mO,mN];kernel_rfl)
end Zq170
namespace Zq171
def pts:List PT:=[.cs SI]
def FS:FS:=mkFS [.sh] pts (fun x=>Zq171 x.1) fun t=>⟨[.cd tInode_ t.1,.cs .bool t.2],[]⟩
theorem ok:FsOk PR 203 FS:=
 fn_ok tbok hmix Proofs.Tryz.f203 h0 (.R (.R (.R (.R (.R (.L (.R (.one (.fr 0))))))))) (G:=G) Gok (L:=mkL [(1,Zq169.fr),(0,Zq170.fr)]) (l:=[(0,.loop Zq170.c)]) ⟨Lam.skip rfl (Lam.cons Zq170.ok),trivial⟩
  (fun x=>by simp only[Zq171,mC,mB,mS,mO,mN];kernel_rfl)
end Zq171
def Zq172.B (list:List Inode_) (i_:Int):Option (Int⊕((Int⊕Unit))):=
 cond (decide (i_<(list.length:Int))) (cond (inB i_ list.length) ((Zq165 (list.getD i_.toNat zInode_)).bind fun r=>cond (r != 0) (some (.inr (.inl r))) (some (.inl (w64 (i_+1))))) none) (some (.inr (.inr ())))
def Zq172 (list:List Inode_):Int→Option ((Int⊕Unit)):=
 loopL fun s=>Zq172.B list s
def Zq173 (list:List Inode_):Option Int:=
 cond (decide ((list.length:Int)>10)) (some 2) ((Zq172 list 0).bind fun o=>sel o (fun b=>some b) (fun c=>some 0))
namespace Zq173
def G:Gam:=mkG [(241,Zq165.FS)]
theorem Gok:GOk PR G:=.cons Zq165.ok .nil
end Zq173
namespace Zq172
def c:=codeAt (bodyOf Proofs.Tryz.f181) [1,1,0,1,0,0]
def sp:SP:=⟨[(0,.cs (.sl tInode_)),(3,.cs I64)],[]⟩
def out (list:List Inode_):FOut ((Int⊕Unit)):=fun o _ k=>sel o (fun b=>k (.rt) ⟨[(2,.cs I64 b)],[]⟩) (fun c=>k (.ex 0) ⟨[],[]⟩)
def fr:=lfrag sp (fun x=>Zq172 x.1.1 x.1.2.1) fun x=>out x.1.1
theorem ok:CodeOk PR 21 1 (.loop c) fr:=
 lp_ok tbok hmix h0 .no (G:=Zq173.G) Zq173.Gok (L:=mkL []) (l:=[]) hT [0,3] [] [(0,([],[]))] ([2],[]) (fun x s=>B x.1.1 s) (fun x s=>⟨[(0,.cs (.sl tInode_) x.1.1),(3,.cs I64 s)],[]⟩) (fun x=>x.1.2.1)
  (fun x s=>by simp only[B,mC,mB,mS,mO,mN];kernel_rfl)
end Zq172
namespace Zq173
def pts:List PT:=[.cs (.sl tInode_)]
def FS:FS:=mkFS [.sh] pts (fun x=>Zq173 x.1) fun t=>⟨[.cs I64 t],[]⟩
theorem ok:FsOk PR 181 FS:=
 fn_ok tbok hmix Proofs.Tryz.f181 h0 (.R (.R (.L (.R (.one (.fr 0)))))) (G:=G) Gok (L:=mkL [(0,Zq172.fr)]) (l:=[(0,.loop Zq172.c)]) ⟨Lam.cons Zq172.ok,trivial⟩
  (fun x=>by simp only[Zq173,mC,mB,mS,mO,mN];kernel_rfl)
end Zq173
def Zq174.B (list:List Inode_) (at_:Int) (i_:Int) (n_2:Int) (k_:Int):Option ((Int×Int)⊕Int):=
 cond (inB i_ list.length) ((some ((list.getD i_.toNat zInode_).2.2.2.1.length:Int)).bind fun v=>cond (decide (k_<v)) (cond (inB i_ list.length) (cond (inB k_ ((list.getD i_.toNat zInode_).2.2.2.1.length)) ((some ((list.getD i_.toNat zInode_).2.2.2.1.getD k_.toNat 0)).bind fun v2=>cond (v2 == at_) (some (.inl (w64 (n_2+1),w64 (k_+1)))) (some (.inl (n_2,w64 (k_+1))))) none) none) (some (.inr n_2))) none
def Zq174 (list:List Inode_) (at_:Int) (i_:Int):(Int×Int)→Option Int:=
 loopL fun s=>Zq174.B list at_ i_ s.1 s.2
def Zq175.B (list:List Inode_) (at_:Int) (n_:Int) (i_:Int):Option ((Int×Int)⊕Int):=
 cond (decide (i_<(list.length:Int))) ((Zq174 list at_ i_ (n_,0)).bind fun o=>some (.inl (o,w64 (i_+1)))) (some (.inr n_))
def Zq175 (list:List Inode_) (at_:Int):(Int×Int)→Option Int:=
 loopL fun s=>Zq175.B list at_ s.1 s.2
def Zq176 (list:List Inode_) (at_:Int):Option Int:=
 (Zq175 list at_ (0,0)).bind fun o2=>some o2
namespace Zq174
def c:=codeAt (bodyOf Proofs.Tryz.f215) [1,1,0,1,0,0,1,0,0,1,0,0]
def sp:SP:=⟨[(0,.cs (.sl tInode_)),(1,.cs I64),(5,.cs I64),(6,.cs I64),(7,.cs I64)],[]⟩
def out (list:List Inode_) (at_:Int) (i_:Int):FOut Int:=fun b _ k=>k (.ex 2) ⟨[(0,.cs (.sl tInode_) list),(1,.cs I64 at_),(5,.cs I64 b),(6,.cs I64 i_)],[]⟩
def fr:=lfrag sp (fun x=>Zq174 x.1.1 x.1.2.1 x.1.2.2.2.1 (x.1.2.2.1,x.1.2.2.2.2.1)) fun x=>out x.1.1 x.1.2.1 x.1.2.2.2.1
theorem ok:CodeOk PR 37 2 (.loop c) fr:=
 lp_ok tbok hmix h0 .no (G:=(mkG [])) .nil (L:=mkL []) (l:=[]) hT [0,1,5,6,7] [] [(2,([0,1,5,6],[]))] ([],[]) (fun x s=>B x.1.1 x.1.2.1 x.1.2.2.2.1 s.1 s.2) (fun x s=>⟨[(0,.cs (.sl tInode_) x.1.1),(1,.cs I64 x.1.2.1),(5,.cs I64 s.1),(6,.cs I64 x.1.2.2.2.1),(7,.cs I64 s.2)],[]⟩) (fun x=>(x.1.2.2.1,x.1.2.2.2.2.1))
  (fun x s=>by simp only[B,mC,mB,mS,mO,mN];kernel_rfl)
end Zq174
namespace Zq175
def c:=codeAt (bodyOf Proofs.Tryz.f215) [1,1,0,1,0,0]
def sp:SP:=⟨[(0,.cs (.sl tInode_)),(1,.cs I64),(5,.cs I64),(6,.cs I64)],[]⟩
def out (list:List Inode_) (at_:Int):FOut Int:=fun b _ k=>k (.ex 0) ⟨[(5,.cs I64 b)],[]⟩
def fr:=lfrag sp (fun x=>Zq175 x.1.1 x.1.2.1 (x.1.2.2.1,x.1.2.2.2.1)) fun x=>out x.1.1 x.1.2.1
theorem ok:CodeOk PR 37 2 (.loop c) fr:=
 lp_ok tbok hmix h0 (.R (.L (.one (.R (.one (.fr 1)))))) (G:=(mkG [])) .nil (L:=mkL [(1,Zq174.fr)]) (l:=[(1,.loop Zq174.c)]) ⟨Lam.cons Zq174.ok,trivial⟩ [0,1,5,6] [] [(0,([5],[]))] ([],[]) (fun x s=>B x.1.1 x.1.2.1 s.1 s.2) (fun x s=>⟨[(0,.cs (.sl tInode_) x.1.1),(1,.cs I64 x.1.2.1),(5,.cs I64 s.1),(6,.cs I64 s.2)],[]⟩) (fun x=>(x.1.2.2.1,x.1.2.2.2.1))
  (fun x s=>by simp only[B,mC,mB,mS,mO,mN];kernel_rfl)
end Zq175
namespace Zq176
def pts:List PT:=[.cs (.sl tInode_),.cs I64]
def FS:FS:=mkFS [.sh,.sh] pts (fun x=>Zq176 x.1 x.2.1) fun t=>⟨[.cs I64 t],[]⟩
theorem ok:FsOk PR 215 FS:=
 fn_ok tbok hmix Proofs.Tryz.f215 h0 (.R (.R (.L (.R (.one (.fr 0)))))) (G:=(mkG [])) .nil (L:=mkL [(1,Zq174.fr),(0,Zq175.fr)]) (l:=[(0,.loop Zq175.c)]) ⟨Lam.skip rfl (Lam.cons Zq175.ok),trivial⟩
  (fun x=>by simp only[Zq176,mC,mB,mS,mO,mN];kernel_rfl)
end Zq176
def Zq177.B (list:List Inode_) (once_:Bool) (at_:Int) (out_:List Int):Option ((Bool×Int×List Int)⊕(Bool×List Int)):=
 cond (decide (at_<20)) ((Zq176 list at_).bind fun r=>cond (decide (r>0)) (cond (decide ((out_++([at_])).length≤2147483648)) (some (.inl (cond once_ (decide (r≤1)) false,w64 (at_+1),out_++([at_])))) none) (some (.inl (cond once_ (decide (r≤1)) false,w64 (at_+1),out_)))) (some (.inr (once_,out_)))
def Zq177 (list:List Inode_):(Bool×Int×List Int)→Option (Bool×List Int):=
 loopL fun s=>Zq177.B list s.1 s.2.1 s.2.2
def Zq178 (list:List Inode_):Option ((List Int)×Bool):=
 (Zq177 list (true,0,[])).bind fun o=>some (o.2,o.1)
namespace Zq178
def G:Gam:=mkG [(215,Zq176.FS)]
theorem Gok:GOk PR G:=.cons Zq176.ok .nil
end Zq178
namespace Zq177
def c:=codeAt (bodyOf Proofs.Tryz.f220) [1,1,1,0,1,0,0]
def sp:SP:=⟨[(0,.cs (.sl tInode_)),(4,.seg 4 []),(5,.cs .bool),(6,.cs I64)],[(4,.reg,.cd SI)]⟩
def out (list:List Inode_):FOut (Bool×List Int):=fun b _ k=>k (.ex 0) ⟨[(4,.seg 4 []),(5,.cs .bool b.1)],[sr 4 (.cd SI b.2)]⟩
def fr:=lfrag sp (fun x=>Zq177 x.1.1 (x.1.2.2.1,x.1.2.2.2.1,x.2.1)) fun x=>out x.1.1
theorem ok:CodeOk PR 29 1 (.loop c) fr:=
 lp_ok tbok hmix h0 .no (G:=Zq178.G) Zq178.Gok (L:=mkL []) (l:=[]) hT [0,4,5,6] [4] [(0,([4,5],[4]))] ([],[]) (fun x s=>B x.1.1 s.1 s.2.1 s.2.2) (fun x s=>⟨[(0,.cs (.sl tInode_) x.1.1),(4,.seg 4 []),(5,.cs .bool s.1),(6,.cs I64 s.2.1)],[sr 4 (.cd SI s.2.2)]⟩) (fun x=>(x.1.2.2.1,x.1.2.2.2.1,x.2.1))
  (fun x s=>by simp only[B,mC,mB,mS,mO,mN];kernel_rfl)
end Zq177
namespace Zq178
def pts:List PT:=[.cs (.sl tInode_)]
def FS:FS:=mkFS [.sh] pts (fun x=>Zq178 x.1) fun t=>⟨[.cd SI t.1,.cs .bool t.2],[]⟩
theorem ok:FsOk PR 220 FS:=
 fn_ok tbok hmix Proofs.Tryz.f220 h0 (.R (.R (.R (.L (.R (.one (.fr 0))))))) (G:=G) Gok (L:=mkL [(0,Zq177.fr)]) (l:=[(0,.loop Zq177.c)]) ⟨Lam.cons Zq177.ok,trivial⟩
  (fun x=>by simp only[Zq178,mC,mB,mS,mO,mN];kernel_rfl)
end Zq178
def Zq179.B (f:Fs_) (i_:Int):Option (Int⊕((Int⊕Unit))):=
 cond (decide (i_<(f.2.1.length:Int))) (cond (inB i_ f.2.1.length) ((some (decide (((f.2.1.getD i_.toNat []).length:Int)>8))).bind fun v2=>cond v2 (some (.inr (.inl 2))) (some (.inl (w64 (i_+1))))) none) (some (.inr (.inr ())))
def Zq179 (f:Fs_):Int→Option ((Int⊕Unit)):=
 loopL fun s=>Zq179.B f s
def Zq180.B (f:Fs_) (i_2:Int) (k_:Int):Option (Int⊕((Int⊕Unit))):=
 cond (inB i_2 f.1.length) ((some ((f.1.getD i_2.toNat zInode_).2.2.2.2.1.length:Int)).bind fun v3=>cond (decide (k_<v3)) (cond (inB i_2 f.1.length) (cond (inB k_ ((f.1.getD i_2.toNat zInode_).2.2.2.2.1.length)) ((some ((f.1.getD i_2.toNat zInode_).2.2.2.2.1.getD k_.toNat zEntry_).2.1).bind fun v4=>cond (cond (!(decide (v4≥(f.1.length:Int)))) (inB v4 f.1.length) true) ((some (cond (decide (v4≥(f.1.length:Int))) true ((f.1.getD v4.toNat zInode_).1 == 0))).bind fun v5=>cond v5 (some (.inr (.inl 4))) (some (.inl (w64 (k_+1))))) none) none) none) (some (.inr (.inr ())))) none
def Zq180 (f:Fs_) (i_2:Int):Int→Option ((Int⊕Unit)):=
 loopL fun s=>Zq180.B f i_2 s
def Zq181.B (f:Fs_) (i_2:Int):Option (Int⊕((Int⊕Unit))):=
 cond (decide (i_2<(f.1.length:Int))) ((Zq180 f i_2 0).bind fun o2=>sel o2 (fun b2=>some (.inr (.inl b2))) (fun c2=>some (.inl (w64 (i_2+1))))) (some (.inr (.inr ())))
def Zq181 (f:Fs_):Int→Option ((Int⊕Unit)):=
 loopL fun s=>Zq181.B f s
def Zq182 (f:Fs_):Option Int:=
 (Zq173 f.1).bind fun r=>cond (r != 0) (some r) (cond (cond (!((f.1.length:Int) == 0)) (inB 0 f.1.length) true) ((some (cond ((f.1.length:Int) == 0) true ((f.1.getD (0:Int).toNat zInode_).1 != 2))).bind fun v=>cond (cond v true ((f.2.1.length:Int) != 20)) (some 1) ((Zq179 f 0).bind fun o=>sel o (fun b=>some b) (fun c=>(Zq178 f.1).bind fun r2=>cond (!r2.2) (some 7) ((Zq181 f 0).bind fun o3=>sel o3 (fun b3=>some b3) (fun c3=>some 0))))) none)
namespace Zq182
def G:Gam:=mkG [(181,Zq173.FS),(220,Zq178.FS)]
theorem Gok:GOk PR G:=.cons Zq173.ok (.cons Zq178.ok .nil)
end Zq182
namespace Zq179
def c:=codeAt (bodyOf Proofs.Tryz.f143) [1,1,1,0,1,0,0]
def sp:SP:=⟨[(0,.pt tFs_),(4,.cs I64)],[]⟩
def out (f:Fs_):FOut ((Int⊕Unit)):=fun o _ k=>sel o (fun b=>k (.rt) ⟨[(2,.cs I64 b)],[]⟩) (fun c=>k (.ex 0) ⟨[(0,.pt tFs_ f)],[]⟩)
def fr:=lfrag sp (fun x=>Zq179 x.1.1 x.1.2.1) fun x=>out x.1.1
theorem ok:CodeOk PR 122 1 (.loop c) fr:=
 lp_ok tbok hmix h0 .no (G:=Zq182.G) Zq182.Gok (L:=mkL []) (l:=[]) hT [0,4] [] [(0,([0],[]))] ([2],[]) (fun x s=>B x.1.1 s) (fun x s=>⟨[(0,.pt tFs_ x.1.1),(4,.cs I64 s)],[]⟩) (fun x=>x.1.2.1)
  (fun x s=>by simp only[B,mC,mB,mS,mO,mN];kernel_rfl)
end Zq179
namespace Zq180
def c:=codeAt (bodyOf Proofs.Tryz.f143) [1,1,1,1,1,0,1,0,0,1,0,0,1,0,0]
def sp:SP:=⟨[(0,.pt tFs_),(7,.cs I64),(8,.cs I64)],[]⟩
def out (f:Fs_) (i_2:Int):FOut ((Int⊕Unit)):=fun o _ k=>sel o (fun b=>k (.rt) ⟨[(2,.cs I64 b)],[]⟩) (fun c=>k (.ex 4) ⟨[(0,.pt tFs_ f),(7,.cs I64 i_2)],[]⟩)
def fr:=lfrag sp (fun x=>Zq180 x.1.1 x.1.2.1 x.1.2.2.1) fun x=>out x.1.1 x.1.2.1
theorem ok:CodeOk PR 122 1 (.loop c) fr:=
 lp_ok tbok hmix h0 .no (G:=Zq182.G) Zq182.Gok (L:=mkL []) (l:=[]) hT [0,7,8] [] [(4,([0,7],[]))] ([2],[]) (fun x s=>B x.1.1 x.1.2.1 s) (fun x s=>⟨[(0,.pt tFs_ x.1.1),(7,.cs I64 x.1.2.1),(8,.cs I64 s)],[]⟩) (fun x=>x.1.2.2.1)
  (fun x s=>by simp only[B,mC,mB,mS,mO,mN];kernel_rfl)
end Zq180
namespace Zq181
def c:=codeAt (bodyOf Proofs.Tryz.f143) [1,1,1,1,1,0,1,0,0]
def sp:SP:=⟨[(0,.pt tFs_),(7,.cs I64)],[]⟩
def out (f:Fs_):FOut ((Int⊕Unit)):=fun o _ k=>sel o (fun b=>k (.rt) ⟨[(2,.cs I64 b)],[]⟩) (fun c=>k (.ex 2) ⟨[],[]⟩)
def fr:=lfrag sp (fun x=>Zq181 x.1.1 x.1.2.1) fun x=>out x.1.1
theorem ok:CodeOk PR 122 1 (.loop c) fr:=
 lp_ok tbok hmix h0 (.R (.L (.one (.R (.one (.fr 2)))))) (G:=Zq182.G) Zq182.Gok (L:=mkL [(2,Zq180.fr)]) (l:=[(2,.loop Zq180.c)]) ⟨Lam.cons Zq180.ok,trivial⟩ [0,7] [] [(2,([],[]))] ([2],[]) (fun x s=>B x.1.1 s) (fun x s=>⟨[(0,.pt tFs_ x.1.1),(7,.cs I64 s)],[]⟩) (fun x=>x.1.2.1)
  (fun x s=>by simp only[B,mC,mB,mS,mO,mN];kernel_rfl)
end Zq181
namespace Zq182
def pts:List PT:=[.pt tFs_]
def FS:FS:=mkFS [.sh] pts (fun x=>Zq182 x.1) fun t=>⟨[.cs I64 t],[]⟩
theorem ok:FsOk PR 143 FS:=
 fn_ok tbok hmix Proofs.Tryz.f143 h0 (.R (.R (.R (.two (.R (.one (.fr 0))) (.R (.L (.R (.one (.fr 1))))))))) (G:=G) Gok (L:=mkL [(0,Zq179.fr),(2,Zq180.fr),(1,Zq181.fr)]) (l:=[(0,.loop Zq179.c),(1,.loop Zq181.c)]) ⟨Lam.cons Zq179.ok,Lam.skip rfl (Lam.skip rfl (Lam.cons Zq181.ok)),trivial⟩
  (fun x=>by simp only[Zq182,mC,mB,mS,mO,mN];kernel_rfl)
end Zq182
def Zq183 (a:Int) (b:Int):Option Int:=
 cond (decide (a<b)) (some a) (some b)
namespace Zq183
def pts:List PT:=[.cs I64,.cs I64]
def FS:FS:=mkFS [.sh,.sh] pts (fun x=>Zq183 x.1 x.2.1) fun t=>⟨[.cs I64 t],[]⟩
theorem ok:FsOk PR 224 FS:=
 fn_ok tbok hmix Proofs.Tryz.f224 h0 .no (G:=(mkG [])) .nil (L:=mkL []) (l:=[]) hT
  (fun x=>by simp only[Zq183,mC,mB,mS,mO,mN];kernel_rfl)
end Zq183
def Zq184.B (d:Disk_) (i_:Int) (x_:Nat) (k_:Int) (r:Int) (r2:List Int) (f_2:Fs_) (j_:Int) (bytes_:List Int):Option ((Int×List Int)⊕((Bool⊕(List Int)))):=
 cond (decide (j_<r)) (cond (inB j_ r2.length) (cond (decide ((r2.getD j_.toNat 0)>255)) (some (.inr (.inl false))) (cond (inB j_ r2.length) ((some (bytes_++([IntKind.u8.wrap (r2.getD j_.toNat 0)]))).bind fun v4=>cond (decide (v4.length≤2147483648)) (some (.inl (w64 (j_+1),v4))) none) none)) none) (some (.inr (.inr bytes_)))
def Zq184 (d:Disk_) (i_:Int) (x_:Nat) (k_:Int) (r:Int) (r2:List Int) (f_2:Fs_):(Int×List Int)→Option ((Bool⊕(List Int))):=
 loopL fun s=>Zq184.B d i_ x_ k_ r r2 f_2 s.1 s.2
def Zq185.B (d:Disk_) (i_:Int) (x_:Nat) (k_:Int) (f_2:Fs_):Option ((Int×Fs_)⊕(((Bool×Fs_)⊕Fs_))):=
 (some ((f_2.1.getD x_ zInode_).2.2.2.1.length:Int)).bind fun v=>cond (decide (k_<v)) ((some (w64 ((f_2.1.getD x_ zInode_).2.2.1-(w64 (k_*8))))).bind fun v2=>(Zq183 8 v2).bind fun r=>cond (inB k_ ((f_2.1.getD x_ zInode_).2.2.2.1.length)) ((some ((f_2.1.getD x_ zInode_).2.2.2.1.getD k_.toNat 0)).bind fun v3=>(Zq129 d (w64 ((27:Int)+v3))).bind fun r2=>cond (decide ((r2.length:Int)<r)) (some (.inr (.inl (false,f_2)))) ((Zq184 d i_ x_ k_ r r2 f_2 (0,[])).bind fun o=>sel o (fun b=>some (.inr (.inl (b,f_2)))) (fun c=>cond (inB k_ ((f_2.1.getD x_ zInode_).2.2.2.1.length)) ((some ((f_2.1.getD x_ zInode_).2.2.2.1.getD k_.toNat 0)).bind fun v5=>cond (inB v5 f_2.2.1.length) (some (.inl (w64 (k_+1),(f_2.1,f_2.2.1.set v5.toNat c,f_2.2.2)))) none) none))) none) (some (.inr (.inr f_2)))
def Zq185 (d:Disk_) (i_:Int) (x_:Nat):(Int×Fs_)→Option (((Bool×Fs_)⊕Fs_)):=
 loopL fun s=>Zq185.B d i_ x_ s.1 s.2
def Zq186.B (d:Disk_) (i_:Int) (f_:Fs_):Option ((Int×Fs_)⊕(((Bool×Fs_)⊕Fs_))):=
 cond (decide (i_<(f_.1.length:Int))) (cond (inB i_ f_.1.length) ((Zq185 d i_ i_.toNat (0,f_)).bind fun o2=>sel o2 (fun b2=>some (.inr (.inl (b2.1,b2.2)))) (fun c2=>some (.inl (w64 (i_+1),c2)))) none) (some (.inr (.inr f_)))
def Zq186 (d:Disk_):(Int×Fs_)→Option (((Bool×Fs_)⊕Fs_)):=
 loopL fun s=>Zq186.B d s.1 s.2
def Zq187 (d:Disk_) (f:Fs_):Option (Bool×Fs_):=
 (Zq186 d (0,f)).bind fun o3=>sel o3 (fun b3=>some (b3.1,b3.2)) (fun c3=>some (true,c3))
namespace Zq187
def G:Gam:=mkG [(224,Zq183.FS),(141,Zq129.FS)]
theorem Gok:GOk PR G:=.cons Zq183.ok (.cons Zq129.ok .nil)
end Zq187
namespace Zq184
def c:=codeAt (bodyOf Proofs.Tryz.f204) [1,0,1,0,0,1,0,0,1,1,0,0,1,0,0,1,1,1,1,0,1,0,0]
def sp:SP:=⟨[(0,.pt tDisk_),(1,.loc 1 []),(5,.cs I64),(6,.loc 1 [.f1,.el]),(7,.cs I64),(8,.cs I64),(9,.cs SI),(10,.seg 10 []),(11,.cs I64)],[(1,.mem,.cd tFs_),(10,.reg,.cd SB)]⟩
def out (d:Disk_) (i_:Int) (x_:Nat) (k_:Int) (r:Int) (r2:List Int) (f_2:Fs_):FOut ((Bool⊕(List Int))):=fun o _ k=>sel o (fun b=>k (.rt) ⟨[(4,.cs .bool b)],[(1,some ⟨.mem,.cd tFs_ f_2⟩)]⟩) (fun c=>k (.ex 4) ⟨[(0,.pt tDisk_ d),(1,.loc 1 []),(5,.cs I64 i_),(6,.loc 1 [.f1,.el x_]),(7,.cs I64 k_),(10,.seg 10 [])],[(1,some ⟨.mem,.cd tFs_ f_2⟩),sr 10 (.cd SB c)]⟩)
def fr:=lfrag sp (fun x=>Zq184 x.1.1 x.1.2.2.1 x.1.2.2.2.1.1 x.1.2.2.2.2.1 x.1.2.2.2.2.2.1 x.1.2.2.2.2.2.2.1 x.2.1 (x.1.2.2.2.2.2.2.2.2.1,x.2.2.1)) fun x=>out x.1.1 x.1.2.2.1 x.1.2.2.2.1.1 x.1.2.2.2.2.1 x.1.2.2.2.2.2.1 x.1.2.2.2.2.2.2.1 x.2.1
theorem ok:CodeOk PR 90 2 (.loop c) fr:=
 lp_ok tbok hmix h0 .no (G:=Zq187.G) Zq187.Gok (L:=mkL []) (l:=[]) hT [0,1,5,6,7,8,9,10,11] [1,10] [(4,([0,1,5,6,7,10],[1,10]))] ([4],[1]) (fun x s=>B x.1.1 x.1.2.2.1 x.1.2.2.2.1.1 x.1.2.2.2.2.1 x.1.2.2.2.2.2.1 x.1.2.2.2.2.2.2.1 x.2.1 s.1 s.2) (fun x s=>⟨[(0,.pt tDisk_ x.1.1),(1,.loc 1 []),(5,.cs I64 x.1.2.2.1),(6,.loc 1 [.f1,.el x.1.2.2.2.1.1]),(7,.cs I64 x.1.2.2.2.2.1),(8,.cs I64 x.1.2.2.2.2.2.1),(9,.cs SI x.1.2.2.2.2.2.2.1),(10,.seg 10 []),(11,.cs I64 s.1)],[(1,some ⟨.mem,.cd tFs_ x.2.1⟩),sr 10 (.cd SB s.2)]⟩) (fun x=>(x.1.2.2.2.2.2.2.2.2.1,x.2.2.1))
  (fun x s=>by simp only[B,mC,mB,mS,mO,mN];kernel_rfl)
end Zq184
namespace Zq185
def c:=codeAt (bodyOf Proofs.Tryz.f204) [1,0,1,0,0,1,0,0,1,1,0,0]
def sp:SP:=⟨[(0,.pt tDisk_),(1,.loc 1 []),(5,.cs I64),(6,.loc 1 [.f1,.el]),(7,.cs I64)],[(1,.mem,.cd tFs_)]⟩
def out (d:Disk_) (i_:Int) (x_:Nat):FOut (((Bool×Fs_)⊕Fs_)):=fun o _ k=>sel o (fun b=>k (.rt) ⟨[(4,.cs .bool b.1)],[(1,some ⟨.mem,.cd tFs_ b.2⟩)]⟩) (fun c=>k (.ex 2) ⟨[(0,.pt tDisk_ d),(1,.loc 1 []),(5,.cs I64 i_)],[(1,some ⟨.mem,.cd tFs_ c⟩)]⟩)
def fr:=lfrag sp (fun x=>Zq185 x.1.1 x.1.2.2.1 x.1.2.2.2.1.1 (x.1.2.2.2.2.1,x.2.1)) fun x=>out x.1.1 x.1.2.2.1 x.1.2.2.2.1.1
theorem ok:CodeOk PR 90 2 (.loop c) fr:=
 lp_ok tbok hmix h0 (.R (.L (.one (.R (.R (.R (.R (.L (.R (.one (.fr 2))))))))))) (G:=Zq187.G) Zq187.Gok (L:=mkL [(2,Zq184.fr)]) (l:=[(2,.loop Zq184.c)]) ⟨Lam.cons Zq184.ok,trivial⟩ [0,1,5,6,7] [1] [(2,([0,1,5],[1]))] ([4],[1]) (fun x s=>B x.1.1 x.1.2.2.1 x.1.2.2.2.1.1 s.1 s.2) (fun x s=>⟨[(0,.pt tDisk_ x.1.1),(1,.loc 1 []),(5,.cs I64 x.1.2.2.1),(6,.loc 1 [.f1,.el x.1.2.2.2.1.1]),(7,.cs I64 s.1)],[(1,some ⟨.mem,.cd tFs_ s.2⟩)]⟩) (fun x=>(x.1.2.2.2.2.1,x.2.1))
  (fun x s=>by simp only[B,mC,mB,mS,mO,mN];kernel_rfl)
end Zq185
namespace Zq186
def c:=codeAt (bodyOf Proofs.Tryz.f204) [1,0,1,0,0]
def sp:SP:=⟨[(0,.pt tDisk_),(1,.loc 1 []),(5,.cs I64)],[(1,.mem,.cd tFs_)]⟩
def out (d:Disk_):FOut (((Bool×Fs_)⊕Fs_)):=fun o _ k=>sel o (fun b=>k (.rt) ⟨[(4,.cs .bool b.1)],[(1,some ⟨.mem,.cd tFs_ b.2⟩)]⟩) (fun c=>k (.ex 0) ⟨[],[(1,some ⟨.mem,.cd tFs_ c⟩)]⟩)
def fr:=lfrag sp (fun x=>Zq186 x.1.1 (x.1.2.2.1,x.2.1)) fun x=>out x.1.1
theorem ok:CodeOk PR 90 2 (.loop c) fr:=
 lp_ok tbok hmix h0 (.R (.L (.one (.R (.R (.one (.fr 1))))))) (G:=Zq187.G) Zq187.Gok (L:=mkL [(2,Zq184.fr),(1,Zq185.fr)]) (l:=[(1,.loop Zq185.c)]) ⟨Lam.skip rfl (Lam.cons Zq185.ok),trivial⟩ [0,1,5] [1] [(0,([],[1]))] ([4],[1]) (fun x s=>B x.1.1 s.1 s.2) (fun x s=>⟨[(0,.pt tDisk_ x.1.1),(1,.loc 1 []),(5,.cs I64 s.1)],[(1,some ⟨.mem,.cd tFs_ s.2⟩)]⟩) (fun x=>(x.1.2.2.1,x.2.1))
  (fun x s=>by simp only[B,mC,mB,mS,mO,mN];kernel_rfl)
end Zq186
namespace Zq187
def pts:List PT:=[.pt tDisk_,.op (.cd tFs_)]
def FS:FS:=mkFS [.sh,.mu] pts (fun x=>Zq187 x.1 x.2.1) fun t=>⟨[.cs .bool t.1],[.op (.cd tFs_ t.2)]⟩
theorem ok:FsOk PR 204 FS:=
 fn_ok tbok hmix Proofs.Tryz.f204 h0 (.R (.L (.R (.one (.fr 0))))) (G:=G) Gok (L:=mkL [(2,Zq184.fr),(1,Zq185.fr),(0,Zq186.fr)]) (l:=[(0,.loop Zq186.c)]) ⟨Lam.skip rfl (Lam.skip rfl (Lam.cons Zq186.ok)),trivial⟩
  (fun x=>by simp only[Zq187,mC,mB,mS,mO,mN];kernel_rfl)
end Zq187
def Zq188.B (f:Fs_) (round_:Int) (i_:Int) (k_:Int) (in_4:List Bool):Option ((Int×List Bool)⊕(List Bool)):=
 cond (inB i_ in_4.length) (cond (cond (in_4.getD i_.toNat false) (inB i_ f.1.length) true) ((some (cond (in_4.getD i_.toNat false) (decide (k_<((f.1.getD i_.toNat zInode_).2.2.2.2.1.length:Int))) false)).bind fun v=>cond v (cond (inB i_ f.1.length) (cond (inB k_ ((f.1.getD i_.toNat zInode_).2.2.2.2.1.length)) ((some ((f.1.getD i_.toNat zInode_).2.2.2.2.1.getD k_.toNat zEntry_).2.1).bind fun v2=>cond (inB v2 in_4.length) (some (.inl (w64 (k_+1),in_4.set v2.toNat true))) none) none) none) (some (.inr in_4))) none) none
def Zq188 (f:Fs_) (round_:Int) (i_:Int):(Int×List Bool)→Option (List Bool):=
 loopL fun s=>Zq188.B f round_ i_ s.1 s.2
def Zq189.B (f:Fs_) (round_:Int) (i_:Int) (in_3:List Bool):Option ((Int×List Bool)⊕(List Bool)):=
 cond (decide (i_<(f.1.length:Int))) ((Zq188 f round_ i_ (0,in_3)).bind fun o=>some (.inl (w64 (i_+1),o))) (some (.inr in_3))
def Zq189 (f:Fs_) (round_:Int):(Int×List Bool)→Option (List Bool):=
 loopL fun s=>Zq189.B f round_ s.1 s.2
def Zq190.B (f:Fs_) (round_:Int) (in_2:List Bool):Option ((Int×List Bool)⊕(List Bool)):=
 cond (decide (round_<(f.1.length:Int))) ((Zq189 f round_ (0,in_2)).bind fun o2=>some (.inl (w64 (round_+1),o2))) (some (.inr in_2))
def Zq190 (f:Fs_):(Int×List Bool)→Option (List Bool):=
 loopL fun s=>Zq190.B f s.1 s.2
def Zq191.B (o3:List Bool) (i_2:Int) (out_:List Int):Option ((Int×List Int)⊕(List Int)):=
 cond (decide (i_2<(o3.length:Int))) (cond (inB i_2 o3.length) (cond (o3.getD i_2.toNat false) (cond (decide ((out_++([i_2])).length≤2147483648)) (some (.inl (w64 (i_2+1),out_++([i_2])))) none) (some (.inl (w64 (i_2+1),out_)))) none) (some (.inr out_))
def Zq191 (o3:List Bool):(Int×List Int)→Option (List Int):=
 loopL fun s=>Zq191.B o3 s.1 s.2
def Zq192 (f:Fs_):Option (List Int):=
 cond (decide ((0:Int)≤(f.1.length:Int))&&(decide ((f.1.length:Int)≤(f.1.length:Int))&&decide ((f.1.length:Int)≤2147483648))) (cond (inB 0 ((List.replicate (f.1.length:Int).toNat false).length)) ((some ((List.replicate (f.1.length:Int).toNat false).set ((0:Int).toNat) true)).bind fun in_=>(Zq190 f (0,in_)).bind fun o3=>(Zq191 o3 (0,[])).bind fun o4=>some o4) none) none
namespace Zq188
def c:=codeAt (bodyOf Proofs.Tryz.f221) [1,1,1,0,1,0,0,1,0,0,1,0,0,1,0,0,1,0,0]
def sp:SP:=⟨[(0,.pt tFs_),(3,.seg 3 []),(4,.cs I64),(5,.cs I64),(6,.cs I64)],[(3,.reg,.cd (.sl .bool))]⟩
def out (f:Fs_) (round_:Int) (i_:Int):FOut (List Bool):=fun b _ k=>k (.ex 4) ⟨[(0,.pt tFs_ f),(3,.seg 3 []),(4,.cs I64 round_),(5,.cs I64 i_)],[sr 3 (.cd (.sl .bool) b)]⟩
def fr:=lfrag sp (fun x=>Zq188 x.1.1 x.1.2.2.1 x.1.2.2.2.1 (x.1.2.2.2.2.1,x.2.1)) fun x=>out x.1.1 x.1.2.2.1 x.1.2.2.2.1
theorem ok:CodeOk PR 84 1 (.loop c) fr:=
 lp_ok tbok hmix h0 .no (G:=(mkG [])) .nil (L:=mkL []) (l:=[]) hT [0,3,4,5,6] [3] [(4,([0,3,4,5],[3]))] ([],[]) (fun x s=>B x.1.1 x.1.2.2.1 x.1.2.2.2.1 s.1 s.2) (fun x s=>⟨[(0,.pt tFs_ x.1.1),(3,.seg 3 []),(4,.cs I64 x.1.2.2.1),(5,.cs I64 x.1.2.2.2.1),(6,.cs I64 s.1)],[sr 3 (.cd (.sl .bool) s.2)]⟩) (fun x=>(x.1.2.2.2.2.1,x.2.1))
  (fun x s=>by simp only[B,mC,mB,mS,mO,mN];kernel_rfl)
end Zq188
namespace Zq189
def c:=codeAt (bodyOf Proofs.Tryz.f221) [1,1,1,0,1,0,0,1,0,0,1,0,0]
def sp:SP:=⟨[(0,.pt tFs_),(3,.seg 3 []),(4,.cs I64),(5,.cs I64)],[(3,.reg,.cd (.sl .bool))]⟩
def out (f:Fs_) (round_:Int):FOut (List Bool):=fun b _ k=>k (.ex 2) ⟨[(0,.pt tFs_ f),(3,.seg 3 []),(4,.cs I64 round_)],[sr 3 (.cd (.sl .bool) b)]⟩
def fr:=lfrag sp (fun x=>Zq189 x.1.1 x.1.2.2.1 (x.1.2.2.2.1,x.2.1)) fun x=>out x.1.1 x.1.2.2.1
theorem ok:CodeOk PR 84 1 (.loop c) fr:=
 lp_ok tbok hmix h0 (.R (.L (.one (.R (.one (.fr 2)))))) (G:=(mkG [])) .nil (L:=mkL [(2,Zq188.fr)]) (l:=[(2,.loop Zq188.c)]) ⟨Lam.cons Zq188.ok,trivial⟩ [0,3,4,5] [3] [(2,([0,3,4],[3]))] ([],[]) (fun x s=>B x.1.1 x.1.2.2.1 s.1 s.2) (fun x s=>⟨[(0,.pt tFs_ x.1.1),(3,.seg 3 []),(4,.cs I64 x.1.2.2.1),(5,.cs I64 s.1)],[sr 3 (.cd (.sl .bool) s.2)]⟩) (fun x=>(x.1.2.2.2.1,x.2.1))
  (fun x s=>by simp only[B,mC,mB,mS,mO,mN];kernel_rfl)
end Zq189
namespace Zq190
def c:=codeAt (bodyOf Proofs.Tryz.f221) [1,1,1,0,1,0,0]
def sp:SP:=⟨[(0,.pt tFs_),(3,.seg 3 []),(4,.cs I64)],[(3,.reg,.cd (.sl .bool))]⟩
def out (f:Fs_):FOut (List Bool):=fun b _ k=>k (.ex 0) ⟨[(3,.seg 3 [])],[sr 3 (.cd (.sl .bool) b)]⟩
def fr:=lfrag sp (fun x=>Zq190 x.1.1 (x.1.2.2.1,x.2.1)) fun x=>out x.1.1
theorem ok:CodeOk PR 84 1 (.loop c) fr:=
 lp_ok tbok hmix h0 (.R (.L (.one (.R (.one (.fr 1)))))) (G:=(mkG [])) .nil (L:=mkL [(2,Zq188.fr),(1,Zq189.fr)]) (l:=[(1,.loop Zq189.c)]) ⟨Lam.skip rfl (Lam.cons Zq189.ok),trivial⟩ [0,3,4] [3] [(0,([3],[3]))] ([],[]) (fun x s=>B x.1.1 s.1 s.2) (fun x s=>⟨[(0,.pt tFs_ x.1.1),(3,.seg 3 []),(4,.cs I64 s.1)],[sr 3 (.cd (.sl .bool) s.2)]⟩) (fun x=>(x.1.2.2.1,x.2.1))
  (fun x s=>by simp only[B,mC,mB,mS,mO,mN];kernel_rfl)
end Zq190
namespace Zq191
def c:=codeAt (bodyOf Proofs.Tryz.f221) [1,1,1,1,1,0,1,0,0]
def sp:SP:=⟨[(3,.seg 3 []),(7,.seg 7 []),(8,.cs I64)],[(3,.reg,.cd (.sl .bool)),(7,.reg,.cd SI)]⟩
def out (o3:List Bool):FOut (List Int):=fun b _ k=>k (.ex 6) ⟨[(7,.seg 7 [])],[sr 7 (.cd SI b)]⟩
def fr:=lfrag sp (fun x=>Zq191 x.2.1 (x.1.2.2.1,x.2.2.1)) fun x=>out x.2.1
theorem ok:CodeOk PR 84 1 (.loop c) fr:=
 lp_ok tbok hmix h0 .no (G:=(mkG [])) .nil (L:=mkL []) (l:=[]) hT [3,7,8] [3,7] [(6,([7],[7]))] ([],[]) (fun x s=>B x.2.1 s.1 s.2) (fun x s=>⟨[(3,.seg 3 []),(7,.seg 7 []),(8,.cs I64 s.1)],[sr 3 (.cd (.sl .bool) x.2.1),sr 7 (.cd SI s.2)]⟩) (fun x=>(x.1.2.2.1,x.2.2.1))
  (fun x s=>by simp only[B,mC,mB,mS,mO,mN];kernel_rfl)
end Zq191
namespace Zq192
def pts:List PT:=[.pt tFs_]
def FS:FS:=mkFS [.sh] pts (fun x=>Zq192 x.1) fun t=>⟨[.cd SI t],[]⟩
theorem ok:FsOk PR 221 FS:=
 fn_ok tbok hmix Proofs.Tryz.f221 h0 (.R (.R (.R (.two (.R (.one (.fr 0))) (.R (.L (.R (.one (.fr 3))))))))) (G:=(mkG [])) .nil (L:=mkL [(2,Zq188.fr),(1,Zq189.fr),(0,Zq190.fr),(3,Zq191.fr)]) (l:=[(0,.loop Zq190.c),(3,.loop Zq191.c)]) ⟨Lam.skip rfl (Lam.skip rfl (Lam.cons Zq190.ok)),Lam.skip rfl (Lam.skip rfl (Lam.skip rfl (Lam.cons Zq191.ok))),trivial⟩
  (fun x=>by simp only[Zq192,mC,mB,mS,mO,mN];kernel_rfl)
end Zq192
def Zq193.B (list:List Inode_) (at_:Int) (i_:Int) (n_2:Int) (k_:Int):Option ((Int×Int)⊕Int):=
 cond (inB i_ list.length) ((some ((list.getD i_.toNat zInode_).2.2.2.2.1.length:Int)).bind fun v=>cond (decide (k_<v)) (cond (inB i_ list.length) (cond (inB k_ ((list.getD i_.toNat zInode_).2.2.2.2.1.length)) ((some ((list.getD i_.toNat zInode_).2.2.2.2.1.getD k_.toNat zEntry_).2.1).bind fun v2=>cond (v2 == at_) (some (.inl (w64 (n_2+1),w64 (k_+1)))) (some (.inl (n_2,w64 (k_+1))))) none) none) (some (.inr n_2))) none
def Zq193 (list:List Inode_) (at_:Int) (i_:Int):(Int×Int)→Option Int:=
 loopL fun s=>Zq193.B list at_ i_ s.1 s.2
def Zq194.B (list:List Inode_) (at_:Int) (n_:Int) (i_:Int):Option ((Int×Int)⊕Int):=
 cond (decide (i_<(list.length:Int))) ((Zq193 list at_ i_ (n_,0)).bind fun o=>some (.inl (o,w64 (i_+1)))) (some (.inr n_))
def Zq194 (list:List Inode_) (at_:Int):(Int×Int)→Option Int:=
 loopL fun s=>Zq194.B list at_ s.1 s.2
def Zq195 (list:List Inode_) (at_:Int):Option Int:=
 (Zq194 list at_ (0,0)).bind fun o2=>some o2
namespace Zq193
def c:=codeAt (bodyOf Proofs.Tryz.f222) [1,1,0,1,0,0,1,0,0,1,0,0]
def sp:SP:=⟨[(0,.cs (.sl tInode_)),(1,.cs I64),(5,.cs I64),(6,.cs I64),(7,.cs I64)],[]⟩
def out (list:List Inode_) (at_:Int) (i_:Int):FOut Int:=fun b _ k=>k (.ex 2) ⟨[(0,.cs (.sl tInode_) list),(1,.cs I64 at_),(5,.cs I64 b),(6,.cs I64 i_)],[]⟩
def fr:=lfrag sp (fun x=>Zq193 x.1.1 x.1.2.1 x.1.2.2.2.1 (x.1.2.2.1,x.1.2.2.2.2.1)) fun x=>out x.1.1 x.1.2.1 x.1.2.2.2.1
theorem ok:CodeOk PR 38 2 (.loop c) fr:=
 lp_ok tbok hmix h0 .no (G:=(mkG [])) .nil (L:=mkL []) (l:=[]) hT [0,1,5,6,7] [] [(2,([0,1,5,6],[]))] ([],[]) (fun x s=>B x.1.1 x.1.2.1 x.1.2.2.2.1 s.1 s.2) (fun x s=>⟨[(0,.cs (.sl tInode_) x.1.1),(1,.cs I64 x.1.2.1),(5,.cs I64 s.1),(6,.cs I64 x.1.2.2.2.1),(7,.cs I64 s.2)],[]⟩) (fun x=>(x.1.2.2.1,x.1.2.2.2.2.1))
  (fun x s=>by simp only[B,mC,mB,mS,mO,mN];kernel_rfl)
end Zq193
namespace Zq194
def c:=codeAt (bodyOf Proofs.Tryz.f222) [1,1,0,1,0,0]
def sp:SP:=⟨[(0,.cs (.sl tInode_)),(1,.cs I64),(5,.cs I64),(6,.cs I64)],[]⟩
def out (list:List Inode_) (at_:Int):FOut Int:=fun b _ k=>k (.ex 0) ⟨[(5,.cs I64 b)],[]⟩
def fr:=lfrag sp (fun x=>Zq194 x.1.1 x.1.2.1 (x.1.2.2.1,x.1.2.2.2.1)) fun x=>out x.1.1 x.1.2.1
theorem ok:CodeOk PR 38 2 (.loop c) fr:=
 lp_ok tbok hmix h0 (.R (.L (.one (.R (.one (.fr 1)))))) (G:=(mkG [])) .nil (L:=mkL [(1,Zq193.fr)]) (l:=[(1,.loop Zq193.c)]) ⟨Lam.cons Zq193.ok,trivial⟩ [0,1,5,6] [] [(0,([5],[]))] ([],[]) (fun x s=>B x.1.1 x.1.2.1 s.1 s.2) (fun x s=>⟨[(0,.cs (.sl tInode_) x.1.1),(1,.cs I64 x.1.2.1),(5,.cs I64 s.1),(6,.cs I64 s.2)],[]⟩) (fun x=>(x.1.2.2.1,x.1.2.2.2.1))
  (fun x s=>by simp only[B,mC,mB,mS,mO,mN];kernel_rfl)
end Zq194
namespace Zq195
def pts:List PT:=[.cs (.sl tInode_),.cs I64]
def FS:FS:=mkFS [.sh,.sh] pts (fun x=>Zq195 x.1 x.2.1) fun t=>⟨[.cs I64 t],[]⟩
theorem ok:FsOk PR 222 FS:=
 fn_ok tbok hmix Proofs.Tryz.f222 h0 (.R (.R (.L (.R (.one (.fr 0)))))) (G:=(mkG [])) .nil (L:=mkL [(1,Zq193.fr),(0,Zq194.fr)]) (l:=[(0,.loop Zq194.c)]) ⟨Lam.skip rfl (Lam.cons Zq194.ok),trivial⟩
  (fun x=>by simp only[Zq195,mC,mB,mS,mO,mN];kernel_rfl)
end Zq195
def Zq196.B (list:List Int) (v:Int) (i_:Int):Option (Int⊕((Bool⊕Unit))):=
 cond (decide (i_<(list.length:Int))) (cond (inB i_ list.length) (cond ((list.getD i_.toNat 0) == v) (some (.inr (.inl true))) (some (.inl (w64 (i_+1))))) none) (some (.inr (.inr ())))
def Zq196 (list:List Int) (v:Int):Int→Option ((Bool⊕Unit)):=
 loopL fun s=>Zq196.B list v s
def Zq197 (list:List Int) (v:Int):Option Bool:=
 (Zq196 list v 0).bind fun o=>sel o (fun b=>some b) (fun c=>some false)
namespace Zq196
def c:=codeAt (bodyOf Proofs.Tryz.f223) [1,0,1,0,0]
def sp:SP:=⟨[(0,.cs SI),(1,.cs I64),(5,.cs I64)],[]⟩
def out (list:List Int) (v:Int):FOut ((Bool⊕Unit)):=fun o _ k=>sel o (fun b=>k (.rt) ⟨[(4,.cs .bool b)],[]⟩) (fun c=>k (.ex 0) ⟨[],[]⟩)
def fr:=lfrag sp (fun x=>Zq196 x.1.1 x.1.2.1 x.1.2.2.1) fun x=>out x.1.1 x.1.2.1
theorem ok:CodeOk PR 18 2 (.loop c) fr:=
 lp_ok tbok hmix h0 .no (G:=(mkG [])) .nil (L:=mkL []) (l:=[]) hT [0,1,5] [] [(0,([],[]))] ([4],[]) (fun x s=>B x.1.1 x.1.2.1 s) (fun x s=>⟨[(0,.cs SI x.1.1),(1,.cs I64 x.1.2.1),(5,.cs I64 s)],[]⟩) (fun x=>x.1.2.2.1)
  (fun x s=>by simp only[B,mC,mB,mS,mO,mN];kernel_rfl)
end Zq196
namespace Zq197
def pts:List PT:=[.cs SI,.cs I64]
def FS:FS:=mkFS [.sh,.sh] pts (fun x=>Zq197 x.1 x.2.1) fun t=>⟨[.cs .bool t],[]⟩
theorem ok:FsOk PR 223 FS:=
 fn_ok tbok hmix Proofs.Tryz.f223 h0 (.R (.L (.R (.one (.fr 0))))) (G:=(mkG [])) .nil (L:=mkL [(0,Zq196.fr)]) (l:=[(0,.loop Zq196.c)]) ⟨Lam.cons Zq196.ok,trivial⟩
  (fun x=>by simp only[Zq197,mC,mB,mS,mO,mN];kernel_rfl)
end Zq197
def Zq198.B (f:Fs_) (r:List Int) (i_:Int):Option (Int⊕((Bool⊕Unit))):=
 cond (decide (i_<(f.1.length:Int))) (cond (inB i_ f.1.length) ((Zq195 f.1 i_).bind fun r2=>cond ((f.1.getD i_.toNat zInode_).1 == 0) (some (.inl (w64 (i_+1)))) (cond ((f.1.getD i_.toNat zInode_).1 == 1) (cond (r2 != (f.1.getD i_.toNat zInode_).2.1) (some (.inr (.inl false))) ((Zq197 r i_).bind fun r3=>cond (!r3) (some (.inr (.inl false))) (some (.inl (w64 (i_+1)))))) (cond (i_ == 0) (cond (r2 != 0) (some (.inr (.inl false))) ((Zq197 r i_).bind fun r4=>cond (!r4) (some (.inr (.inl false))) (some (.inl (w64 (i_+1)))))) (cond (r2 != 1) (some (.inr (.inl false))) ((Zq197 r i_).bind fun r5=>cond (!r5) (some (.inr (.inl false))) (some (.inl (w64 (i_+1))))))))) none) (some (.inr (.inr ())))
def Zq198 (f:Fs_) (r:List Int):Int→Option ((Bool⊕Unit)):=
 loopL fun s=>Zq198.B f r s
def Zq199 (f:Fs_):Option Bool:=
 (Zq192 f).bind fun r=>(Zq198 f r 0).bind fun o=>sel o (fun b=>some b) (fun c=>some true)
namespace Zq199
def G:Gam:=mkG [(221,Zq192.FS),(222,Zq195.FS),(223,Zq197.FS)]
theorem Gok:GOk PR G:=.cons Zq192.ok (.cons Zq195.ok (.cons Zq197.ok .nil))
end Zq199
namespace Zq198
def c:=codeAt (bodyOf Proofs.Tryz.f144) [1,1,0,1,0,0]
def sp:SP:=⟨[(0,.pt tFs_),(3,.seg 3 []),(4,.cs I64)],[(3,.reg,.cd SI)]⟩
def out (f:Fs_) (r:List Int):FOut ((Bool⊕Unit)):=fun o _ k=>sel o (fun b=>k (.rt) ⟨[(2,.cs .bool b)],[]⟩) (fun c=>k (.ex 0) ⟨[],[]⟩)
def fr:=lfrag sp (fun x=>Zq198 x.1.1 x.2.1 x.1.2.2.1) fun x=>out x.1.1 x.2.1
theorem ok:CodeOk PR 59 1 (.loop c) fr:=
 lp_ok tbok hmix h0 .no (G:=Zq199.G) Zq199.Gok (L:=mkL []) (l:=[]) hT [0,3,4] [3] [(0,([],[]))] ([2],[]) (fun x s=>B x.1.1 x.2.1 s) (fun x s=>⟨[(0,.pt tFs_ x.1.1),(3,.seg 3 []),(4,.cs I64 s)],[sr 3 (.cd SI x.2.1)]⟩) (fun x=>x.1.2.2.1)
  (fun x s=>by simp only[B,mC,mB,mS,mO,mN];kernel_rfl)
end Zq198
namespace Zq199
def pts:List PT:=[.pt tFs_]
def FS:FS:=mkFS [.sh] pts (fun x=>Zq199 x.1) fun t=>⟨[.cs .bool t],[]⟩
theorem ok:FsOk PR 144 FS:=
 fn_ok tbok hmix Proofs.Tryz.f144 h0 (.R (.R (.L (.R (.one (.fr 0)))))) (G:=G) Gok (L:=mkL [(0,Zq198.fr)]) (l:=[(0,.loop Zq198.c)]) ⟨Lam.cons Zq198.ok,trivial⟩
  (fun x=>by simp only[Zq199,mC,mB,mS,mO,mN];kernel_rfl)
end Zq199
def Zq200.B (f:Fs_) (i_:Int) (x_:Inode_) (k_:Int) (want_2:List Int):Option ((Int×List Int)⊕(List Int)):=
 cond (decide (k_<(x_.2.2.2.1.length:Int))) (cond (inB k_ x_.2.2.2.1.length) ((Zq183 8 (w64 (x_.2.2.1-(w64 (k_*8))))).bind fun r=>cond (inB (x_.2.2.2.1.getD k_.toNat 0) want_2.length) ((some (want_2.set ((x_.2.2.2.1.getD k_.toNat 0).toNat) r)).bind fun want_3=>some (.inl (w64 (k_+1),want_3))) none) none) (some (.inr want_2))
def Zq200 (f:Fs_) (i_:Int) (x_:Inode_):(Int×List Int)→Option (List Int):=
 loopL fun s=>Zq200.B f i_ x_ s.1 s.2
def Zq201.B (f:Fs_) (i_:Int) (want_:List Int):Option ((Int×List Int)⊕(List Int)):=
 cond (decide (i_<(f.1.length:Int))) (cond (inB i_ f.1.length) ((Zq200 f i_ (f.1.getD i_.toNat zInode_) (0,want_)).bind fun o=>some (.inl (w64 (i_+1),o))) none) (some (.inr want_))
def Zq201 (f:Fs_):(Int×List Int)→Option (List Int):=
 loopL fun s=>Zq201.B f s.1 s.2
def Zq202.B (f:Fs_) (o2:List Int) (i_2:Int):Option (Int⊕((Bool⊕Unit))):=
 cond (decide (i_2<(f.2.1.length:Int))) (cond (inB i_2 f.2.1.length) (cond (inB i_2 o2.length) ((some (((f.2.1.getD i_2.toNat []).length:Int) != (o2.getD i_2.toNat 0))).bind fun v=>cond v (some (.inr (.inl false))) (some (.inl (w64 (i_2+1))))) none) none) (some (.inr (.inr ())))
def Zq202 (f:Fs_) (o2:List Int):Int→Option ((Bool⊕Unit)):=
 loopL fun s=>Zq202.B f o2 s
def Zq203 (f:Fs_):Option Bool:=
 cond (decide ((0:Int)≤(20:Int))&&(decide ((20:Int)≤(20:Int))&&decide ((20:Int)≤2147483648))) ((Zq201 f (0,List.replicate (20:Int).toNat 0)).bind fun o2=>(Zq202 f o2 0).bind fun o3=>sel o3 (fun b=>some b) (fun c=>some true)) none
namespace Zq203
def G:Gam:=mkG [(224,Zq183.FS)]
theorem Gok:GOk PR G:=.cons Zq183.ok .nil
end Zq203
namespace Zq200
def c:=codeAt (bodyOf Proofs.Tryz.f145) [1,1,0,1,0,0,1,0,0,1,1,0,0]
def sp:SP:=⟨[(0,.pt tFs_),(3,.seg 3 []),(4,.cs I64),(5,.pt tInode_),(6,.cs I64)],[(3,.reg,.cd SI)]⟩
def out (f:Fs_) (i_:Int) (x_:Inode_):FOut (List Int):=fun b _ k=>k (.ex 2) ⟨[(0,.pt tFs_ f),(3,.seg 3 []),(4,.cs I64 i_)],[sr 3 (.cd SI b)]⟩
def fr:=lfrag sp (fun x=>Zq200 x.1.1 x.1.2.2.1 x.1.2.2.2.1 (x.1.2.2.2.2.1,x.2.1)) fun x=>out x.1.1 x.1.2.2.1 x.1.2.2.2.1
theorem ok:CodeOk PR 72 1 (.loop c) fr:=
 lp_ok tbok hmix h0 .no (G:=Zq203.G) Zq203.Gok (L:=mkL []) (l:=[]) hT [0,3,4,5,6] [3] [(2,([0,3,4],[3]))] ([],[]) (fun x s=>B x.1.1 x.1.2.2.1 x.1.2.2.2.1 s.1 s.2) (fun x s=>⟨[(0,.pt tFs_ x.1.1),(3,.seg 3 []),(4,.cs I64 x.1.2.2.1),(5,.pt tInode_ x.1.2.2.2.1),(6,.cs I64 s.1)],[sr 3 (.cd SI s.2)]⟩) (fun x=>(x.1.2.2.2.2.1,x.2.1))
  (fun x s=>by simp only[B,mC,mB,mS,mO,mN];kernel_rfl)
end Zq200
namespace Zq201
def c:=codeAt (bodyOf Proofs.Tryz.f145) [1,1,0,1,0,0]
def sp:SP:=⟨[(0,.pt tFs_),(3,.seg 3 []),(4,.cs I64)],[(3,.reg,.cd SI)]⟩
def out (f:Fs_):FOut (List Int):=fun b _ k=>k (.ex 0) ⟨[(0,.pt tFs_ f),(3,.seg 3 [])],[sr 3 (.cd SI b)]⟩
def fr:=lfrag sp (fun x=>Zq201 x.1.1 (x.1.2.2.1,x.2.1)) fun x=>out x.1.1
theorem ok:CodeOk PR 72 1 (.loop c) fr:=
 lp_ok tbok hmix h0 (.R (.L (.one (.R (.R (.one (.fr 1))))))) (G:=Zq203.G) Zq203.Gok (L:=mkL [(1,Zq200.fr)]) (l:=[(1,.loop Zq200.c)]) ⟨Lam.cons Zq200.ok,trivial⟩ [0,3,4] [3] [(0,([0,3],[3]))] ([],[]) (fun x s=>B x.1.1 s.1 s.2) (fun x s=>⟨[(0,.pt tFs_ x.1.1),(3,.seg 3 []),(4,.cs I64 s.1)],[sr 3 (.cd SI s.2)]⟩) (fun x=>(x.1.2.2.1,x.2.1))
  (fun x s=>by simp only[B,mC,mB,mS,mO,mN];kernel_rfl)
end Zq201
namespace Zq202
def c:=codeAt (bodyOf Proofs.Tryz.f145) [1,1,1,0,1,0,0]
def sp:SP:=⟨[(0,.pt tFs_),(3,.seg 3 []),(7,.cs I64)],[(3,.reg,.cd SI)]⟩
def out (f:Fs_) (o2:List Int):FOut ((Bool⊕Unit)):=fun o _ k=>sel o (fun b=>k (.rt) ⟨[(2,.cs .bool b)],[]⟩) (fun c=>k (.ex 4) ⟨[],[]⟩)
def fr:=lfrag sp (fun x=>Zq202 x.1.1 x.2.1 x.1.2.2.1) fun x=>out x.1.1 x.2.1
theorem ok:CodeOk PR 72 1 (.loop c) fr:=
 lp_ok tbok hmix h0 .no (G:=Zq203.G) Zq203.Gok (L:=mkL []) (l:=[]) hT [0,3,7] [3] [(4,([],[]))] ([2],[]) (fun x s=>B x.1.1 x.2.1 s) (fun x s=>⟨[(0,.pt tFs_ x.1.1),(3,.seg 3 []),(7,.cs I64 s)],[sr 3 (.cd SI x.2.1)]⟩) (fun x=>x.1.2.2.1)
  (fun x s=>by simp only[B,mC,mB,mS,mO,mN];kernel_rfl)
end Zq202
namespace Zq203
def pts:List PT:=[.pt tFs_]
def FS:FS:=mkFS [.sh] pts (fun x=>Zq203 x.1) fun t=>⟨[.cs .bool t],[]⟩
theorem ok:FsOk PR 145 FS:=
 fn_ok tbok hmix Proofs.Tryz.f145 h0 (.R (.R (.two (.R (.one (.fr 0))) (.L (.R (.one (.fr 2))))))) (G:=G) Gok (L:=mkL [(1,Zq200.fr),(0,Zq201.fr),(2,Zq202.fr)]) (l:=[(0,.loop Zq201.c),(2,.loop Zq202.c)]) ⟨Lam.skip rfl (Lam.cons Zq201.ok),Lam.skip rfl (Lam.skip rfl (Lam.cons Zq202.ok)),trivial⟩
  (fun x=>by simp only[Zq203,mC,mB,mS,mO,mN];kernel_rfl)
end Zq203
def Zq204 (f:Fs_):Option Int:=
 (Zq182 f).bind fun r=>cond (r != 0) (some r) ((Zq199 f).bind fun r2=>cond (!r2) (some 1) ((Zq203 f).bind fun r3=>cond (!r3) (some 1) (some 0)))
namespace Zq204
def G:Gam:=mkG [(143,Zq182.FS),(144,Zq199.FS),(145,Zq203.FS)]
def pts:List PT:=[.pt tFs_]
def FS:FS:=mkFS [.sh] pts (fun x=>Zq204 x.1) fun t=>⟨[.cs I64 t],[]⟩
theorem ok:FsOk PR 63 FS:=
 fn_ok tbok hmix Proofs.Tryz.f63 h0 .no (G:=G) (show GOk PR G from .cons Zq182.ok (.cons Zq199.ok (.cons Zq203.ok .nil))) (L:=mkL []) (l:=[]) hT
  (fun x=>by simp only[Zq204,mC,mB,mS,mO,mN];kernel_rfl)
end Zq204
def Zq205.B (d:Disk_) (v:FsResult_) (size_:Int) (i_:Int) (f_:Fs_):Option ((Int×Int×Fs_)⊕((FsResult_⊕(Int×Fs_)))):=
 cond (decide (i_<10)) ((Zq129 d (w64 ((17:Int)+i_))).bind fun r2=>(Zq171 r2).bind fun r3=>cond (!r3.2) (some (.inr (.inl (5,([],[],()),())))) ((some (f_.1++([(r3.1.1,r3.1.2.1,r3.1.2.2.1,r3.1.2.2.2.1,r3.1.2.2.2.2.1,r3.1.2.2.2.2.2)]))).bind fun v2=>cond (decide (v2.length≤2147483648)) (cond (decide ((r2.length:Int)>0)) (some (.inl (w64 (i_+1),w64 (i_+1),(v2,f_.2)))) (some (.inl (size_,w64 (i_+1),(v2,f_.2))))) none)) (some (.inr (.inr (size_,f_))))
def Zq205 (d:Disk_) (v:FsResult_):(Int×Int×Fs_)→Option ((FsResult_⊕(Int×Fs_))):=
 loopL fun s=>Zq205.B d v s.1 s.2.1 s.2.2
def Zq206 (d:Disk_):Option FsResult_:=
 (Zq131 d).bind fun r=>cond (r.1 != 0) (some (r.1,([],[],()),())) (cond (decide ((0:Int)≤(20:Int))&&(decide ((20:Int)≤(20:Int))&&decide ((20:Int)≤2147483648))) ((Zq205 d (0,([],[],()),()) (0,0,([],List.replicate (20:Int).toNat ([]:List Int),()))).bind fun o=>sel o (fun b=>some (b.1,(b.2.1.1,b.2.1.2.1,b.2.1.2.2),b.2.2)) (fun c=>cond (decide ((0:Int)≤c.1)&&decide (c.1≤(c.2.1.length:Int))) ((Zq182 ((c.2.1.drop 0).take (c.1.toNat-0),c.2.2)).bind fun r4=>cond (r4 != 0) (some (r4,([],[],()),())) ((Zq187 d ((c.2.1.drop 0).take (c.1.toNat-0),c.2.2)).bind fun r5=>cond (!r5.1) (some (5,([],[],()),())) ((Zq204 r5.2).bind fun r6=>cond (r6 != 0) (some (r6,([],[],()),())) (some (0,(r5.2.1,r5.2.2.1,r5.2.2.2),()))))) none)) none)
namespace Zq206
def G:Gam:=mkG [(62,Zq131.FS),(141,Zq129.FS),(203,Zq171.FS),(143,Zq182.FS),(204,Zq187.FS),(63,Zq204.FS)]
theorem Gok:GOk PR G:=.cons Zq131.ok (.cons Zq129.ok (.cons Zq171.ok (.cons Zq182.ok (.cons Zq187.ok (.cons Zq204.ok .nil)))))
end Zq206
namespace Zq205
def c:=codeAt (bodyOf Proofs.Tryz.f122) [1,1,1,1,0,1,0,0]
def sp:SP:=⟨[(1,.pt tDisk_),(2,.loc 2 []),(4,.loc 4 []),(5,.cs I64),(6,.cs I64)],[(2,.mem,.cd tFsResult_),(4,.mem,.cd tFs_)]⟩
def out (d:Disk_) (v:FsResult_):FOut ((FsResult_⊕(Int×Fs_))):=fun o _ k=>sel o (fun b=>k (.rt) ⟨[(2,.loc 2 [])],[(2,some ⟨.mem,.cd tFsResult_ b⟩)]⟩) (fun c=>k (.ex 0) ⟨[(1,.pt tDisk_ d),(2,.loc 2 []),(4,.loc 4 []),(5,.cs I64 c.1)],[(2,some ⟨.mem,.cd tFsResult_ v⟩),(4,some ⟨.mem,.cd tFs_ c.2⟩)]⟩)
def fr:=lfrag sp (fun x=>Zq205 x.1.1 x.2.1 (x.1.2.2.2.1,x.1.2.2.2.2.1,x.2.2.1)) fun x=>out x.1.1 x.2.1
theorem ok:CodeOk PR 68 1 (.loop c) fr:=
 lp_ok tbok hmix ⟨[1],[],[],0⟩ .no (G:=Zq206.G) Zq206.Gok (L:=mkL []) (l:=[]) hT [1,2,4,5,6] [2,4] [(0,([1,2,4,5],[2,4]))] ([2],[2]) (fun x s=>B x.1.1 x.2.1 s.1 s.2.1 s.2.2) (fun x s=>⟨[(1,.pt tDisk_ x.1.1),(2,.loc 2 []),(4,.loc 4 []),(5,.cs I64 s.1),(6,.cs I64 s.2.1)],[(2,some ⟨.mem,.cd tFsResult_ x.2.1⟩),(4,some ⟨.mem,.cd tFs_ s.2.2⟩)]⟩) (fun x=>(x.1.2.2.2.1,x.1.2.2.2.2.1,x.2.2.1))
  (fun x s=>by simp only[B,mC,mB,mS,mO,mN];kernel_rfl)
end Zq205
namespace Zq206
def pts:List PT:=[.cs tDisk_]
def FS:FS:=mkFS [.sh] pts (fun x=>Zq206 x.1) fun t=>⟨[.cd tFsResult_ t],[]⟩
theorem ok:FsOk PR 122 FS:=
 fn_ok tbok hmix Proofs.Tryz.f122 ⟨[1],[],[],0⟩ (.R (.R (.R (.R (.L (.R (.one (.fr 0)))))))) (G:=G) Gok (L:=mkL [(0,Zq205.fr)]) (l:=[(0,.loop Zq205.c)]) ⟨Lam.cons Zq205.ok,trivial⟩
  (fun x=>by simp only[Zq206,mC,mB,mS,mO,mN];kernel_rfl)
end Zq206
def Zq207 (x:Inode_):Option Inode_:=
 (Zq134 x.2.2.2.1).bind fun r=>cond (decide (([]++x.2.2.2.2.1).length≤2147483648)) (some (x.1,x.2.1,x.2.2.1,r,[]++x.2.2.2.2.1,x.2.2.2.2.2)) none
namespace Zq207
def G:Gam:=mkG [(149,Zq134.FS)]
def pts:List PT:=[.cs tInode_]
def FS:FS:=mkFS [.sh] pts (fun x=>Zq207 x.1) fun t=>⟨[.cd tInode_ t],[]⟩
theorem ok:FsOk PR 205 FS:=
 fn_ok tbok hmix Proofs.Tryz.f205 h0 .no (G:=G) (show GOk PR G from .cons Zq134.ok .nil) (L:=mkL []) (l:=[]) hT
  (fun x=>by simp only[Zq207,mC,mB,mS,mO,mN];kernel_rfl)
end Zq207
def Zq208.B (f:Fs_) (v:Fs_) (i_:Int) (out_:Fs_):Option ((Int×Fs_)⊕Fs_):=
 cond (decide (i_<(f.1.length:Int))) (cond (inB i_ f.1.length) ((Zq207 (f.1.getD i_.toNat zInode_)).bind fun r=>(some (out_.1++([(r.1,r.2.1,r.2.2.1,r.2.2.2.1,r.2.2.2.2.1,r.2.2.2.2.2)]))).bind fun v2=>cond (decide (v2.length≤2147483648)) (some (.inl (w64 (i_+1),(v2,out_.2)))) none) none) (some (.inr out_))
def Zq208 (f:Fs_) (v:Fs_):(Int×Fs_)→Option Fs_:=
 loopL fun s=>Zq208.B f v s.1 s.2
def Zq209.B (f:Fs_) (v3:Fs_) (i_2:Int) (out_2:Fs_):Option ((Int×Fs_)⊕Fs_):=
 cond (decide (i_2<(f.2.1.length:Int))) (cond (inB i_2 f.2.1.length) (cond (decide (([]++(f.2.1.getD i_2.toNat [])).length≤2147483648)) (cond (decide ((out_2.2.1++([[]++(f.2.1.getD i_2.toNat [])])).length≤2147483648)) (some (.inl (w64 (i_2+1),(out_2.1,out_2.2.1++([[]++(f.2.1.getD i_2.toNat [])]),out_2.2.2)))) none) none) none) (some (.inr out_2))
def Zq209 (f:Fs_) (v3:Fs_):(Int×Fs_)→Option Fs_:=
 loopL fun s=>Zq209.B f v3 s.1 s.2
def Zq210 (f:Fs_):Option Fs_:=
 (Zq208 f ([],[],()) (0,([],[],()))).bind fun o=>(Zq209 f ([],[],()) (0,o)).bind fun o2=>some (o2.1,o2.2.1,o2.2.2)
namespace Zq210
def G:Gam:=mkG [(205,Zq207.FS)]
theorem Gok:GOk PR G:=.cons Zq207.ok .nil
end Zq210
namespace Zq208
def c:=codeAt (bodyOf Proofs.Tryz.f123) [1,1,0,1,0,0]
def sp:SP:=⟨[(1,.pt tFs_),(2,.loc 2 []),(3,.loc 3 []),(4,.cs I64)],[(2,.mem,.cd tFs_),(3,.mem,.cd tFs_)]⟩
def out (f:Fs_) (v:Fs_):FOut Fs_:=fun b _ k=>k (.ex 0) ⟨[(1,.pt tFs_ f),(2,.loc 2 []),(3,.loc 3 [])],[(2,some ⟨.mem,.cd tFs_ v⟩),(3,some ⟨.mem,.cd tFs_ b⟩)]⟩
def fr:=lfrag sp (fun x=>Zq208 x.1.1 x.2.1 (x.1.2.2.2.1,x.2.2.1)) fun x=>out x.1.1 x.2.1
theorem ok:CodeOk PR 45 1 (.loop c) fr:=
 lp_ok tbok hmix ⟨[1],[],[],0⟩ .no (G:=Zq210.G) Zq210.Gok (L:=mkL []) (l:=[]) hT [1,2,3,4] [2,3] [(0,([1,2,3],[2,3]))] ([],[]) (fun x s=>B x.1.1 x.2.1 s.1 s.2) (fun x s=>⟨[(1,.pt tFs_ x.1.1),(2,.loc 2 []),(3,.loc 3 []),(4,.cs I64 s.1)],[(2,some ⟨.mem,.cd tFs_ x.2.1⟩),(3,some ⟨.mem,.cd tFs_ s.2⟩)]⟩) (fun x=>(x.1.2.2.2.1,x.2.2.1))
  (fun x s=>by simp only[B,mC,mB,mS,mO,mN];kernel_rfl)
end Zq208
namespace Zq209
def c:=codeAt (bodyOf Proofs.Tryz.f123) [1,1,1,0,1,0,0]
def sp:SP:=⟨[(1,.pt tFs_),(2,.loc 2 []),(3,.loc 3 []),(5,.cs I64)],[(2,.mem,.cd tFs_),(3,.mem,.cd tFs_)]⟩
def out (f:Fs_) (v3:Fs_):FOut Fs_:=fun b _ k=>k (.ex 2) ⟨[(2,.loc 2 []),(3,.loc 3 [])],[(2,some ⟨.mem,.cd tFs_ v3⟩),(3,some ⟨.mem,.cd tFs_ b⟩)]⟩
def fr:=lfrag sp (fun x=>Zq209 x.1.1 x.2.1 (x.1.2.2.2.1,x.2.2.1)) fun x=>out x.1.1 x.2.1
theorem ok:CodeOk PR 45 1 (.loop c) fr:=
 lp_ok tbok hmix ⟨[1],[],[],0⟩ .no (G:=Zq210.G) Zq210.Gok (L:=mkL []) (l:=[]) hT [1,2,3,5] [2,3] [(2,([2,3],[2,3]))] ([],[]) (fun x s=>B x.1.1 x.2.1 s.1 s.2) (fun x s=>⟨[(1,.pt tFs_ x.1.1),(2,.loc 2 []),(3,.loc 3 []),(5,.cs I64 s.1)],[(2,some ⟨.mem,.cd tFs_ x.2.1⟩),(3,some ⟨.mem,.cd tFs_ s.2⟩)]⟩) (fun x=>(x.1.2.2.2.1,x.2.2.1))
  (fun x s=>by simp only[B,mC,mB,mS,mO,mN];kernel_rfl)
end Zq209
namespace Zq210
def pts:List PT:=[.cs tFs_]
def FS:FS:=mkFS [.sh] pts (fun x=>Zq210 x.1) fun t=>⟨[.cd tFs_ t],[]⟩
theorem ok:FsOk PR 123 FS:=
 fn_ok tbok hmix Proofs.Tryz.f123 ⟨[1],[],[],0⟩ (.R (.R (.two (.R (.one (.fr 0))) (.L (.R (.one (.fr 1))))))) (G:=G) Gok (L:=mkL [(0,Zq208.fr),(1,Zq209.fr)]) (l:=[(0,.loop Zq208.c),(1,.loop Zq209.c)]) ⟨Lam.cons Zq208.ok,Lam.skip rfl (Lam.cons Zq209.ok),trivial⟩
  (fun x=>by simp only[Zq210,mC,mB,mS,mO,mN];kernel_rfl)
end Zq210
def Zq108 (d:Disk_):Option WorldResult_:=
 (Zq140 d).bind fun r=>cond (r.1 != 0) (some (r.1,(0,0,0,[],[],([],[],()),()),(([],[],()),([],[],()),([],[],()),()),())) ((Zq145 d [] true).bind fun r2=>(Zq153 (r2.1,r2.2.1,r2.2.2) r.2.1).bind fun r3=>cond (r3.1 != 0) (some (r3.1,(0,0,0,[],[],([],[],()),()),(([],[],()),([],[],()),([],[],()),()),())) ((Zq206 (r3.2.1.1,r3.2.1.2.1,r3.2.1.2.2)).bind fun r4=>cond (r4.1 != 0) (some (r4.1,(0,0,0,[],[],([],[],()),()),(([],[],()),([],[],()),([],[],()),()),())) ((Zq210 (r4.2.1.1,r4.2.1.2.1,r4.2.1.2.2)).bind fun r5=>some (0,(0,0,0,[],[],([],[],()),()),((r3.2.1.1,r3.2.1.2.1,r3.2.1.2.2),(r4.2.1.1,r4.2.1.2.1,r4.2.1.2.2),(r5.1,r5.2.1,r5.2.2),()),()))))
namespace Zq108
def G:Gam:=mkG [(119,Zq140.FS),(121,Zq145.FS),(120,Zq153.FS),(122,Zq206.FS),(123,Zq210.FS)]
def pts:List PT:=[.cs tDisk_]
def FS:FS:=mkFS [.sh] pts (fun x=>Zq108 x.1) fun t=>⟨[.cd tWorldResult_ t],[]⟩
theorem ok:FsOk PR 51 FS:=
 fn_ok tbok hmix Proofs.Tryz.f51 ⟨[1],[],[],0⟩ .no (G:=G) (show GOk PR G from .cons Zq140.ok (.cons Zq145.ok (.cons Zq153.ok (.cons Zq206.ok (.cons Zq210.ok .nil))))) (L:=mkL []) (l:=[]) hT
  (fun x=>by simp only[Zq108,mC,mB,mS,mO,mN];kernel_rfl)
end Zq108
def Zq211 (n:Int) (low:Int) (high:Int):Option Bool:=
 (some (cond (decide (n≥low)) (decide (n≤high)) false)).bind fun v=>some v
namespace Zq211
def pts:List PT:=[.cs I64,.cs I64,.cs I64]
def FS:FS:=mkFS [.sh,.sh,.sh] pts (fun x=>Zq211 x.1 x.2.1 x.2.2.1) fun t=>⟨[.cs .bool t],[]⟩
theorem ok:FsOk PR 109 FS:=
 fn_ok tbok hmix Proofs.Tryz.f109 h0 .no (G:=(mkG [])) .nil (L:=mkL []) (l:=[]) hT
  (fun x=>by simp only[Zq211,mC,mB,mS,mO,mN];kernel_rfl)
end Zq211
def Zq212 (w:Int):Option Bool:=
 (Zq211 w 0 65535).bind fun r=>some (!r)
namespace Zq212
def G:Gam:=mkG [(109,Zq211.FS)]
def pts:List PT:=[.cs I64]
def FS:FS:=mkFS [.sh] pts (fun x=>Zq212 x.1) fun t=>⟨[.cs .bool t],[]⟩
theorem ok:FsOk PR 196 FS:=
 fn_ok tbok hmix Proofs.Tryz.f196 h0 .no (G:=G) (show GOk PR G from .cons Zq211.ok .nil) (L:=mkL []) (l:=[]) hT
  (fun x=>by simp only[Zq212,mC,mB,mS,mO,mN];kernel_rfl)
end Zq212
def Zq213.B (s_:List Int) (f:Unit) (v:Int) (v2:Int):Option (Int⊕((Int⊕Unit))):=
 cond (decide (v2<v)) (cond (inB v2 s_.length) ((Zq212 (s_.getD v2.toNat 0)).bind fun r=>cond r (some (.inr (.inl v2))) (some (.inl (w64 (v2+1))))) none) (some (.inr (.inr ())))
def Zq213 (s_:List Int) (f:Unit) (v:Int):Int→Option ((Int⊕Unit)):=
 loopL fun s=>Zq213.B s_ f v s
def Zq214 (s_:List Int) (f:Unit):Option Int:=
 (Zq213 s_ f (s_.length:Int) 0).bind fun o=>sel o (fun b=>some b) (fun c=>some (-1))
namespace Zq214
def G:Gam:=mkG [(196,Zq212.FS)]
theorem Gok:GOk PR G:=.cons Zq212.ok .nil
end Zq214
namespace Zq213
def c:=codeAt (bodyOf Proofs.Tryz.f246) [1,0,1,0,0]
def sp:SP:=⟨[(0,.cs SI),(1,.clo 196 (.cs .unit)),(7,.cs I64),(8,.cs I64)],[]⟩
def out (s_:List Int) (f:Unit) (v:Int):FOut ((Int⊕Unit)):=fun o _ k=>sel o (fun b=>k (.rt) ⟨[(4,.cs I64 b)],[]⟩) (fun c=>k (.ex 0) ⟨[],[]⟩)
def fr:=lfrag sp (fun x=>Zq213 x.1.1 x.1.2.1 x.1.2.2.1 x.1.2.2.2.1) fun x=>out x.1.1 x.1.2.1 x.1.2.2.1
theorem ok:CodeOk PR 19 2 (.loop c) fr:=
 lp_ok tbok hmix h0 .no (G:=Zq214.G) Zq214.Gok (L:=mkL []) (l:=[]) hT [0,1,7,8] [] [(0,([],[]))] ([4],[]) (fun x s=>B x.1.1 x.1.2.1 x.1.2.2.1 s) (fun x s=>⟨[(0,.cs SI x.1.1),(1,.clo 196 (.cs .unit x.1.2.1)),(7,.cs I64 x.1.2.2.1),(8,.cs I64 s)],[]⟩) (fun x=>x.1.2.2.2.1)
  (fun x s=>by simp only[B,mC,mB,mS,mO,mN];kernel_rfl)
end Zq213
namespace Zq214
def pts:List PT:=[.cs SI,.clo 196 (.cs .unit)]
def FS:FS:=mkFS [.sh,.sh] pts (fun x=>Zq214 x.1 x.2.1) fun t=>⟨[.cs I64 t],[]⟩
theorem ok:FsOk PR 246 FS:=
 fn_ok tbok hmix Proofs.Tryz.f246 h0 (.R (.L (.R (.one (.fr 0))))) (G:=G) Gok (L:=mkL [(0,Zq213.fr)]) (l:=[(0,.loop Zq213.c)]) ⟨Lam.cons Zq213.ok,trivial⟩
  (fun x=>by simp only[Zq214,mC,mB,mS,mO,mN];kernel_rfl)
end Zq214
def Zq215 (s_:List Int) (f:Unit):Option Bool:=
 (Zq214 s_ f).bind fun r=>some (decide (r≥0))
namespace Zq215
def G:Gam:=mkG [(246,Zq214.FS)]
def pts:List PT:=[.cs SI,.clo 196 (.cs .unit)]
def FS:FS:=mkFS [.sh,.sh] pts (fun x=>Zq215 x.1 x.2.1) fun t=>⟨[.cs .bool t],[]⟩
theorem ok:FsOk PR 195 FS:=
 fn_ok tbok hmix Proofs.Tryz.f195 h0 .no (G:=G) (show GOk PR G from .cons Zq214.ok .nil) (L:=mkL []) (l:=[]) hT
  (fun x=>by simp only[Zq215,mC,mB,mS,mO,mN];kernel_rfl)
end Zq215
def Zq216 (words:List Int):Option Int:=
 cond (decide ((words.length:Int)>64)) (some 2) ((Zq215 words ()).bind fun r=>cond r (some 3) (some 0))
namespace Zq216
def G:Gam:=mkG [(195,Zq215.FS)]
def pts:List PT:=[.cs SI]
def FS:FS:=mkFS [.sh] pts (fun x=>Zq216 x.1) fun t=>⟨[.cs I64 t],[]⟩
theorem ok:FsOk PR 114 FS:=
 fn_ok tbok hmix Proofs.Tryz.f114 h0 .no (G:=G) (show GOk PR G from .cons Zq215.ok .nil) (L:=mkL []) (l:=[]) hT
  (fun x=>by simp only[Zq216,mC,mB,mS,mO,mN];kernel_rfl)
end Zq216
def Zq217 (l:List (List Int)):Option Int:=
 some (l.length:Int)
namespace Zq217
def pts:List PT:=[.cs (.sl SI)]
def FS:FS:=mkFS [.sh] pts (fun x=>Zq217 x.1) fun t=>⟨[.cs I64 t],[]⟩
theorem ok:FsOk PR 110 FS:=
 fn_ok tbok hmix Proofs.Tryz.f110 h0 .no (G:=(mkG [])) .nil (L:=mkL []) (l:=[]) hT
  (fun x=>by simp only[Zq217,mC,mB,mS,mO,mN];kernel_rfl)
end Zq217
def Zq218.B (d:Disk_) (v2:List (List Int)) (v3:Int) (v4:Int):Option (Int⊕((Int⊕Unit))):=
 cond (decide (v4<v3)) (cond (inB v4 v2.length) ((Zq216 (v2.getD v4.toNat [])).bind fun r=>cond (r != 0) (some (.inr (.inl r))) (some (.inl (w64 (v4+1))))) none) (some (.inr (.inr ())))
def Zq218 (d:Disk_) (v2:List (List Int)) (v3:Int):Int→Option ((Int⊕Unit)):=
 loopL fun s=>Zq218.B d v2 v3 s
def Zq219.B (d:Disk_) (v5:List Put_) (v6:Int) (v7:Int):Option (Int⊕((Int⊕Unit))):=
 cond (decide (v7<v6)) (cond (inB v7 v5.length) ((Zq217 d.1).bind fun r2=>(Zq211 (v5.getD v7.toNat zPut_).1 0 (w64 (r2-1))).bind fun r3=>cond (!r3) (some (.inr (.inl 3))) ((Zq216 (v5.getD v7.toNat zPut_).2.1).bind fun r4=>cond (r4 != 0) (some (.inr (.inl r4))) (some (.inl (w64 (v7+1)))))) none) (some (.inr (.inr ())))
def Zq219 (d:Disk_) (v5:List Put_) (v6:Int):Int→Option ((Int⊕Unit)):=
 loopL fun s=>Zq219.B d v5 v6 s
def Zq220 (d:Disk_):Option Int:=
 (some (cond (decide ((d.1.length:Int)>60)) true (decide ((d.2.1.length:Int)>200)))).bind fun v=>cond v (some 2) ((Zq218 d d.1 (d.1.length:Int) 0).bind fun o=>sel o (fun b=>some b) (fun c=>(Zq219 d d.2.1 (d.2.1.length:Int) 0).bind fun o2=>sel o2 (fun b2=>some b2) (fun c2=>some 0)))
namespace Zq220
def G:Gam:=mkG [(114,Zq216.FS),(110,Zq217.FS),(109,Zq211.FS)]
theorem Gok:GOk PR G:=.cons Zq216.ok (.cons Zq217.ok (.cons Zq211.ok .nil))
end Zq220
namespace Zq218
def c:=codeAt (bodyOf Proofs.Tryz.f106) [1,1,0,1,0,0]
def sp:SP:=⟨[(1,.pt tDisk_),(20,.cs (.sl SI)),(21,.cs I64),(22,.cs I64)],[]⟩
def out (d:Disk_) (v2:List (List Int)) (v3:Int):FOut ((Int⊕Unit)):=fun o _ k=>sel o (fun b=>k (.rt) ⟨[(2,.cs I64 b)],[]⟩) (fun c=>k (.ex 0) ⟨[(1,.pt tDisk_ d)],[]⟩)
def fr:=lfrag sp (fun x=>Zq218 x.1.1 x.1.2.1 x.1.2.2.1 x.1.2.2.2.1) fun x=>out x.1.1 x.1.2.1 x.1.2.2.1
theorem ok:CodeOk PR 54 1 (.loop c) fr:=
 lp_ok tbok hmix ⟨[1],[],[],0⟩ .no (G:=Zq220.G) Zq220.Gok (L:=mkL []) (l:=[]) hT [1,20,21,22] [] [(0,([1],[]))] ([2],[]) (fun x s=>B x.1.1 x.1.2.1 x.1.2.2.1 s) (fun x s=>⟨[(1,.pt tDisk_ x.1.1),(20,.cs (.sl SI) x.1.2.1),(21,.cs I64 x.1.2.2.1),(22,.cs I64 s)],[]⟩) (fun x=>x.1.2.2.2.1)
  (fun x s=>by simp only[B,mC,mB,mS,mO,mN];kernel_rfl)
end Zq218
namespace Zq219
def c:=codeAt (bodyOf Proofs.Tryz.f106) [1,1,1,0,1,0,0]
def sp:SP:=⟨[(1,.pt tDisk_),(33,.cs (.sl tPut_)),(34,.cs I64),(35,.cs I64)],[]⟩
def out (d:Disk_) (v5:List Put_) (v6:Int):FOut ((Int⊕Unit)):=fun o _ k=>sel o (fun b=>k (.rt) ⟨[(2,.cs I64 b)],[]⟩) (fun c=>k (.ex 2) ⟨[],[]⟩)
def fr:=lfrag sp (fun x=>Zq219 x.1.1 x.1.2.1 x.1.2.2.1 x.1.2.2.2.1) fun x=>out x.1.1 x.1.2.1 x.1.2.2.1
theorem ok:CodeOk PR 54 1 (.loop c) fr:=
 lp_ok tbok hmix ⟨[1],[],[],0⟩ .no (G:=Zq220.G) Zq220.Gok (L:=mkL []) (l:=[]) hT [1,33,34,35] [] [(2,([],[]))] ([2],[]) (fun x s=>B x.1.1 x.1.2.1 x.1.2.2.1 s) (fun x s=>⟨[(1,.pt tDisk_ x.1.1),(33,.cs (.sl tPut_) x.1.2.1),(34,.cs I64 x.1.2.2.1),(35,.cs I64 s)],[]⟩) (fun x=>x.1.2.2.2.1)
  (fun x s=>by simp only[B,mC,mB,mS,mO,mN];kernel_rfl)
end Zq219
namespace Zq220
def pts:List PT:=[.cs tDisk_]
def FS:FS:=mkFS [.sh] pts (fun x=>Zq220 x.1) fun t=>⟨[.cs I64 t],[]⟩
theorem ok:FsOk PR 106 FS:=
 fn_ok tbok hmix Proofs.Tryz.f106 ⟨[1],[],[],0⟩ (.R (.R (.two (.R (.one (.fr 0))) (.L (.R (.one (.fr 1))))))) (G:=G) Gok (L:=mkL [(0,Zq218.fr),(1,Zq219.fr)]) (l:=[(0,.loop Zq218.c),(1,.loop Zq219.c)]) ⟨Lam.cons Zq218.ok,Lam.skip rfl (Lam.cons Zq219.ok),trivial⟩
  (fun x=>by simp only[Zq220,mC,mB,mS,mO,mN];kernel_rfl)
end Zq220
noncomputable def Zq17 (d:Disk_) (at_:Int):Option (List Int):=blockP d at_
def Zq17.FS:FS:=mkFS [.sh,.sh] [.pt tDiskB,.cl .sh (.int .i64)] (fun x=>blockP x.1 x.2.1) fun y=>⟨[.cl .sh (.sl (.int .i64)) y],[]⟩
theorem Zq17.ok:FsOk Go.Proofs.Tryz.prog 155 Zq17.FS:=
 block_fs ⟨Go.Proofs.Tryz.f155,by kernel_rfl,by kernel_rfl,by kernel_rfl⟩ (fun bd od at_ A C nB cB nC cC hd w v h1 h2 h3 h4 h5 h6=>callsIn_wide.1 (Go.Proofs.Bk.block_in Fence.wide 3 trivial trivial trivial rfl (by omega) bd od at_ A C nB cB nC cC hd w v h1 h2 h3 h4 h5 h6))
def Zq221 (seq:Int):Option Bool:=
 (Zq211 seq 1 60000).bind fun r=>some r
namespace Zq221
def G:Gam:=mkG [(109,Zq211.FS)]
def pts:List PT:=[.cs I64]
def FS:FS:=mkFS [.sh] pts (fun x=>Zq221 x.1) fun t=>⟨[.cs .bool t],[]⟩
theorem ok:FsOk PR 103 FS:=
 fn_ok tbok hmix Proofs.Tryz.f103 h0 .no (G:=G) (show GOk PR G from .cons Zq211.ok .nil) (L:=mkL []) (l:=[]) hT
  (fun x=>by simp only[Zq221,mC,mB,mS,mO,mN];kernel_rfl)
end Zq221
def Zq32 (d:Disk_):Option (Int×Int):=
 (Zq220 d).bind fun r=>cond (r != 0) (some (0,r)) (cond ((d.1.length:Int) != 47) (some (0,1)) ((Zq17 d 0).bind fun r2=>cond (cond (!((r2.length:Int) != 2)) (inB 0 r2.length) true) ((some (cond ((r2.length:Int) != 2) true ((r2.getD (0:Int).toNat 0) != 7))).bind fun v=>cond v (some (0,5)) (cond (inB 1 r2.length) ((Zq221 (r2.getD (1:Int).toNat 0)).bind fun r3=>cond (!r3) (some (0,5)) (cond (inB 1 r2.length) (some (r2.getD (1:Int).toNat 0,0)) none)) none)) none))
namespace Zq32
def G:Gam:=mkG [(106,Zq220.FS),(155,Zq17.FS),(103,Zq221.FS)]
def pts:List PT:=[.cs tDisk_]
def FS:FS:=mkFS [.sh] pts (fun x=>Zq32 x.1) fun t=>⟨[.cs I64 t.1,.cs I64 t.2],[]⟩
theorem ok:FsOk PR 69 FS:=
 fn_ok tbok hmix Proofs.Tryz.f69 ⟨[1],[],[],0⟩ .no (G:=G) (show GOk PR G from .cons Zq220.ok (.cons Zq17.ok (.cons Zq221.ok .nil))) (L:=mkL []) (l:=[]) hT
  (fun x=>by simp only[Zq32,mC,mB,mS,mO,mN];kernel_rfl)
end Zq32
def Zq21 (l:List Int):Option Int:=
 some (l.length:Int)
namespace Zq21
def pts:List PT:=[.cs SI]
def FS:FS:=mkFS [.sh] pts (fun x=>Zq21 x.1) fun t=>⟨[.cs I64 t],[]⟩
theorem ok:FsOk PR 179 FS:=
 fn_ok tbok hmix Proofs.Tryz.f179 h0 .no (G:=(mkG [])) .nil (L:=mkL []) (l:=[]) hT
  (fun x=>by simp only[Zq21,mC,mB,mS,mO,mN];kernel_rfl)
end Zq21
def Zq222 (at_:Int):Option Bool:=
 (Zq211 at_ 17 26).bind fun r=>some (!r)
namespace Zq222
def G:Gam:=mkG [(109,Zq211.FS)]
def pts:List PT:=[.cs I64]
def FS:FS:=mkFS [.sh] pts (fun x=>Zq222 x.1) fun t=>⟨[.cs .bool t],[]⟩
theorem ok:FsOk PR 251 FS:=
 fn_ok tbok hmix Proofs.Tryz.f251 h0 .no (G:=G) (show GOk PR G from .cons Zq211.ok .nil) (L:=mkL []) (l:=[]) hT
  (fun x=>by simp only[Zq222,mC,mB,mS,mO,mN];kernel_rfl)
end Zq222
def Zq223.B (s_:List Int) (f:Unit) (v:Int) (v2:Int):Option (Int⊕((Int⊕Unit))):=
 cond (decide (v2<v)) (cond (inB v2 s_.length) ((Zq222 (s_.getD v2.toNat 0)).bind fun r=>cond r (some (.inr (.inl v2))) (some (.inl (w64 (v2+1))))) none) (some (.inr (.inr ())))
def Zq223 (s_:List Int) (f:Unit) (v:Int):Int→Option ((Int⊕Unit)):=
 loopL fun s=>Zq223.B s_ f v s
def Zq224 (s_:List Int) (f:Unit):Option Int:=
 (Zq223 s_ f (s_.length:Int) 0).bind fun o=>sel o (fun b=>some b) (fun c=>some (-1))
namespace Zq224
def G:Gam:=mkG [(251,Zq222.FS)]
theorem Gok:GOk PR G:=.cons Zq222.ok .nil
end Zq224
namespace Zq223
def c:=codeAt (bodyOf Proofs.Tryz.f246) [1,0,1,0,0]
def sp:SP:=⟨[(0,.cs SI),(1,.clo 251 (.cs .unit)),(7,.cs I64),(8,.cs I64)],[]⟩
def out (s_:List Int) (f:Unit) (v:Int):FOut ((Int⊕Unit)):=fun o _ k=>sel o (fun b=>k (.rt) ⟨[(4,.cs I64 b)],[]⟩) (fun c=>k (.ex 0) ⟨[],[]⟩)
def fr:=lfrag sp (fun x=>Zq223 x.1.1 x.1.2.1 x.1.2.2.1 x.1.2.2.2.1) fun x=>out x.1.1 x.1.2.1 x.1.2.2.1
theorem ok:CodeOk PR 19 2 (.loop c) fr:=
 lp_ok tbok hmix h0 .no (G:=Zq224.G) Zq224.Gok (L:=mkL []) (l:=[]) hT [0,1,7,8] [] [(0,([],[]))] ([4],[]) (fun x s=>B x.1.1 x.1.2.1 x.1.2.2.1 s) (fun x s=>⟨[(0,.cs SI x.1.1),(1,.clo 251 (.cs .unit x.1.2.1)),(7,.cs I64 x.1.2.2.1),(8,.cs I64 s)],[]⟩) (fun x=>x.1.2.2.2.1)
  (fun x s=>by simp only[B,mC,mB,mS,mO,mN];kernel_rfl)
end Zq223
namespace Zq224
def pts:List PT:=[.cs SI,.clo 251 (.cs .unit)]
def FS:FS:=mkFS [.sh,.sh] pts (fun x=>Zq224 x.1 x.2.1) fun t=>⟨[.cs I64 t],[]⟩
theorem ok:FsOk PR 246 FS:=
 fn_ok tbok hmix Proofs.Tryz.f246 h0 (.R (.L (.R (.one (.fr 0))))) (G:=G) Gok (L:=mkL [(0,Zq223.fr)]) (l:=[(0,.loop Zq223.c)]) ⟨Lam.cons Zq223.ok,trivial⟩
  (fun x=>by simp only[Zq224,mC,mB,mS,mO,mN];kernel_rfl)
end Zq224
def Zq225 (s_:List Int) (f:Unit):Option Bool:=
 (Zq224 s_ f).bind fun r=>some (decide (r≥0))
namespace Zq225
def G:Gam:=mkG [(246,Zq224.FS)]
def pts:List PT:=[.cs SI,.clo 251 (.cs .unit)]
def FS:FS:=mkFS [.sh,.sh] pts (fun x=>Zq225 x.1 x.2.1) fun t=>⟨[.cs .bool t],[]⟩
theorem ok:FsOk PR 195 FS:=
 fn_ok tbok hmix Proofs.Tryz.f195 h0 .no (G:=G) (show GOk PR G from .cons Zq224.ok .nil) (L:=mkL []) (l:=[]) hT
  (fun x=>by simp only[Zq225,mC,mB,mS,mO,mN];kernel_rfl)
end Zq225
def Zq226.B (s1:List Int) (s2:List Int) (v:Int) (v2:Int):Option (Int⊕((Bool⊕Unit))):=
 cond (decide (v2<v)) (cond (inB v2 s1.length) (cond (inB v2 s2.length) (cond ((s1.getD v2.toNat 0) != (s2.getD v2.toNat 0)) (some (.inr (.inl false))) (some (.inl (w64 (v2+1))))) none) none) (some (.inr (.inr ())))
def Zq226 (s1:List Int) (s2:List Int) (v:Int):Int→Option ((Bool⊕Unit)):=
 loopL fun s=>Zq226.B s1 s2 v s
def Zq227 (s1:List Int) (s2:List Int):Option Bool:=
 cond ((s1.length:Int) != (s2.length:Int)) (some false) ((Zq226 s1 s2 (s1.length:Int) 0).bind fun o=>sel o (fun b=>some b) (fun c=>some true))
namespace Zq226
def c:=codeAt (bodyOf Proofs.Tryz.f185) [1,1,0,1,0,0]
def sp:SP:=⟨[(0,.cs SI),(1,.cs SI),(12,.cs I64),(13,.cs I64)],[]⟩
def out (s1:List Int) (s2:List Int) (v:Int):FOut ((Bool⊕Unit)):=fun o _ k=>sel o (fun b=>k (.rt) ⟨[(4,.cs .bool b)],[]⟩) (fun c=>k (.ex 0) ⟨[],[]⟩)
def fr:=lfrag sp (fun x=>Zq226 x.1.1 x.1.2.1 x.1.2.2.1 x.1.2.2.2.1) fun x=>out x.1.1 x.1.2.1 x.1.2.2.1
theorem ok:CodeOk PR 26 2 (.loop c) fr:=
 lp_ok tbok hmix h0 .no (G:=(mkG [])) .nil (L:=mkL []) (l:=[]) hT [0,1,12,13] [] [(0,([],[]))] ([4],[]) (fun x s=>B x.1.1 x.1.2.1 x.1.2.2.1 s) (fun x s=>⟨[(0,.cs SI x.1.1),(1,.cs SI x.1.2.1),(12,.cs I64 x.1.2.2.1),(13,.cs I64 s)],[]⟩) (fun x=>x.1.2.2.2.1)
  (fun x s=>by simp only[B,mC,mB,mS,mO,mN];kernel_rfl)
end Zq226
namespace Zq227
def pts:List PT:=[.cs SI,.cs SI]
def FS:FS:=mkFS [.sh,.sh] pts (fun x=>Zq227 x.1 x.2.1) fun t=>⟨[.cs .bool t],[]⟩
theorem ok:FsOk PR 185 FS:=
 fn_ok tbok hmix Proofs.Tryz.f185 h0 (.R (.R (.L (.R (.one (.fr 0)))))) (G:=(mkG [])) .nil (L:=mkL [(0,Zq226.fr)]) (l:=[(0,.loop Zq226.c)]) ⟨Lam.cons Zq226.ok,trivial⟩
  (fun x=>by simp only[Zq227,mC,mB,mS,mO,mN];kernel_rfl)
end Zq227
def Zq228.B (d:Disk_) (v4:List Int) (v3:Int) (v5:Int) (puts_:List Put_):Option ((Int×List Put_)⊕(List Put_)):=
 cond (decide (v5<v3)) (cond (inB v5 v4.length) ((Zq17 d (w64 ((2:Int)+v5))).bind fun r7=>cond (decide ((puts_++([(v4.getD v5.toNat 0,r7,())])).length≤2147483648)) (some (.inl (w64 (v5+1),puts_++([(v4.getD v5.toNat 0,r7,())])))) none) none) (some (.inr puts_))
def Zq228 (d:Disk_) (v4:List Int) (v3:Int):(Int×List Put_)→Option (List Put_):=
 loopL fun s=>Zq228.B d v4 v3 s.1 s.2
def Zq229 (d:Disk_) (seq:Int):Option ((List Put_)×Bool):=
 (Zq17 d 1).bind fun r=>cond (cond (!(decide ((r.length:Int)<3))) (inB 0 r.length) true) ((some (cond (decide ((r.length:Int)<3)) true ((r.getD (0:Int).toNat 0) != 1))).bind fun v=>cond (cond (!v) (inB 1 r.length) true) (cond (cond v true ((r.getD (1:Int).toNat 0) != seq)) (some ([],false)) (cond (inB 2 r.length) ((Zq211 (r.getD (2:Int).toNat 0) 0 10).bind fun r2=>cond (!r2) (some ([],false)) ((Zq21 r).bind fun r3=>cond (inB 2 r.length) ((some (r3 != (w64 ((3:Int)+(r.getD (2:Int).toNat 0))))).bind fun v2=>cond v2 (some ([],false)) (cond (inB 2 r.length) (cond (decide ((0:Int)≤(3:Int))&&decide ((3:Int)≤(r.length:Int))) ((Zq225 ((r.take r.length).drop ((3:Int).toNat)) ()).bind fun r4=>cond r4 (some ([],false)) ((Zq17 d (w64 ((2:Int)+(r.getD (2:Int).toNat 0)))).bind fun r5=>(Zq227 r5 ([2,seq,r.getD (2:Int).toNat 0])).bind fun r6=>cond (!r6) (some ([],false)) (cond (decide ((0:Int)≤(3:Int))&&decide ((3:Int)≤(r.length:Int))) ((some (((r.take r.length).drop ((3:Int).toNat)).length:Int)).bind fun v3=>(Zq228 d ((r.take r.length).drop ((3:Int).toNat)) v3 (0,[])).bind fun o=>some (o,true)) none))) none) none)) none)) none)) none) none
namespace Zq229
def G:Gam:=mkG [(155,Zq17.FS),(109,Zq211.FS),(179,Zq21.FS),(195,Zq225.FS),(185,Zq227.FS)]
theorem Gok:GOk PR G:=.cons Zq17.ok (.cons Zq211.ok (.cons Zq21.ok (.cons Zq225.ok (.cons Zq227.ok .nil))))
end Zq229
namespace Zq228
def c:=codeAt (bodyOf Proofs.Tryz.f206) [1,1,1,1,1,1,0,1,0,0]
def sp:SP:=⟨[(2,.pt tDisk_),(8,.seg 8 []),(61,.cs SI),(62,.cs I64),(63,.cs I64)],[(8,.reg,.cl .top (.sl tPut_))]⟩
def out (d:Disk_) (v4:List Int) (v3:Int):FOut (List Put_):=fun b _ k=>k (.ex 0) ⟨[(8,.seg 8 [])],[(8,some ⟨.reg,.cl .top (.sl tPut_) b⟩)]⟩
def fr:=lfrag sp (fun x=>Zq228 x.1.1 x.1.2.2.1 x.1.2.2.2.1 (x.1.2.2.2.2.1,x.2.1)) fun x=>out x.1.1 x.1.2.2.1 x.1.2.2.2.1
theorem ok:CodeOk PR 78 2 (.loop c) fr:=
 lp_ok tbok hmix ⟨[2],[8],[],1⟩ .no (G:=Zq229.G) Zq229.Gok (L:=mkL []) (l:=[]) hT [2,8,61,62,63] [8] [(0,([8],[8]))] ([],[]) (fun x s=>B x.1.1 x.1.2.2.1 x.1.2.2.2.1 s.1 s.2) (fun x s=>⟨[(2,.pt tDisk_ x.1.1),(8,.seg 8 []),(61,.cs SI x.1.2.2.1),(62,.cs I64 x.1.2.2.2.1),(63,.cs I64 s.1)],[(8,some ⟨.reg,.cl .top (.sl tPut_) s.2⟩)]⟩) (fun x=>(x.1.2.2.2.2.1,x.2.1))
  (fun x s=>by simp only[B,mC,mB,mS,mO,mN];kernel_rfl)
end Zq228
namespace Zq229
def pts:List PT:=[.cs tDisk_,.cs I64]
def FS:FS:=mkFS [.sh,.sh] pts (fun x=>Zq229 x.1 x.2.1) fun t=>⟨[.cl .top (.sl tPut_) t.1,.cs .bool t.2],[]⟩
theorem ok:FsOk PR 206 FS:=
 fn_ok tbok hmix Proofs.Tryz.f206 ⟨[2],[8],[],1⟩ (.R (.R (.R (.R (.R (.R (.L (.R (.one (.fr 0)))))))))) (G:=G) Gok (L:=mkL [(0,Zq228.fr)]) (l:=[(0,.loop Zq228.c)]) ⟨Lam.cons Zq228.ok,trivial⟩
  (fun x=>by simp only[Zq229,mC,mB,mS,mO,mN];kernel_rfl)
end Zq229
noncomputable def Zq230 (l:List Put_):Option (List Step_):=putStepsP l
noncomputable def Zq230.FS:FS:=mkFS [.sh] [.cl .sh (.sl tPutB)] (fun x=>putStepsP x.1) fun y=>⟨[.cl .deep (.sl tStepB) y],[]⟩
theorem Zq230.okA:FsOk Go.Proofs.Tryz.prog 194 (mkFS [.sh] [.cl .sh (.sl tPutB)] (fun x=>cloneP x.1) fun y=>⟨[.cl .top (.sl tPutB) y],[]⟩):=
 clone_fs (hn:=⟨[],[],[],1⟩) tbok hmix (fn:=Go.Proofs.Tryz.f194) (by kernel_rfl) (body_some (by kernel_rfl)) (by kernel_rfl) (by kernel_rfl) .top tPut_ 34 34 85 (by kernel_rfl) (by kernel_rfl) (by kernel_rfl) (by kernel_rfl) (by kernel_rfl) (by kernel_rfl) (by kernel_rfl) (by kernel_rfl) (fun xs=>by kernel_rfl) (fun xs=>by kernel_rfl) (fun xs=>by kernel_rfl) (fun xs=>by kernel_rfl)
theorem Zq230.okB:FsOk Go.Proofs.Tryz.prog 160 (mkFS [.sh] [.cl .sh (.sl (.int .i64))] (fun x=>cloneP x.1) fun y=>⟨[.cl .deep (.sl (.int .i64)) y],[]⟩):=
 clone_fs (hn:=⟨[],[],[],0⟩) tbok hmix (fn:=Go.Proofs.Tryz.f160) (by kernel_rfl) (body_some (by kernel_rfl)) (by kernel_rfl) (by kernel_rfl) .deep (.int .i64) 66 66 2 (by kernel_rfl) (by kernel_rfl) (by kernel_rfl) (by kernel_rfl) (by kernel_rfl) (by kernel_rfl) (by kernel_rfl) (by kernel_rfl) (fun xs=>by kernel_rfl) (fun xs=>by kernel_rfl) (fun xs=>by kernel_rfl) (fun xs=>by kernel_rfl)
theorem Zq230.ok:FsOk Go.Proofs.Tryz.prog 162 Zq230.FS:=
 putSteps_fs ⟨Go.Proofs.Tryz.f162,by kernel_rfl,by kernel_rfl,by kernel_rfl⟩ (fun w A c l hr hl hls=>callsIn_wide.1 (Go.Proofs.Ps.putSteps_in Fence.wide 1 trivial trivial (Nat.le_refl _) rfl (fun m w A c l hr hl hls=>callsIn_wide.2 (callsIn_wide.1 (Go.Proofs.Cp.clonePuts_in Fence.wide 1 trivial trivial trivial (Nat.le_refl _) rfl (fun m w A c xs hr hl=>callsIn_wide.2 (clone_calls Zq230.okA (by decide) rd_puts w A c xs hr hl)) (fun m w A c xs hr hl=>callsIn_wide.2 (clone_calls Zq230.okB (by decide) rd_ints w A c xs hr hl)) w A c l hr hl hls))) (by kernel_rfl) w A c l hr hl hls))
def Zq231 (seq:Int):Option (List Int):=
 some ([7,seq])
namespace Zq231
def pts:List PT:=[.cs I64]
def FS:FS:=mkFS [.sh] pts (fun x=>Zq231 x.1) fun t=>⟨[.cd SI t],[]⟩
theorem ok:FsOk PR 104 FS:=
 fn_ok tbok hmix Proofs.Tryz.f104 h0 .no (G:=(mkG [])) .nil (L:=mkL []) (l:=[]) hT
  (fun x=>by simp only[Zq231,mC,mB,mS,mO,mN];kernel_rfl)
end Zq231
def Zq33 (d:Disk_) (seq:Int):Option (List Step_):=
 (Zq229 d seq).bind fun r=>cond (cond (!r.2) true (seq == 60000)) (some []) ((Zq230 r.1).bind fun r2=>(Zq231 (w64 (seq+1))).bind fun r3=>(some (r2++([(true,0,[],()),(false,0,r3,()),(true,0,[],())]))).bind fun v=>cond (decide (v.length≤2147483648)) (some v) none)
namespace Zq33
def G:Gam:=mkG [(206,Zq229.FS),(162,Zq230.FS),(104,Zq231.FS)]
def pts:List PT:=[.cs tDisk_,.cs I64]
def FS:FS:=mkFS [.sh,.sh] pts (fun x=>Zq33 x.1 x.2.1) fun t=>⟨[.cd (.sl tStep_) t],[]⟩
theorem ok:FsOk PR 124 FS:=
 fn_ok tbok hmix Proofs.Tryz.f124 ⟨[2],[],[7],0⟩ .no (G:=G) (show GOk PR G from .cons Zq229.ok (.cons Zq230.ok (.cons Zq231.ok .nil))) (L:=mkL []) (l:=[]) hT
  (fun x=>by simp only[Zq33,mC,mB,mS,mO,mN];kernel_rfl)
end Zq33
noncomputable def Zq29 (s:List Int):Option (List Int):=cloneP s
noncomputable def Zq29.FS:FS:=mkFS [.sh] [.cl .sh (.sl (.int .i64))] (fun x=>Zq29 x.1) fun y=>⟨[.cl .deep (.sl (.int .i64)) y],[]⟩
theorem Zq29.ok:FsOk Go.Proofs.Tryz.prog 160 Zq29.FS:=
 clone_fs (hn:=⟨[],[],[],0⟩) tbok hmix (fn:=Go.Proofs.Tryz.f160) (by kernel_rfl) (body_some (by kernel_rfl)) (by kernel_rfl) (by kernel_rfl) .deep (.int .i64) 66 66 2 (by kernel_rfl) (by kernel_rfl) (by kernel_rfl) (by kernel_rfl) (by kernel_rfl) (by kernel_rfl) (by kernel_rfl) (by kernel_rfl) (fun xs=>by kernel_rfl) (fun xs=>by kernel_rfl) (fun xs=>by kernel_rfl) (fun xs=>by kernel_rfl)
noncomputable def Zq232 (l:List Put_):Option (List Put_):=clonePutsP l
noncomputable def Zq232.FS:FS:=mkFS [.sh] [.cl .sh (.sl tPutB)] (fun x=>clonePutsP x.1) fun y=>⟨[.cl .deep (.sl tPutB) y],[]⟩
theorem Zq232.okA:FsOk Go.Proofs.Tryz.prog 194 (mkFS [.sh] [.cl .sh (.sl tPutB)] (fun x=>cloneP x.1) fun y=>⟨[.cl .top (.sl tPutB) y],[]⟩):=
 clone_fs (hn:=⟨[],[],[],1⟩) tbok hmix (fn:=Go.Proofs.Tryz.f194) (by kernel_rfl) (body_some (by kernel_rfl)) (by kernel_rfl) (by kernel_rfl) .top tPut_ 34 34 85 (by kernel_rfl) (by kernel_rfl) (by kernel_rfl) (by kernel_rfl) (by kernel_rfl) (by kernel_rfl) (by kernel_rfl) (by kernel_rfl) (fun xs=>by kernel_rfl) (fun xs=>by kernel_rfl) (fun xs=>by kernel_rfl) (fun xs=>by kernel_rfl)
theorem Zq232.okB:FsOk Go.Proofs.Tryz.prog 160 (mkFS [.sh] [.cl .sh (.sl (.int .i64))] (fun x=>cloneP x.1) fun y=>⟨[.cl .deep (.sl (.int .i64)) y],[]⟩):=
 clone_fs (hn:=⟨[],[],[],0⟩) tbok hmix (fn:=Go.Proofs.Tryz.f160) (by kernel_rfl) (body_some (by kernel_rfl)) (by kernel_rfl) (by kernel_rfl) .deep (.int .i64) 66 66 2 (by kernel_rfl) (by kernel_rfl) (by kernel_rfl) (by kernel_rfl) (by kernel_rfl) (by kernel_rfl) (by kernel_rfl) (by kernel_rfl) (fun xs=>by kernel_rfl) (fun xs=>by kernel_rfl) (fun xs=>by kernel_rfl) (fun xs=>by kernel_rfl)
theorem Zq232.ok:FsOk Go.Proofs.Tryz.prog 111 Zq232.FS:=
 clonePuts_fs ⟨Go.Proofs.Tryz.f111,by kernel_rfl,by kernel_rfl,by kernel_rfl⟩ (fun w A c l hr hl hls=>callsIn_wide.1 (Go.Proofs.Cp.clonePuts_in Fence.wide 1 trivial trivial trivial (Nat.le_refl _) rfl (fun m w A c xs hr hl=>callsIn_wide.2 (clone_calls Zq232.okA (by decide) rd_puts w A c xs hr hl)) (fun m w A c xs hr hl=>callsIn_wide.2 (clone_calls Zq232.okB (by decide) rd_ints w A c xs hr hl)) w A c l hr hl hls))
def Zq233.B (d:Disk_) (v:List (List Int)) (v2:Int) (v4:Disk_) (v3:Int) (out_:Disk_):Option ((Int×Disk_)⊕Disk_):=
 cond (decide (v3<v2)) (cond (inB v3 v.length) ((Zq29 (v.getD v3.toNat [])).bind fun r=>cond (decide ((out_.1++([r])).length≤2147483648)) (some (.inl (w64 (v3+1),(out_.1++([r]),out_.2)))) none) none) (some (.inr out_))
def Zq233 (d:Disk_) (v:List (List Int)) (v2:Int) (v4:Disk_):(Int×Disk_)→Option Disk_:=
 loopL fun s=>Zq233.B d v v2 v4 s.1 s.2
def Zq34 (d:Disk_):Option Disk_:=
 (Zq233 d d.1 (d.1.length:Int) ([],[],()) (0,([],[],()))).bind fun o=>(Zq232 d.2.1).bind fun r2=>some (o.1,r2,())
namespace Zq34
def G:Gam:=mkG [(160,Zq29.FS),(111,Zq232.FS)]
theorem Gok:GOk PR G:=.cons Zq29.ok (.cons Zq232.ok .nil)
end Zq34
namespace Zq233
def c:=codeAt (bodyOf Proofs.Tryz.f115) [1,1,0,1,0,0]
def sp:SP:=⟨[(1,.pt tDisk_),(2,.loc 2 []),(3,.loc 3 []),(7,.cs (.sl SI)),(8,.cs I64),(9,.cs I64)],[(2,.mem,.cd tDisk_),(3,.mem,.cd tDisk_)]⟩
def out (d:Disk_) (v:List (List Int)) (v2:Int) (v4:Disk_):FOut Disk_:=fun b _ k=>k (.ex 0) ⟨[(1,.pt tDisk_ d),(2,.loc 2 []),(3,.loc 3 [])],[(2,some ⟨.mem,.cd tDisk_ v4⟩),(3,some ⟨.mem,.cd tDisk_ b⟩)]⟩
def fr:=lfrag sp (fun x=>Zq233 x.1.1 x.1.2.2.2.1 x.1.2.2.2.2.1 x.2.1 (x.1.2.2.2.2.2.1,x.2.2.1)) fun x=>out x.1.1 x.1.2.2.2.1 x.1.2.2.2.2.1 x.2.1
theorem ok:CodeOk PR 27 1 (.loop c) fr:=
 lp_ok tbok hmix ⟨[1],[],[],0⟩ .no (G:=Zq34.G) Zq34.Gok (L:=mkL []) (l:=[]) hT [1,2,3,7,8,9] [2,3] [(0,([1,2,3],[2,3]))] ([],[]) (fun x s=>B x.1.1 x.1.2.2.2.1 x.1.2.2.2.2.1 x.2.1 s.1 s.2) (fun x s=>⟨[(1,.pt tDisk_ x.1.1),(2,.loc 2 []),(3,.loc 3 []),(7,.cs (.sl SI) x.1.2.2.2.1),(8,.cs I64 x.1.2.2.2.2.1),(9,.cs I64 s.1)],[(2,some ⟨.mem,.cd tDisk_ x.2.1⟩),(3,some ⟨.mem,.cd tDisk_ s.2⟩)]⟩) (fun x=>(x.1.2.2.2.2.2.1,x.2.2.1))
  (fun x s=>by simp only[B,mC,mB,mS,mO,mN];kernel_rfl)
end Zq233
namespace Zq34
def pts:List PT:=[.cs tDisk_]
def FS:FS:=mkFS [.sh] pts (fun x=>Zq34 x.1) fun t=>⟨[.cd tDisk_ t],[]⟩
theorem ok:FsOk PR 115 FS:=
 fn_ok tbok hmix Proofs.Tryz.f115 ⟨[1],[],[],0⟩ (.R (.R (.L (.R (.one (.fr 0)))))) (G:=G) Gok (L:=mkL [(0,Zq233.fr)]) (l:=[(0,.loop Zq233.c)]) ⟨Lam.cons Zq233.ok,trivial⟩
  (fun x=>by simp only[Zq34,mC,mB,mS,mO,mN];kernel_rfl)
end Zq34
noncomputable def Zq35 (d:Disk_):Option Disk_:=flushP d
noncomputable def Zq35.FS:FS:=mkFS [.mu] [.op (.cl .deep tDiskB)] (fun x=>flushP x.1) fun y=>⟨[],[.op (.cl .deep tDiskB y)]⟩
theorem Zq35.ok:FsOk Go.Proofs.Tryz.prog 125 Zq35.FS:=
 flush_fs ⟨Go.Proofs.Tryz.f125,by kernel_rfl,by kernel_rfl,by kernel_rfl⟩ (fun w A C bd od bB oB bC oC nB cB nC cC at_ hc hb h1 h2 h3 h4 h5 h6 h7 h8 h9=>Go.Proofs.Fl.flush_in w A C bd od bB oB bC oC nB cB nC cC at_ hc hb h1 h2 h3 h4 h5 h6 h7 h8 h9)
def Zq234 (d:Disk_) (at_:Int) (words:List Int):Option Disk_:=
 (Zq29 words).bind fun r=>cond (decide ((d.2.1++([(at_,r,())])).length≤2147483648)) (some (d.1,d.2.1++([(at_,r,())]),d.2.2)) none
namespace Zq234
def G:Gam:=mkG [(160,Zq29.FS)]
def pts:List PT:=[.op (.cd tDisk_),.cs I64,.cs SI]
def FS:FS:=mkFS [.mu,.sh,.sh] pts (fun x=>Zq234 x.1 x.2.1 x.2.2.1) fun t=>⟨[],[.op (.cd tDisk_ t)]⟩
theorem ok:FsOk PR 116 FS:=
 fn_ok tbok hmix Proofs.Tryz.f116 h0 .no (G:=G) (show GOk PR G from .cons Zq29.ok .nil) (L:=mkL []) (l:=[]) hT
  (fun x=>by simp only[Zq234,mC,mB,mS,mO,mN];kernel_rfl)
end Zq234
def Zq235.B (list:List Step_) (v:Int) (v2:Int) (d_:Disk_):Option ((Int×Disk_)⊕(((Int×Disk_)⊕Disk_))):=
 cond (decide (v2<v)) (cond (inB v2 list.length) (cond (list.getD v2.toNat zStep_).1 ((Zq35 d_).bind fun r=>some (.inl (w64 (v2+1),r))) (cond ((d_.2.1.length:Int) == 200) (some (.inr (.inl (2,d_)))) ((Zq234 d_ (list.getD v2.toNat zStep_).2.1 (list.getD v2.toNat zStep_).2.2.1).bind fun r2=>some (.inl (w64 (v2+1),r2))))) none) (some (.inr (.inr d_)))
def Zq235 (list:List Step_) (v:Int):(Int×Disk_)→Option (((Int×Disk_)⊕Disk_)):=
 loopL fun s=>Zq235.B list v s.1 s.2
def Zq36 (d:Disk_) (list:List Step_):Option (Int×Disk_):=
 (Zq235 list (list.length:Int) (0,d)).bind fun o=>sel o (fun b=>some (b.1,b.2)) (fun c=>some (0,c))
namespace Zq36
def G:Gam:=mkG [(125,Zq35.FS),(116,Zq234.FS)]
theorem Gok:GOk PR G:=.cons Zq35.ok (.cons Zq234.ok .nil)
end Zq36
namespace Zq235
def c:=codeAt (bodyOf Proofs.Tryz.f126) [1,0,1,0,0]
def sp:SP:=⟨[(0,.loc 0 []),(7,.cs (.sl tStep_)),(8,.cs I64),(9,.cs I64)],[(0,.mem,.cd tDisk_)]⟩
def out (list:List Step_) (v:Int):FOut (((Int×Disk_)⊕Disk_)):=fun o _ k=>sel o (fun b=>k (.rt) ⟨[(4,.cs I64 b.1)],[(0,some ⟨.mem,.cd tDisk_ b.2⟩)]⟩) (fun c=>k (.ex 0) ⟨[],[(0,some ⟨.mem,.cd tDisk_ c⟩)]⟩)
def fr:=lfrag sp (fun x=>Zq235 x.1.2.1 x.1.2.2.1 (x.1.2.2.2.1,x.2.1)) fun x=>out x.1.2.1 x.1.2.2.1
theorem ok:CodeOk PR 32 2 (.loop c) fr:=
 lp_ok tbok hmix h0 .no (G:=Zq36.G) Zq36.Gok (L:=mkL []) (l:=[]) hT [0,7,8,9] [0] [(0,([],[0]))] ([4],[0]) (fun x s=>B x.1.2.1 x.1.2.2.1 s.1 s.2) (fun x s=>⟨[(0,.loc 0 []),(7,.cs (.sl tStep_) x.1.2.1),(8,.cs I64 x.1.2.2.1),(9,.cs I64 s.1)],[(0,some ⟨.mem,.cd tDisk_ s.2⟩)]⟩) (fun x=>(x.1.2.2.2.1,x.2.1))
  (fun x s=>by simp only[B,mC,mB,mS,mO,mN];kernel_rfl)
end Zq235
namespace Zq36
def pts:List PT:=[.op (.cd tDisk_),.cs (.sl tStep_)]
def FS:FS:=mkFS [.mu,.sh] pts (fun x=>Zq36 x.1 x.2.1) fun t=>⟨[.cs I64 t.1],[.op (.cd tDisk_ t.2)]⟩
theorem ok:FsOk PR 126 FS:=
 fn_ok tbok hmix Proofs.Tryz.f126 h0 (.R (.L (.R (.one (.fr 0))))) (G:=G) Gok (L:=mkL [(0,Zq235.fr)]) (l:=[(0,.loop Zq235.c)]) ⟨Lam.cons Zq235.ok,trivial⟩
  (fun x=>by simp only[Zq36,mC,mB,mS,mO,mN];kernel_rfl)
end Zq36
def Zq236.B (words_:List Int) (v5:Int) (v7:List Int) (v8:Int) (v9:Int) (v10:List Int) (r2:Int) (v11:Int) (v4:Bool) (v12:List Int) (v6:Int) (v3:Inode_) (x_:Inode_) (v13:Int) (e_:Entry_):Option ((Int×Entry_)⊕(((Bool×Inode_)⊕Entry_))):=
 cond (decide (v13<v6)) (cond (inB v13 v12.length) (cond (decide ((v12.getD v13.toNat 0)>255)) (some (.inr (.inl (false,(0,0,0,[],[],()))))) ((some (([IntKind.u8.wrap (v12.getD v13.toNat 0)]).map fun n=>UInt8.ofNat n.toNat)).bind fun v14=>cond (decide (e_.1.length+v14.length≤2147483648)) (some (.inl (w64 (v13+1),(e_.1++v14,e_.2)))) none)) none) (some (.inr (.inr e_)))
def Zq236 (words_:List Int) (v5:Int) (v7:List Int) (v8:Int) (v9:Int) (v10:List Int) (r2:Int) (v11:Int) (v4:Bool) (v12:List Int) (v6:Int) (v3:Inode_) (x_:Inode_):(Int×Entry_)→Option (((Bool×Inode_)⊕Entry_)):=
 loopL fun s=>Zq236.B words_ v5 v7 v8 v9 v10 r2 v11 v4 v12 v6 v3 x_ s.1 s.2
def Zq237.B (v3:Inode_) (words_:List Int) (x_:Inode_):Option (((List Int)×Inode_)⊕(((Bool×Inode_)⊕Inode_))):=
 cond (decide ((words_.length:Int)>0)) (cond (decide ((words_.length:Int)<2)) (some (.inr (.inl (false,(0,0,0,[],[],()))))) (cond (inB 1 words_.length) ((Zq21 words_).bind fun r2=>(some (decide ((words_.getD (1:Int).toNat 0)>(w64 (r2-2))))).bind fun v4=>cond v4 (some (.inr (.inl (false,(0,0,0,[],[],()))))) (cond (inB 1 words_.length) ((some (w64 ((2:Int)+(words_.getD (1:Int).toNat 0)))).bind fun v5=>cond (inB 0 words_.length) (cond (decide ((0:Int)≤v5)&&decide (v5≤(words_.length:Int))&&(decide ((0:Int)≤(2:Int))&&decide ((2:Int)≤v5))) ((some (((words_.take v5.toNat).drop ((2:Int).toNat)).length:Int)).bind fun v6=>(Zq236 words_ v5 words_ (words_.getD (1:Int).toNat 0) (words_.getD (1:Int).toNat 0) words_ r2 (w64 (r2-2)) v4 ((words_.take v5.toNat).drop ((2:Int).toNat)) v6 v3 x_ (0,([],words_.getD (0:Int).toNat 0,()))).bind fun o=>sel o (fun b=>some (.inr (.inl (b.1,b.2)))) (fun c=>cond (decide ((x_.2.2.2.2.1++([c])).length≤2147483648)) (cond (decide ((0:Int)≤v5)&&decide (v5≤(words_.length:Int))) (some (.inl ((words_.take words_.length).drop v5.toNat,(x_.1,x_.2.1,x_.2.2.1,x_.2.2.2.1,x_.2.2.2.2.1++([c]),x_.2.2.2.2.2)))) none) none)) none) none) none)) none)) (some (.inr (.inr x_)))
def Zq237 (v3:Inode_):((List Int)×Inode_)→Option (((Bool×Inode_)⊕Inode_)):=
 loopL fun s=>Zq237.B v3 s.1 s.2
def Zq238 (words:List Int):Option (Inode_×Bool):=
 cond (decide ((words.length:Int)<3)) (some ((0,0,0,[],[],()),false)) (cond (inB 0 words.length) (cond (inB 1 words.length) (cond (inB 2 words.length) (cond (decide ((0:Int)≤(3:Int))&&decide ((3:Int)≤(words.length:Int))) (cond ((words.getD (0:Int).toNat 0) != 2) ((Zq29 ((words.take words.length).drop ((3:Int).toNat))).bind fun r=>some ((words.getD (0:Int).toNat 0,words.getD (1:Int).toNat 0,words.getD (2:Int).toNat 0,r,[],()),true)) ((some (((words.take words.length).drop ((3:Int).toNat)).length:Int)).bind fun v=>cond (v == 0) (some ((0,0,0,[],[],()),false)) (cond (decide ((0:Int)≤(1:Int))&&decide ((1:Int)≤(((words.take words.length).drop ((3:Int).toNat)).length:Int))) ((some ((((words.take words.length).drop ((3:Int).toNat)).take (((words.take words.length).drop ((3:Int).toNat)).length)).drop ((1:Int).toNat))).bind fun v2=>(Zq237 (0,0,0,[],[],()) (v2,(words.getD (0:Int).toNat 0,words.getD (1:Int).toNat 0,words.getD (2:Int).toNat 0,[],[],()))).bind fun o2=>sel o2 (fun b2=>some ((b2.2.1,b2.2.2.1,b2.2.2.2.1,b2.2.2.2.2.1,b2.2.2.2.2.2.1,b2.2.2.2.2.2.2),b2.1)) (fun c2=>some ((c2.1,c2.2.1,c2.2.2.1,c2.2.2.2.1,c2.2.2.2.2.1,c2.2.2.2.2.2),true))) none))) none) none) none) none)
namespace Zq238
def G:Gam:=mkG [(160,Zq29.FS),(179,Zq21.FS)]
theorem Gok:GOk PR G:=.cons Zq29.ok (.cons Zq21.ok .nil)
end Zq238
namespace Zq236
def c:=codeAt (bodyOf Proofs.Tryz.f247) [1,1,1,1,1,1,0,1,0,0,1,0,1,1,1,0,1,0,0]
def sp:SP:=⟨[(0,.cs SI),(2,.loc 2 []),(4,.loc 4 []),(5,.cs I64),(6,.loc 6 []),(45,.cs SI),(46,.pt I64),(47,.cs I64),(48,.cs SI),(49,.cs I64),(50,.cs I64),(51,.cs .bool),(64,.cs SI),(65,.cs I64),(66,.cs I64)],[(2,.mem,.cd tInode_),(4,.mem,.cd tInode_),(6,.mem,.cd tEntry_)]⟩
def out (words_:List Int) (v5:Int) (v7:List Int) (v8:Int) (v9:Int) (v10:List Int) (r2:Int) (v11:Int) (v4:Bool) (v12:List Int) (v6:Int) (v3:Inode_) (x_:Inode_):FOut (((Bool×Inode_)⊕Entry_)):=fun o _ k=>sel o (fun b=>k (.rt) ⟨[(2,.loc 2 []),(3,.cs .bool b.1)],[(2,some ⟨.mem,.cd tInode_ b.2⟩)]⟩) (fun c=>k (.ex 2) ⟨[(0,.cs SI words_),(2,.loc 2 []),(4,.loc 4 []),(5,.cs I64 v5),(6,.loc 6 []),(45,.cs SI v7),(46,.pt I64 v8),(47,.cs I64 v9),(48,.cs SI v10),(49,.cs I64 r2),(50,.cs I64 v11),(51,.cs .bool v4)],[(2,some ⟨.mem,.cd tInode_ v3⟩),(4,some ⟨.mem,.cd tInode_ x_⟩),(6,some ⟨.mem,.cd tEntry_ c⟩)]⟩)
def fr:=lfrag sp (fun x=>Zq236 x.1.1 x.1.2.2.2.1 x.1.2.2.2.2.2.1 x.1.2.2.2.2.2.2.1 x.1.2.2.2.2.2.2.2.1 x.1.2.2.2.2.2.2.2.2.1 x.1.2.2.2.2.2.2.2.2.2.1 x.1.2.2.2.2.2.2.2.2.2.2.1 x.1.2.2.2.2.2.2.2.2.2.2.2.1 x.1.2.2.2.2.2.2.2.2.2.2.2.2.1 x.1.2.2.2.2.2.2.2.2.2.2.2.2.2.1 x.2.1 x.2.2.1 (x.1.2.2.2.2.2.2.2.2.2.2.2.2.2.2.1,x.2.2.2.1)) fun x=>out x.1.1 x.1.2.2.2.1 x.1.2.2.2.2.2.1 x.1.2.2.2.2.2.2.1 x.1.2.2.2.2.2.2.2.1 x.1.2.2.2.2.2.2.2.2.1 x.1.2.2.2.2.2.2.2.2.2.1 x.1.2.2.2.2.2.2.2.2.2.2.1 x.1.2.2.2.2.2.2.2.2.2.2.2.1 x.1.2.2.2.2.2.2.2.2.2.2.2.2.1 x.1.2.2.2.2.2.2.2.2.2.2.2.2.2.1 x.2.1 x.2.2.1
theorem ok:CodeOk PR 92 1 (.loop c) fr:=
 lp_ok tbok hmix h0 .no (G:=Zq238.G) Zq238.Gok (L:=mkL []) (l:=[]) hT [0,2,4,5,6,45,46,47,48,49,50,51,64,65,66] [2,4,6] [(2,([0,2,4,5,6,45,46,47,48,49,50,51],[2,4,6]))] ([2,3],[2]) (fun x s=>B x.1.1 x.1.2.2.2.1 x.1.2.2.2.2.2.1 x.1.2.2.2.2.2.2.1 x.1.2.2.2.2.2.2.2.1 x.1.2.2.2.2.2.2.2.2.1 x.1.2.2.2.2.2.2.2.2.2.1 x.1.2.2.2.2.2.2.2.2.2.2.1 x.1.2.2.2.2.2.2.2.2.2.2.2.1 x.1.2.2.2.2.2.2.2.2.2.2.2.2.1 x.1.2.2.2.2.2.2.2.2.2.2.2.2.2.1 x.2.1 x.2.2.1 s.1 s.2) (fun x s=>⟨[(0,.cs SI x.1.1),(2,.loc 2 []),(4,.loc 4 []),(5,.cs I64 x.1.2.2.2.1),(6,.loc 6 []),(45,.cs SI x.1.2.2.2.2.2.1),(46,.pt I64 x.1.2.2.2.2.2.2.1),(47,.cs I64 x.1.2.2.2.2.2.2.2.1),(48,.cs SI x.1.2.2.2.2.2.2.2.2.1),(49,.cs I64 x.1.2.2.2.2.2.2.2.2.2.1),(50,.cs I64 x.1.2.2.2.2.2.2.2.2.2.2.1),(51,.cs .bool x.1.2.2.2.2.2.2.2.2.2.2.2.1),(64,.cs SI x.1.2.2.2.2.2.2.2.2.2.2.2.2.1),(65,.cs I64 x.1.2.2.2.2.2.2.2.2.2.2.2.2.2.1),(66,.cs I64 s.1)],[(2,some ⟨.mem,.cd tInode_ x.2.1⟩),(4,some ⟨.mem,.cd tInode_ x.2.2.1⟩),(6,some ⟨.mem,.cd tEntry_ s.2⟩)]⟩) (fun x=>(x.1.2.2.2.2.2.2.2.2.2.2.2.2.2.2.1,x.2.2.2.1))
  (fun x s=>by simp only[B,mC,mB,mS,mO,mN];kernel_rfl)
end Zq236
namespace Zq237
def c:=codeAt (bodyOf Proofs.Tryz.f247) [1,1,1,1,1,1,0,1,0,0]
def sp:SP:=⟨[(0,.cs SI),(2,.loc 2 []),(4,.loc 4 [])],[(2,.mem,.cd tInode_),(4,.mem,.cd tInode_)]⟩
def out (v3:Inode_):FOut (((Bool×Inode_)⊕Inode_)):=fun o _ k=>sel o (fun b=>k (.rt) ⟨[(2,.loc 2 []),(3,.cs .bool b.1)],[(2,some ⟨.mem,.cd tInode_ b.2⟩)]⟩) (fun c=>k (.ex 0) ⟨[(2,.loc 2 []),(4,.loc 4 [])],[(2,some ⟨.mem,.cd tInode_ v3⟩),(4,some ⟨.mem,.cd tInode_ c⟩)]⟩)
def fr:=lfrag sp (fun x=>Zq237 x.2.1 (x.1.1,x.2.2.1)) fun x=>out x.2.1
theorem ok:CodeOk PR 92 1 (.loop c) fr:=
 lp_ok tbok hmix h0 (.R (.one (.R (.R (.R (.L (.R (.one (.fr 1))))))))) (G:=Zq238.G) Zq238.Gok (L:=mkL [(1,Zq236.fr)]) (l:=[(1,.loop Zq236.c)]) ⟨Lam.cons Zq236.ok,trivial⟩ [0,2,4] [2,4] [(0,([2,4],[2,4]))] ([2,3],[2]) (fun x s=>B x.2.1 s.1 s.2) (fun x s=>⟨[(0,.cs SI s.1),(2,.loc 2 []),(4,.loc 4 [])],[(2,some ⟨.mem,.cd tInode_ x.2.1⟩),(4,some ⟨.mem,.cd tInode_ s.2⟩)]⟩) (fun x=>(x.1.1,x.2.2.1))
  (fun x s=>by simp only[B,mC,mB,mS,mO,mN];kernel_rfl)
end Zq237
namespace Zq238
def pts:List PT:=[.cs SI]
def FS:FS:=mkFS [.sh] pts (fun x=>Zq238 x.1) fun t=>⟨[.cd tInode_ t.1,.cs .bool t.2],[]⟩
theorem ok:FsOk PR 247 FS:=
 fn_ok tbok hmix Proofs.Tryz.f247 h0 (.R (.R (.R (.R (.R (.R (.L (.R (.one (.fr 0)))))))))) (G:=G) Gok (L:=mkL [(1,Zq236.fr),(0,Zq237.fr)]) (l:=[(0,.loop Zq237.c)]) ⟨Lam.skip rfl (Lam.cons Zq237.ok),trivial⟩
  (fun x=>by simp only[Zq238,mC,mB,mS,mO,mN];kernel_rfl)
end Zq238
def Zq239 (size:Int):Option Int:=
 cond (!((8:Int) == 0)) (some (w64 ((w64 ((w64 (size+8))-1)).tdiv 8))) none
namespace Zq239
def pts:List PT:=[.cs I64]
def FS:FS:=mkFS [.sh] pts (fun x=>Zq239 x.1) fun t=>⟨[.cs I64 t],[]⟩
theorem ok:FsOk PR 304 FS:=
 fn_ok tbok hmix Proofs.Tryz.f304 h0 .no (G:=(mkG [])) .nil (L:=mkL []) (l:=[]) hT
  (fun x=>by simp only[Zq239,mC,mB,mS,mO,mN];kernel_rfl)
end Zq239
def Zq240 (b:Int):Option Bool:=
 (Zq211 b 0 19).bind fun r=>some (!r)
namespace Zq240
def G:Gam:=mkG [(109,Zq211.FS)]
def pts:List PT:=[.cs I64]
def FS:FS:=mkFS [.sh] pts (fun x=>Zq240 x.1) fun t=>⟨[.cs .bool t],[]⟩
theorem ok:FsOk PR 305 FS:=
 fn_ok tbok hmix Proofs.Tryz.f305 h0 .no (G:=G) (show GOk PR G from .cons Zq211.ok .nil) (L:=mkL []) (l:=[]) hT
  (fun x=>by simp only[Zq240,mC,mB,mS,mO,mN];kernel_rfl)
end Zq240
def Zq241.B (s_:List Int) (f:Unit) (v:Int) (v2:Int):Option (Int⊕((Int⊕Unit))):=
 cond (decide (v2<v)) (cond (inB v2 s_.length) ((Zq240 (s_.getD v2.toNat 0)).bind fun r=>cond r (some (.inr (.inl v2))) (some (.inl (w64 (v2+1))))) none) (some (.inr (.inr ())))
def Zq241 (s_:List Int) (f:Unit) (v:Int):Int→Option ((Int⊕Unit)):=
 loopL fun s=>Zq241.B s_ f v s
def Zq242 (s_:List Int) (f:Unit):Option Int:=
 (Zq241 s_ f (s_.length:Int) 0).bind fun o=>sel o (fun b=>some b) (fun c=>some (-1))
namespace Zq242
def G:Gam:=mkG [(305,Zq240.FS)]
theorem Gok:GOk PR G:=.cons Zq240.ok .nil
end Zq242
namespace Zq241
def c:=codeAt (bodyOf Proofs.Tryz.f246) [1,0,1,0,0]
def sp:SP:=⟨[(0,.cs SI),(1,.clo 305 (.cs .unit)),(7,.cs I64),(8,.cs I64)],[]⟩
def out (s_:List Int) (f:Unit) (v:Int):FOut ((Int⊕Unit)):=fun o _ k=>sel o (fun b=>k (.rt) ⟨[(4,.cs I64 b)],[]⟩) (fun c=>k (.ex 0) ⟨[],[]⟩)
def fr:=lfrag sp (fun x=>Zq241 x.1.1 x.1.2.1 x.1.2.2.1 x.1.2.2.2.1) fun x=>out x.1.1 x.1.2.1 x.1.2.2.1
theorem ok:CodeOk PR 19 2 (.loop c) fr:=
 lp_ok tbok hmix h0 .no (G:=Zq242.G) Zq242.Gok (L:=mkL []) (l:=[]) hT [0,1,7,8] [] [(0,([],[]))] ([4],[]) (fun x s=>B x.1.1 x.1.2.1 x.1.2.2.1 s) (fun x s=>⟨[(0,.cs SI x.1.1),(1,.clo 305 (.cs .unit x.1.2.1)),(7,.cs I64 x.1.2.2.1),(8,.cs I64 s)],[]⟩) (fun x=>x.1.2.2.2.1)
  (fun x s=>by simp only[B,mC,mB,mS,mO,mN];kernel_rfl)
end Zq241
namespace Zq242
def pts:List PT:=[.cs SI,.clo 305 (.cs .unit)]
def FS:FS:=mkFS [.sh,.sh] pts (fun x=>Zq242 x.1 x.2.1) fun t=>⟨[.cs I64 t],[]⟩
theorem ok:FsOk PR 246 FS:=
 fn_ok tbok hmix Proofs.Tryz.f246 h0 (.R (.L (.R (.one (.fr 0))))) (G:=G) Gok (L:=mkL [(0,Zq241.fr)]) (l:=[(0,.loop Zq241.c)]) ⟨Lam.cons Zq241.ok,trivial⟩
  (fun x=>by simp only[Zq242,mC,mB,mS,mO,mN];kernel_rfl)
end Zq242
def Zq243 (s_:List Int) (f:Unit):Option Bool:=
 (Zq242 s_ f).bind fun r=>some (decide (r≥0))
namespace Zq243
def G:Gam:=mkG [(246,Zq242.FS)]
def pts:List PT:=[.cs SI,.clo 305 (.cs .unit)]
def FS:FS:=mkFS [.sh,.sh] pts (fun x=>Zq243 x.1 x.2.1) fun t=>⟨[.cs .bool t],[]⟩
theorem ok:FsOk PR 195 FS:=
 fn_ok tbok hmix Proofs.Tryz.f195 h0 .no (G:=G) (show GOk PR G from .cons Zq242.ok .nil) (L:=mkL []) (l:=[]) hT
  (fun x=>by simp only[Zq243,mC,mB,mS,mO,mN];kernel_rfl)
end Zq243
def Zq244.B (s_:List Int) (v:Int) (v2:Int) (v3:Int):Option (Int⊕((Int⊕Unit))):=
 cond (decide (v3<v2)) (cond (inB v3 s_.length) (cond (v == (s_.getD v3.toNat 0)) (some (.inr (.inl v3))) (some (.inl (w64 (v3+1))))) none) (some (.inr (.inr ())))
def Zq244 (s_:List Int) (v:Int) (v2:Int):Int→Option ((Int⊕Unit)):=
 loopL fun s=>Zq244.B s_ v v2 s
def Zq245 (s_:List Int) (v:Int):Option Int:=
 (Zq244 s_ v (s_.length:Int) 0).bind fun o=>sel o (fun b=>some b) (fun c=>some (-1))
namespace Zq244
def c:=codeAt (bodyOf Proofs.Tryz.f216) [1,0,1,0,0]
def sp:SP:=⟨[(0,.cs SI),(1,.cs I64),(7,.cs I64),(8,.cs I64)],[]⟩
def out (s_:List Int) (v:Int) (v2:Int):FOut ((Int⊕Unit)):=fun o _ k=>sel o (fun b=>k (.rt) ⟨[(4,.cs I64 b)],[]⟩) (fun c=>k (.ex 0) ⟨[],[]⟩)
def fr:=lfrag sp (fun x=>Zq244 x.1.1 x.1.2.1 x.1.2.2.1 x.1.2.2.2.1) fun x=>out x.1.1 x.1.2.1 x.1.2.2.1
theorem ok:CodeOk PR 19 2 (.loop c) fr:=
 lp_ok tbok hmix h0 .no (G:=(mkG [])) .nil (L:=mkL []) (l:=[]) hT [0,1,7,8] [] [(0,([],[]))] ([4],[]) (fun x s=>B x.1.1 x.1.2.1 x.1.2.2.1 s) (fun x s=>⟨[(0,.cs SI x.1.1),(1,.cs I64 x.1.2.1),(7,.cs I64 x.1.2.2.1),(8,.cs I64 s)],[]⟩) (fun x=>x.1.2.2.2.1)
  (fun x s=>by simp only[B,mC,mB,mS,mO,mN];kernel_rfl)
end Zq244
namespace Zq245
def pts:List PT:=[.cs SI,.cs I64]
def FS:FS:=mkFS [.sh,.sh] pts (fun x=>Zq245 x.1 x.2.1) fun t=>⟨[.cs I64 t],[]⟩
theorem ok:FsOk PR 216 FS:=
 fn_ok tbok hmix Proofs.Tryz.f216 h0 (.R (.L (.R (.one (.fr 0))))) (G:=(mkG [])) .nil (L:=mkL [(0,Zq244.fr)]) (l:=[(0,.loop Zq244.c)]) ⟨Lam.cons Zq244.ok,trivial⟩
  (fun x=>by simp only[Zq245,mC,mB,mS,mO,mN];kernel_rfl)
end Zq245
def Zq8 (s_:List Int) (v:Int):Option Bool:=
 (Zq245 s_ v).bind fun r=>some (decide (r≥0))
namespace Zq8
def G:Gam:=mkG [(216,Zq245.FS)]
def pts:List PT:=[.cs SI,.cs I64]
def FS:FS:=mkFS [.sh,.sh] pts (fun x=>Zq8 x.1 x.2.1) fun t=>⟨[.cs .bool t],[]⟩
theorem ok:FsOk PR 135 FS:=
 fn_ok tbok hmix Proofs.Tryz.f135 h0 .no (G:=G) (show GOk PR G from .cons Zq245.ok .nil) (L:=mkL []) (l:=[]) hT
  (fun x=>by simp only[Zq8,mC,mB,mS,mO,mN];kernel_rfl)
end Zq8
def Zq246.B (x:Inode_) (v:List Int) (v2:Int) (v3:Int):Option (Int⊕((Int⊕Unit))):=
 cond (decide (v3<v2)) (cond (inB v3 v.length) (cond (decide ((0:Int)≤v3)&&decide (v3≤(x.2.2.2.1.length:Int))) ((Zq8 ((x.2.2.2.1.take v3.toNat).drop 0) (v.getD v3.toNat 0)).bind fun r6=>cond r6 (some (.inr (.inl 7))) (some (.inl (w64 (v3+1))))) none) none) (some (.inr (.inr ())))
def Zq246 (x:Inode_) (v:List Int) (v2:Int):Int→Option ((Int⊕Unit)):=
 loopL fun s=>Zq246.B x v v2 s
def Zq247 (x:Inode_):Option Int:=
 (Zq211 x.2.1 1 60).bind fun r=>cond (!r) (some 3) ((Zq211 x.2.2.1 0 32).bind fun r2=>cond (!r2) (some 3) ((Zq21 x.2.2.2.1).bind fun r3=>(Zq239 x.2.2.1).bind fun r4=>cond (r3 != r4) (some 1) ((Zq243 x.2.2.2.1 ()).bind fun r5=>cond r5 (some 3) ((Zq246 x x.2.2.2.1 (x.2.2.2.1.length:Int) 0).bind fun o=>sel o (fun b=>some b) (fun c=>some 0)))))
namespace Zq247
def G:Gam:=mkG [(109,Zq211.FS),(179,Zq21.FS),(304,Zq239.FS),(195,Zq243.FS),(135,Zq8.FS)]
theorem Gok:GOk PR G:=.cons Zq211.ok (.cons Zq21.ok (.cons Zq239.ok (.cons Zq243.ok (.cons Zq8.ok .nil))))
end Zq247
namespace Zq246
def c:=codeAt (bodyOf Proofs.Tryz.f270) [1,1,0,1,0,0]
def sp:SP:=⟨[(1,.pt tInode_),(29,.cs SI),(30,.cs I64),(31,.cs I64)],[]⟩
def out (x:Inode_) (v:List Int) (v2:Int):FOut ((Int⊕Unit)):=fun o _ k=>sel o (fun b=>k (.rt) ⟨[(2,.cs I64 b)],[]⟩) (fun c=>k (.ex 1) ⟨[],[]⟩)
def fr:=lfrag sp (fun x=>Zq246 x.1.1 x.1.2.1 x.1.2.2.1 x.1.2.2.2.1) fun x=>out x.1.1 x.1.2.1 x.1.2.2.1
theorem ok:CodeOk PR 43 1 (.loop c) fr:=
 lp_ok tbok hmix ⟨[1],[],[],0⟩ .no (G:=Zq247.G) Zq247.Gok (L:=mkL []) (l:=[]) hT [1,29,30,31] [] [(1,([],[]))] ([2],[]) (fun x s=>B x.1.1 x.1.2.1 x.1.2.2.1 s) (fun x s=>⟨[(1,.pt tInode_ x.1.1),(29,.cs SI x.1.2.1),(30,.cs I64 x.1.2.2.1),(31,.cs I64 s)],[]⟩) (fun x=>x.1.2.2.2.1)
  (fun x s=>by simp only[B,mC,mB,mS,mO,mN];kernel_rfl)
end Zq246
namespace Zq247
def pts:List PT:=[.cs tInode_]
def FS:FS:=mkFS [.sh] pts (fun x=>Zq247 x.1) fun t=>⟨[.cs I64 t],[]⟩
theorem ok:FsOk PR 270 FS:=
 fn_ok tbok hmix Proofs.Tryz.f270 ⟨[1],[],[],0⟩ (.R (.R (.L (.R (.one (.fr 0)))))) (G:=G) Gok (L:=mkL [(0,Zq246.fr)]) (l:=[(0,.loop Zq246.c)]) ⟨Lam.cons Zq246.ok,trivial⟩
  (fun x=>by simp only[Zq247,mC,mB,mS,mO,mN];kernel_rfl)
end Zq247
def Zq248.B (name:List UInt8) (v:Int) (v2:Int):Option (Int⊕((Int⊕Unit))):=
 cond (decide (v2<v)) (cond (inB v2 name.length) ((some (decide (((name.getD v2.toNat 0).toNat:Int)<97))).bind fun v3=>cond (cond (!v3) (inB v2 name.length) true) ((some (cond v3 true (decide (((name.getD v2.toNat 0).toNat:Int)>122)))).bind fun v4=>cond v4 (some (.inr (.inl 5))) (some (.inl (w64 (v2+1))))) none) none) (some (.inr (.inr ())))
def Zq248 (name:List UInt8) (v:Int):Int→Option ((Int⊕Unit)):=
 loopL fun s=>Zq248.B name v s
def Zq249 (name:List UInt8):Option Int:=
 cond (name == ([]:List UInt8)) (some 5) ((Zq248 name (name.length:Int) 0).bind fun o=>sel o (fun b=>some b) (fun c=>cond (decide ((name.length:Int)>4)) (some 2) (some 0)))
namespace Zq248
def c:=codeAt (bodyOf Proofs.Tryz.f306) [1,1,0,1,0,0]
def sp:SP:=⟨[(0,.cs .str),(7,.cs I64),(8,.cs I64)],[]⟩
def out (name:List UInt8) (v:Int):FOut ((Int⊕Unit)):=fun o _ k=>sel o (fun b=>k (.rt) ⟨[(2,.cs I64 b)],[]⟩) (fun c=>k (.ex 0) ⟨[(0,.cs .str name)],[]⟩)
def fr:=lfrag sp (fun x=>Zq248 x.1.1 x.1.2.1 x.1.2.2.1) fun x=>out x.1.1 x.1.2.1
theorem ok:CodeOk PR 25 1 (.loop c) fr:=
 lp_ok tbok hmix h0 .no (G:=(mkG [])) .nil (L:=mkL []) (l:=[]) hT [0,7,8] [] [(0,([0],[]))] ([2],[]) (fun x s=>B x.1.1 x.1.2.1 s) (fun x s=>⟨[(0,.cs .str x.1.1),(7,.cs I64 x.1.2.1),(8,.cs I64 s)],[]⟩) (fun x=>x.1.2.2.1)
  (fun x s=>by simp only[B,mC,mB,mS,mO,mN];kernel_rfl)
end Zq248
namespace Zq249
def pts:List PT:=[.cs .str]
def FS:FS:=mkFS [.sh] pts (fun x=>Zq249 x.1) fun t=>⟨[.cs I64 t],[]⟩
theorem ok:FsOk PR 306 FS:=
 fn_ok tbok hmix Proofs.Tryz.f306 h0 (.R (.R (.L (.R (.one (.fr 0)))))) (G:=(mkG [])) .nil (L:=mkL [(0,Zq248.fr)]) (l:=[(0,.loop Zq248.c)]) ⟨Lam.cons Zq248.ok,trivial⟩
  (fun x=>by simp only[Zq249,mC,mB,mS,mO,mN];kernel_rfl)
end Zq249
def Zq250.B (x:Inode_) (v:List Entry_) (v2:Int) (v3:Int):Option (Int⊕((Int⊕Unit))):=
 cond (decide (v3<v2)) (cond (inB v3 v.length) ((Zq249 (v.getD v3.toNat zEntry_).1).bind fun r=>cond (r != 0) (some (.inr (.inl r))) ((Zq211 (v.getD v3.toNat zEntry_).2.1 0 9).bind fun r2=>cond (!r2) (some (.inr (.inl 3))) (cond (cond (decide (v3>0)) (inB (w64 (v3-1)) x.2.2.2.2.1.length) true) ((some (cond (decide (v3>0)) (!leB (x.2.2.2.2.1.getD (w64 (v3-1)).toNat zEntry_).1 (v.getD v3.toNat zEntry_).1) false)).bind fun v4=>cond v4 (some (.inr (.inl 1))) (some (.inl (w64 (v3+1))))) none))) none) (some (.inr (.inr ())))
def Zq250 (x:Inode_) (v:List Entry_) (v2:Int):Int→Option ((Int⊕Unit)):=
 loopL fun s=>Zq250.B x v v2 s
def Zq251 (x:Inode_):Option Int:=
 cond (decide ((x.2.2.2.2.1.length:Int)>6)) (some 2) ((Zq250 x x.2.2.2.2.1 (x.2.2.2.2.1.length:Int) 0).bind fun o=>sel o (fun b=>some b) (fun c=>some 0))
namespace Zq251
def G:Gam:=mkG [(306,Zq249.FS),(109,Zq211.FS)]
theorem Gok:GOk PR G:=.cons Zq249.ok (.cons Zq211.ok .nil)
end Zq251
namespace Zq250
def c:=codeAt (bodyOf Proofs.Tryz.f271) [1,1,0,1,0,0]
def sp:SP:=⟨[(1,.pt tInode_),(11,.cs (.sl tEntry_)),(12,.cs I64),(13,.cs I64)],[]⟩
def out (x:Inode_) (v:List Entry_) (v2:Int):FOut ((Int⊕Unit)):=fun o _ k=>sel o (fun b=>k (.rt) ⟨[(2,.cs I64 b)],[]⟩) (fun c=>k (.ex 0) ⟨[],[]⟩)
def fr:=lfrag sp (fun x=>Zq250 x.1.1 x.1.2.1 x.1.2.2.1 x.1.2.2.2.1) fun x=>out x.1.1 x.1.2.1 x.1.2.2.1
theorem ok:CodeOk PR 43 1 (.loop c) fr:=
 lp_ok tbok hmix ⟨[1],[],[],0⟩ .no (G:=Zq251.G) Zq251.Gok (L:=mkL []) (l:=[]) hT [1,11,12,13] [] [(0,([],[]))] ([2],[]) (fun x s=>B x.1.1 x.1.2.1 x.1.2.2.1 s) (fun x s=>⟨[(1,.pt tInode_ x.1.1),(11,.cs (.sl tEntry_) x.1.2.1),(12,.cs I64 x.1.2.2.1),(13,.cs I64 s)],[]⟩) (fun x=>x.1.2.2.2.1)
  (fun x s=>by simp only[B,mC,mB,mS,mO,mN];kernel_rfl)
end Zq250
namespace Zq251
def pts:List PT:=[.cs tInode_]
def FS:FS:=mkFS [.sh] pts (fun x=>Zq251 x.1) fun t=>⟨[.cs I64 t],[]⟩
theorem ok:FsOk PR 271 FS:=
 fn_ok tbok hmix Proofs.Tryz.f271 ⟨[1],[],[],0⟩ (.R (.R (.L (.R (.one (.fr 0)))))) (G:=G) Gok (L:=mkL [(0,Zq250.fr)]) (l:=[(0,.loop Zq250.c)]) ⟨Lam.cons Zq250.ok,trivial⟩
  (fun x=>by simp only[Zq251,mC,mB,mS,mO,mN];kernel_rfl)
end Zq251
def Zq252 (x:Inode_):Option Int:=
 (some (cond (cond (x.2.1 == 0) (x.2.2.1 == 0) false) ((x.2.2.2.1.length:Int) == 0) false)).bind fun v=>(Zq211 x.1 0 2).bind fun r=>cond (!r) (some 1) (cond (cond (x.1 != 1) (!v) false) (some 1) ((some (cond (x.1 != 2) (!((x.2.2.2.2.1.length:Int) == 0)) false)).bind fun v2=>cond v2 (some 1) (cond (x.1 == 1) ((Zq247 x).bind fun r2=>some r2) ((Zq251 x).bind fun r3=>some r3))))
namespace Zq252
def G:Gam:=mkG [(109,Zq211.FS),(270,Zq247.FS),(271,Zq251.FS)]
def pts:List PT:=[.cs tInode_]
def FS:FS:=mkFS [.sh] pts (fun x=>Zq252 x.1) fun t=>⟨[.cs I64 t],[]⟩
theorem ok:FsOk PR 240 FS:=
 fn_ok tbok hmix Proofs.Tryz.f240 ⟨[1],[],[],0⟩ .no (G:=G) (show GOk PR G from .cons Zq211.ok (.cons Zq247.ok (.cons Zq251.ok .nil))) (L:=mkL []) (l:=[]) hT
  (fun x=>by simp only[Zq252,mC,mB,mS,mO,mN];kernel_rfl)
end Zq252
def Zq253 (l:List Entry_):Option Int:=
 some (l.length:Int)
namespace Zq253
def pts:List PT:=[.cs (.sl tEntry_)]
def FS:FS:=mkFS [.sh] pts (fun x=>Zq253 x.1) fun t=>⟨[.cs I64 t],[]⟩
theorem ok:FsOk PR 192 FS:=
 fn_ok tbok hmix Proofs.Tryz.f192 h0 .no (G:=(mkG [])) .nil (L:=mkL []) (l:=[]) hT
  (fun x=>by simp only[Zq253,mC,mB,mS,mO,mN];kernel_rfl)
end Zq253
def Zq254.B (v:List Entry_) (v2:Int) (v3:Int) (v5:Int) (e_:Entry_) (v6:Int) (words_2:List Int):Option ((Int×List Int)⊕(List Int)):=
 cond (decide (v6<v5)) (cond (inB v6 e_.1.length) ((some (words_2++([w64 (((e_.1.getD v6.toNat 0).toNat:Int))]))).bind fun v7=>cond (decide (v7.length≤2147483648)) (some (.inl (w64 (v6+1),v7))) none) none) (some (.inr words_2))
def Zq254 (v:List Entry_) (v2:Int) (v3:Int) (v5:Int) (e_:Entry_):(Int×List Int)→Option (List Int):=
 loopL fun s=>Zq254.B v v2 v3 v5 e_ s.1 s.2
def Zq255.B (v:List Entry_) (v2:Int) (v3:Int) (words_:List Int):Option ((Int×List Int)⊕(List Int)):=
 cond (decide (v3<v2)) (cond (inB v3 v.length) ((some (words_++([(v.getD v3.toNat zEntry_).2.1,((v.getD v3.toNat zEntry_).1.length:Int)]))).bind fun v4=>cond (decide (v4.length≤2147483648)) ((Zq254 v v2 v3 ((v.getD v3.toNat zEntry_).1.length:Int) (v.getD v3.toNat zEntry_) (0,v4)).bind fun o=>some (.inl (w64 (v3+1),o))) none) none) (some (.inr words_))
def Zq255 (v:List Entry_) (v2:Int):(Int×List Int)→Option (List Int):=
 loopL fun s=>Zq255.B v v2 s.1 s.2
def Zq256 (x:Inode_):Option (List Int):=
 cond (decide ((([x.1,x.2.1,x.2.2.1])++x.2.2.2.1).length≤2147483648)) (cond (x.1 != 2) (some (([x.1,x.2.1,x.2.2.1])++x.2.2.2.1)) ((Zq253 x.2.2.2.2.1).bind fun r=>cond (decide (((([x.1,x.2.1,x.2.2.1])++x.2.2.2.1)++([r])).length≤2147483648)) ((Zq255 x.2.2.2.2.1 (x.2.2.2.2.1.length:Int) (0,(([x.1,x.2.1,x.2.2.1])++x.2.2.2.1)++([r]))).bind fun o2=>some o2) none)) none
namespace Zq256
def G:Gam:=mkG [(192,Zq253.FS)]
theorem Gok:GOk PR G:=.cons Zq253.ok .nil
end Zq256
namespace Zq254
def c:=codeAt (bodyOf Proofs.Tryz.f105) [1,1,1,1,0,1,0,0,1,1,0,0,1,1,1,0,0]
def sp:SP:=⟨[(3,.seg 3 []),(5,.loc 5 []),(28,.cs (.sl tEntry_)),(29,.cs I64),(30,.cs I64),(44,.cs I64),(45,.cs I64)],[(3,.reg,.cd SI),(5,.mem,.cd tEntry_)]⟩
def out (v:List Entry_) (v2:Int) (v3:Int) (v5:Int) (e_:Entry_):FOut (List Int):=fun b _ k=>k (.ex 2) ⟨[(3,.seg 3 []),(28,.cs (.sl tEntry_) v),(29,.cs I64 v2),(30,.cs I64 v3)],[sr 3 (.cd SI b)]⟩
def fr:=lfrag sp (fun x=>Zq254 x.1.2.2.1 x.1.2.2.2.1 x.1.2.2.2.2.1 x.1.2.2.2.2.2.1 x.2.2.1 (x.1.2.2.2.2.2.2.1,x.2.1)) fun x=>out x.1.2.2.1 x.1.2.2.2.1 x.1.2.2.2.2.1 x.1.2.2.2.2.2.1 x.2.2.1
theorem ok:CodeOk PR 59 1 (.loop c) fr:=
 lp_ok tbok hmix ⟨[1],[],[],0⟩ .no (G:=Zq256.G) Zq256.Gok (L:=mkL []) (l:=[]) hT [3,5,28,29,30,44,45] [3,5] [(2,([3,28,29,30],[3]))] ([],[]) (fun x s=>B x.1.2.2.1 x.1.2.2.2.1 x.1.2.2.2.2.1 x.1.2.2.2.2.2.1 x.2.2.1 s.1 s.2) (fun x s=>⟨[(3,.seg 3 []),(5,.loc 5 []),(28,.cs (.sl tEntry_) x.1.2.2.1),(29,.cs I64 x.1.2.2.2.1),(30,.cs I64 x.1.2.2.2.2.1),(44,.cs I64 x.1.2.2.2.2.2.1),(45,.cs I64 s.1)],[sr 3 (.cd SI s.2),(5,some ⟨.mem,.cd tEntry_ x.2.2.1⟩)]⟩) (fun x=>(x.1.2.2.2.2.2.2.1,x.2.1))
  (fun x s=>by simp only[B,mC,mB,mS,mO,mN];kernel_rfl)
end Zq254
namespace Zq255
def c:=codeAt (bodyOf Proofs.Tryz.f105) [1,1,1,1,0,1,0,0]
def sp:SP:=⟨[(3,.seg 3 []),(28,.cs (.sl tEntry_)),(29,.cs I64),(30,.cs I64)],[(3,.reg,.cd SI)]⟩
def out (v:List Entry_) (v2:Int):FOut (List Int):=fun b _ k=>k (.ex 0) ⟨[(3,.seg 3 [])],[sr 3 (.cd SI b)]⟩
def fr:=lfrag sp (fun x=>Zq255 x.1.2.1 x.1.2.2.1 (x.1.2.2.2.1,x.2.1)) fun x=>out x.1.2.1 x.1.2.2.1
theorem ok:CodeOk PR 59 1 (.loop c) fr:=
 lp_ok tbok hmix ⟨[1],[],[],0⟩ (.R (.R (.L (.one (.R (.R (.R (.one (.fr 1))))))))) (G:=Zq256.G) Zq256.Gok (L:=mkL [(1,Zq254.fr)]) (l:=[(1,.loop Zq254.c)]) ⟨Lam.cons Zq254.ok,trivial⟩ [3,28,29,30] [3] [(0,([3],[3]))] ([],[]) (fun x s=>B x.1.2.1 x.1.2.2.1 s.1 s.2) (fun x s=>⟨[(3,.seg 3 []),(28,.cs (.sl tEntry_) x.1.2.1),(29,.cs I64 x.1.2.2.1),(30,.cs I64 s.1)],[sr 3 (.cd SI s.2)]⟩) (fun x=>(x.1.2.2.2.1,x.2.1))
  (fun x s=>by simp only[B,mC,mB,mS,mO,mN];kernel_rfl)
end Zq255
namespace Zq256
def pts:List PT:=[.cs tInode_]
def FS:FS:=mkFS [.sh] pts (fun x=>Zq256 x.1) fun t=>⟨[.cd SI t],[]⟩
theorem ok:FsOk PR 105 FS:=
 fn_ok tbok hmix Proofs.Tryz.f105 ⟨[1],[],[],0⟩ (.R (.R (.R (.R (.L (.R (.one (.fr 0)))))))) (G:=G) Gok (L:=mkL [(1,Zq254.fr),(0,Zq255.fr)]) (l:=[(0,.loop Zq255.c)]) ⟨Lam.skip rfl (Lam.cons Zq255.ok),trivial⟩
  (fun x=>by simp only[Zq256,mC,mB,mS,mO,mN];kernel_rfl)
end Zq256
def Zq18 (words:List Int):Option (Inode_×Int):=
 (Zq216 words).bind fun r=>cond (cond (r != 0) true ((words.length:Int) == 0)) (some ((0,0,0,[],[],()),r)) ((Zq238 words).bind fun r2=>cond (!r2.2) (some ((0,0,0,[],[],()),5)) ((Zq252 (r2.1.1,r2.1.2.1,r2.1.2.2.1,r2.1.2.2.2.1,r2.1.2.2.2.2.1,r2.1.2.2.2.2.2)).bind fun r3=>cond (r3 != 0) (some ((0,0,0,[],[],()),5)) ((Zq256 (r2.1.1,r2.1.2.1,r2.1.2.2.1,r2.1.2.2.2.1,r2.1.2.2.2.2.1,r2.1.2.2.2.2.2)).bind fun r4=>(Zq227 r4 words).bind fun r5=>cond (!r5) (some ((0,0,0,[],[],()),5)) (some ((r2.1.1,r2.1.2.1,r2.1.2.2.1,r2.1.2.2.2.1,r2.1.2.2.2.2.1,r2.1.2.2.2.2.2),0)))))
namespace Zq18
def G:Gam:=mkG [(114,Zq216.FS),(247,Zq238.FS),(240,Zq252.FS),(105,Zq256.FS),(185,Zq227.FS)]
def pts:List PT:=[.cs SI]
def FS:FS:=mkFS [.sh] pts (fun x=>Zq18 x.1) fun t=>⟨[.cd tInode_ t.1,.cs I64 t.2],[]⟩
theorem ok:FsOk PR 197 FS:=
 fn_ok tbok hmix Proofs.Tryz.f197 h0 .no (G:=G) (show GOk PR G from .cons Zq216.ok (.cons Zq238.ok (.cons Zq252.ok (.cons Zq256.ok (.cons Zq227.ok .nil))))) (L:=mkL []) (l:=[]) hT
  (fun x=>by simp only[Zq18,mC,mB,mS,mO,mN];kernel_rfl)
end Zq18
def Zq257.B (list:List Inode_) (v:Int) (v2:Int):Option (Int⊕((Int⊕Unit))):=
 cond (decide (v2<v)) (cond (inB v2 list.length) ((Zq252 (list.getD v2.toNat zInode_)).bind fun r=>cond (r != 0) (some (.inr (.inl r))) (some (.inl (w64 (v2+1))))) none) (some (.inr (.inr ())))
def Zq257 (list:List Inode_) (v:Int):Int→Option ((Int⊕Unit)):=
 loopL fun s=>Zq257.B list v s
def Zq258 (list:List Inode_):Option Int:=
 cond (decide ((list.length:Int)>10)) (some 2) ((Zq257 list (list.length:Int) 0).bind fun o=>sel o (fun b=>some b) (fun c=>some 0))
namespace Zq258
def G:Gam:=mkG [(240,Zq252.FS)]
theorem Gok:GOk PR G:=.cons Zq252.ok .nil
end Zq258
namespace Zq257
def c:=codeAt (bodyOf Proofs.Tryz.f174) [1,1,0,1,0,0]
def sp:SP:=⟨[(9,.cs (.sl tInode_)),(10,.cs I64),(11,.cs I64)],[]⟩
def out (list:List Inode_) (v:Int):FOut ((Int⊕Unit)):=fun o _ k=>sel o (fun b=>k (.rt) ⟨[(2,.cs I64 b)],[]⟩) (fun c=>k (.ex 0) ⟨[],[]⟩)
def fr:=lfrag sp (fun x=>Zq257 x.1.1 x.1.2.1 x.1.2.2.1) fun x=>out x.1.1 x.1.2.1
theorem ok:CodeOk PR 21 1 (.loop c) fr:=
 lp_ok tbok hmix h0 .no (G:=Zq258.G) Zq258.Gok (L:=mkL []) (l:=[]) hT [9,10,11] [] [(0,([],[]))] ([2],[]) (fun x s=>B x.1.1 x.1.2.1 s) (fun x s=>⟨[(9,.cs (.sl tInode_) x.1.1),(10,.cs I64 x.1.2.1),(11,.cs I64 s)],[]⟩) (fun x=>x.1.2.2.1)
  (fun x s=>by simp only[B,mC,mB,mS,mO,mN];kernel_rfl)
end Zq257
namespace Zq258
def pts:List PT:=[.cs (.sl tInode_)]
def FS:FS:=mkFS [.sh] pts (fun x=>Zq258 x.1) fun t=>⟨[.cs I64 t],[]⟩
theorem ok:FsOk PR 174 FS:=
 fn_ok tbok hmix Proofs.Tryz.f174 h0 (.R (.R (.L (.R (.one (.fr 0)))))) (G:=G) Gok (L:=mkL [(0,Zq257.fr)]) (l:=[(0,.loop Zq257.c)]) ⟨Lam.cons Zq257.ok,trivial⟩
  (fun x=>by simp only[Zq258,mC,mB,mS,mO,mN];kernel_rfl)
end Zq258
def Zq259 (f:Fs_):Option Int:=
 (Zq258 f.1).bind fun r=>cond (r != 0) (some r) (cond (cond (!((f.1.length:Int) == 0)) (inB 0 f.1.length) true) ((some (cond ((f.1.length:Int) == 0) true ((f.1.getD (0:Int).toNat zInode_).1 != 2))).bind fun v=>cond (cond v true ((f.2.1.length:Int) != 20)) (some 1) (some 0)) none)
namespace Zq259
def G:Gam:=mkG [(174,Zq258.FS)]
def pts:List PT:=[.cs tFs_]
def FS:FS:=mkFS [.sh] pts (fun x=>Zq259 x.1) fun t=>⟨[.cs I64 t],[]⟩
theorem ok:FsOk PR 85 FS:=
 fn_ok tbok hmix Proofs.Tryz.f85 ⟨[1],[],[],0⟩ .no (G:=G) (show GOk PR G from .cons Zq258.ok .nil) (L:=mkL []) (l:=[]) hT
  (fun x=>by simp only[Zq259,mC,mB,mS,mO,mN];kernel_rfl)
end Zq259
def Zq260 (b:List Int):Option Bool:=
 some (decide ((b.length:Int)>8))
namespace Zq260
def pts:List PT:=[.cs SB]
def FS:FS:=mkFS [.sh] pts (fun x=>Zq260 x.1) fun t=>⟨[.cs .bool t],[]⟩
theorem ok:FsOk PR 229 FS:=
 fn_ok tbok hmix Proofs.Tryz.f229 h0 .no (G:=(mkG [])) .nil (L:=mkL []) (l:=[]) hT
  (fun x=>by simp only[Zq260,mC,mB,mS,mO,mN];kernel_rfl)
end Zq260
def Zq261.B (s_:List (List Int)) (f:Unit) (v:Int) (v2:Int):Option (Int⊕((Int⊕Unit))):=
 cond (decide (v2<v)) (cond (inB v2 s_.length) ((Zq260 (s_.getD v2.toNat [])).bind fun r=>cond r (some (.inr (.inl v2))) (some (.inl (w64 (v2+1))))) none) (some (.inr (.inr ())))
def Zq261 (s_:List (List Int)) (f:Unit) (v:Int):Int→Option ((Int⊕Unit)):=
 loopL fun s=>Zq261.B s_ f v s
def Zq262 (s_:List (List Int)) (f:Unit):Option Int:=
 (Zq261 s_ f (s_.length:Int) 0).bind fun o=>sel o (fun b=>some b) (fun c=>some (-1))
namespace Zq262
def G:Gam:=mkG [(229,Zq260.FS)]
theorem Gok:GOk PR G:=.cons Zq260.ok .nil
end Zq262
namespace Zq261
def c:=codeAt (bodyOf Proofs.Tryz.f260) [1,0,1,0,0]
def sp:SP:=⟨[(0,.cs (.sl SB)),(1,.clo 229 (.cs .unit)),(7,.cs I64),(8,.cs I64)],[]⟩
def out (s_:List (List Int)) (f:Unit) (v:Int):FOut ((Int⊕Unit)):=fun o _ k=>sel o (fun b=>k (.rt) ⟨[(4,.cs I64 b)],[]⟩) (fun c=>k (.ex 0) ⟨[],[]⟩)
def fr:=lfrag sp (fun x=>Zq261 x.1.1 x.1.2.1 x.1.2.2.1 x.1.2.2.2.1) fun x=>out x.1.1 x.1.2.1 x.1.2.2.1
theorem ok:CodeOk PR 19 2 (.loop c) fr:=
 lp_ok tbok hmix h0 .no (G:=Zq262.G) Zq262.Gok (L:=mkL []) (l:=[]) hT [0,1,7,8] [] [(0,([],[]))] ([4],[]) (fun x s=>B x.1.1 x.1.2.1 x.1.2.2.1 s) (fun x s=>⟨[(0,.cs (.sl SB) x.1.1),(1,.clo 229 (.cs .unit x.1.2.1)),(7,.cs I64 x.1.2.2.1),(8,.cs I64 s)],[]⟩) (fun x=>x.1.2.2.2.1)
  (fun x s=>by simp only[B,mC,mB,mS,mO,mN];kernel_rfl)
end Zq261
namespace Zq262
def pts:List PT:=[.cs (.sl SB),.clo 229 (.cs .unit)]
def FS:FS:=mkFS [.sh,.sh] pts (fun x=>Zq262 x.1 x.2.1) fun t=>⟨[.cs I64 t],[]⟩
theorem ok:FsOk PR 260 FS:=
 fn_ok tbok hmix Proofs.Tryz.f260 h0 (.R (.L (.R (.one (.fr 0))))) (G:=G) Gok (L:=mkL [(0,Zq261.fr)]) (l:=[(0,.loop Zq261.c)]) ⟨Lam.cons Zq261.ok,trivial⟩
  (fun x=>by simp only[Zq262,mC,mB,mS,mO,mN];kernel_rfl)
end Zq262
def Zq263 (s_:List (List Int)) (f:Unit):Option Bool:=
 (Zq262 s_ f).bind fun r=>some (decide (r≥0))
namespace Zq263
def G:Gam:=mkG [(260,Zq262.FS)]
def pts:List PT:=[.cs (.sl SB),.clo 229 (.cs .unit)]
def FS:FS:=mkFS [.sh,.sh] pts (fun x=>Zq263 x.1 x.2.1) fun t=>⟨[.cs .bool t],[]⟩
theorem ok:FsOk PR 228 FS:=
 fn_ok tbok hmix Proofs.Tryz.f228 h0 .no (G:=G) (show GOk PR G from .cons Zq262.ok .nil) (L:=mkL []) (l:=[]) hT
  (fun x=>by simp only[Zq263,mC,mB,mS,mO,mN];kernel_rfl)
end Zq263
noncomputable def Zq264 (s:List Int):Option (List Int):=sortP s
def Zq264.FS:FS:=mkFS [.mu] [.cl .deep (.sl (.int .i64))] (fun x=>Zq264 x.1) fun y=>⟨[],[.cl .deep (.sl (.int .i64)) y]⟩
theorem Zq264.ok:FsOk Go.Proofs.Tryz.prog 190 Zq264.FS:=
 sort_fs ⟨Go.Proofs.Tryz.f190,by kernel_rfl,by kernel_rfl,by kernel_rfl⟩ (fun blk off cap zs w h1 h2 h3=>Go.Proofs.AnyM.slices_Sort_int Go.Proofs.Tryz.sortLay blk off cap zs w h1 h2 h3) (fun p cap w=>Go.Proofs.AnyM.slices_Sort_int_none Go.Proofs.Tryz.sortLay p cap w)
def Zq265.B (s2_:Nat) (s2_2:Nat) (k_2:Int) (k2_:Int) (s_2:List Int):Option ((Int×Int×List Int)⊕(Int×List Int)):=
 cond (decide (k2_<(s2_2:Int))) (cond (inB k2_ s2_2) (cond (inB (w64 (k2_-1)) s2_2) ((some ((s_2.getD (s2_+k2_.toNat) 0) != (s_2.getD (s2_+(w64 (k2_-1)).toNat) 0))).bind fun v2=>cond v2 (cond (inB k2_ s2_2) (cond (inB k_2 s_2.length) (some (.inl (w64 (k_2+1),w64 (k2_+1),s_2.set k_2.toNat (s_2.getD (s2_+k2_.toNat) 0)))) none) none) (some (.inl (k_2,w64 (k2_+1),s_2)))) none) none) (some (.inr (k_2,s_2)))
def Zq265 (s2_:Nat) (s2_2:Nat):(Int×Int×List Int)→Option (Int×List Int):=
 loopL fun s=>Zq265.B s2_ s2_2 s.1 s.2.1 s.2.2
def Zq266.B (s_:List Int) (k_:Int):Option (Int⊕(((Nat×Nat×List Int)⊕Unit))):=
 cond (decide (k_<(s_.length:Int))) (cond (inB k_ s_.length) (cond (inB (w64 (k_-1)) s_.length) ((some ((s_.getD k_.toNat 0) == (s_.getD ((w64 (k_-1)).toNat) 0))).bind fun v=>cond v (cond (decide ((0:Int)≤k_)&&decide (k_≤(s_.length:Int))) ((Zq265 k_.toNat (s_.length-k_.toNat) (k_,1,s_)).bind fun o=>cond (decide ((0:Int)≤o.1)&&decide (o.1≤(o.2.length:Int))) ((some (splice o.2 o.1.toNat (List.replicate (o.2.length-o.1.toNat) 0))).bind fun s_3=>cond (decide ((0:Int)≤o.1)&&decide (o.1≤(s_3.length:Int))) (some (.inr (.inl (0,o.1.toNat-0,s_3)))) none) none) none) (some (.inl (w64 (k_+1))))) none) none) (some (.inr (.inr ())))
def Zq266 (s_:List Int):Int→Option (((Nat×Nat×List Int)⊕Unit)):=
 loopL fun s=>Zq266.B s_ s
def Zq267 (s_:List Int):Option (List Int):=
 cond (decide ((s_.length:Int)<2)) (some s_) ((Zq266 s_ 1).bind fun o2=>sel o2 (fun b=>some ((b.2.2.drop b.1).take b.2.1)) (fun c=>some s_))
namespace Zq265
def c:=codeAt (bodyOf Proofs.Tryz.f191) [1,1,0,1,0,0,1,0,0,1,0,1,0,1,0,0]
def sp:SP:=⟨[(0,.seg 0 []),(3,.cs I64),(4,.sub 0 []),(5,.cs I64)],[(0,.reg,.cd SI)]⟩
def out (s2_:Nat) (s2_2:Nat):FOut (Int×List Int):=fun b _ k=>k (.ex 2) ⟨[(0,.seg 0 []),(3,.cs I64 b.1)],[sr 0 (.cd SI b.2)]⟩
def fr:=lfrag sp (fun x=>Zq265 x.1.2.2.1.2.1 x.1.2.2.1.2.2 (x.1.2.1,x.1.2.2.2.1,x.2.1)) fun x=>out x.1.2.2.1.2.1 x.1.2.2.1.2.2
theorem ok:CodeOk PR 61 1 (.loop c) fr:=
 lp_ok tbok hmix h0 .no (G:=(mkG [])) .nil (L:=mkL []) (l:=[]) hT [0,3,4,5] [0] [(2,([0,3],[0]))] ([],[]) (fun x s=>B x.1.2.2.1.2.1 x.1.2.2.1.2.2 s.1 s.2.1 s.2.2) (fun x s=>⟨[(0,.seg 0 []),(3,.cs I64 s.1),(4,.sub 0 [] x.1.2.2.1.2.1 x.1.2.2.1.2.2),(5,.cs I64 s.2.1)],[sr 0 (.cd SI s.2.2)]⟩) (fun x=>(x.1.2.1,x.1.2.2.2.1,x.2.1))
  (fun x s=>by simp only[B,mC,mB,mS,mO,mN];kernel_rfl)
end Zq265
namespace Zq266
def c:=codeAt (bodyOf Proofs.Tryz.f191) [1,1,0,1,0,0]
def sp:SP:=⟨[(0,.seg 0 []),(3,.cs I64)],[(0,.reg,.cd SI)]⟩
def out (s_:List Int):FOut (((Nat×Nat×List Int)⊕Unit)):=fun o _ k=>sel o (fun b=>k (.rt) ⟨[(2,.sub 0 [] b.1 b.2.1)],[sr 0 (.cd SI b.2.2)]⟩) (fun c=>k (.ex 0) ⟨[(0,.seg 0 [])],[sr 0 (.cd SI s_)]⟩)
def fr:=lfrag sp (fun x=>Zq266 x.2.1 x.1.2.1) fun x=>out x.2.1
theorem ok:CodeOk PR 61 1 (.loop c) fr:=
 lp_ok tbok hmix h0 (.R (.L (.one (.R (.L (.R (.L (.R (.one (.fr 1)))))))))) (G:=(mkG [])) .nil (L:=mkL [(1,Zq265.fr)]) (l:=[(1,.loop Zq265.c)]) ⟨Lam.cons Zq265.ok,trivial⟩ [0,3] [0] [(0,([0],[0]))] ([2],[0]) (fun x s=>B x.2.1 s) (fun x s=>⟨[(0,.seg 0 []),(3,.cs I64 s)],[sr 0 (.cd SI x.2.1)]⟩) (fun x=>x.1.2.1)
  (fun x s=>by simp only[B,mC,mB,mS,mO,mN];kernel_rfl)
end Zq266
namespace Zq267
def pts:List PT:=[.cd SI]
def FS:FS:=mkFS [.mv] pts (fun x=>Zq267 x.1) fun t=>⟨[.cd SI t],[]⟩
theorem ok:FsOk PR 191 FS:=
 fn_ok tbok hmix Proofs.Tryz.f191 h0 (.R (.R (.L (.R (.one (.fr 0)))))) (G:=(mkG [])) .nil (L:=mkL [(1,Zq265.fr),(0,Zq266.fr)]) (l:=[(0,.loop Zq266.c)]) ⟨Lam.skip rfl (Lam.cons Zq266.ok),trivial⟩
  (fun x=>by simp only[Zq267,mC,mB,mS,mO,mN];kernel_rfl)
end Zq267
def Zq268.B (list:List Inode_) (v:Int) (v2:Int) (used_:List Int):Option ((Int×List Int)⊕(List Int)):=
 cond (decide (v2<v)) (cond (inB v2 list.length) ((some (used_++(list.getD v2.toNat zInode_).2.2.2.1)).bind fun v3=>cond (decide (v3.length≤2147483648)) (some (.inl (w64 (v2+1),v3))) none) none) (some (.inr used_))
def Zq268 (list:List Inode_) (v:Int):(Int×List Int)→Option (List Int):=
 loopL fun s=>Zq268.B list v s.1 s.2
def Zq269 (list:List Inode_):Option ((List Int)×Bool):=
 (Zq268 list (list.length:Int) (0,[])).bind fun o=>(Zq264 o).bind fun r=>(Zq29 r).bind fun r2=>(Zq267 r2).bind fun r3=>some (r,(r3.length:Int) == (r.length:Int))
namespace Zq269
def G:Gam:=mkG [(190,Zq264.FS),(160,Zq29.FS),(191,Zq267.FS)]
theorem Gok:GOk PR G:=.cons Zq264.ok (.cons Zq29.ok (.cons Zq267.ok .nil))
end Zq269
namespace Zq268
def c:=codeAt (bodyOf Proofs.Tryz.f102) [1,1,0,1,0,0]
def sp:SP:=⟨[(4,.seg 4 []),(7,.cs (.sl tInode_)),(8,.cs I64),(9,.cs I64)],[(4,.reg,.cd SI)]⟩
def out (list:List Inode_) (v:Int):FOut (List Int):=fun b _ k=>k (.ex 0) ⟨[(4,.seg 4 [])],[sr 4 (.cd SI b)]⟩
def fr:=lfrag sp (fun x=>Zq268 x.1.2.1 x.1.2.2.1 (x.1.2.2.2.1,x.2.1)) fun x=>out x.1.2.1 x.1.2.2.1
theorem ok:CodeOk PR 28 1 (.loop c) fr:=
 lp_ok tbok hmix h0 .no (G:=Zq269.G) Zq269.Gok (L:=mkL []) (l:=[]) hT [4,7,8,9] [4] [(0,([4],[4]))] ([],[]) (fun x s=>B x.1.2.1 x.1.2.2.1 s.1 s.2) (fun x s=>⟨[(4,.seg 4 []),(7,.cs (.sl tInode_) x.1.2.1),(8,.cs I64 x.1.2.2.1),(9,.cs I64 s.1)],[sr 4 (.cd SI s.2)]⟩) (fun x=>(x.1.2.2.2.1,x.2.1))
  (fun x s=>by simp only[B,mC,mB,mS,mO,mN];kernel_rfl)
end Zq268
namespace Zq269
def pts:List PT:=[.cs (.sl tInode_)]
def FS:FS:=mkFS [.sh] pts (fun x=>Zq269 x.1) fun t=>⟨[.cd SI t.1,.cs .bool t.2],[]⟩
theorem ok:FsOk PR 102 FS:=
 fn_ok tbok hmix Proofs.Tryz.f102 h0 (.R (.R (.L (.R (.one (.fr 0)))))) (G:=G) Gok (L:=mkL [(0,Zq268.fr)]) (l:=[(0,.loop Zq268.c)]) ⟨Lam.cons Zq268.ok,trivial⟩
  (fun x=>by simp only[Zq269,mC,mB,mS,mO,mN];kernel_rfl)
end Zq269
def Zq270 (l:List Inode_):Option Int:=
 some (l.length:Int)
namespace Zq270
def pts:List PT:=[.cs (.sl tInode_)]
def FS:FS:=mkFS [.sh] pts (fun x=>Zq270 x.1) fun t=>⟨[.cs I64 t],[]⟩
theorem ok:FsOk PR 188 FS:=
 fn_ok tbok hmix Proofs.Tryz.f188 h0 .no (G:=(mkG [])) .nil (L:=mkL []) (l:=[]) hT
  (fun x=>by simp only[Zq270,mC,mB,mS,mO,mN];kernel_rfl)
end Zq270
def Zq271.B (f:Fs_) (v:List Inode_) (v2:Int) (v3:Int) (v5:List Entry_) (v4:Int) (v6:Int):Option (Int⊕((Int⊕Unit))):=
 cond (decide (v6<v4)) (cond (inB v6 v5.length) ((Zq270 f.1).bind fun r4=>cond (cond (!(decide ((v5.getD v6.toNat zEntry_).2.1≥r4))) (inB (v5.getD v6.toNat zEntry_).2.1 f.1.length) true) ((some (cond (decide ((v5.getD v6.toNat zEntry_).2.1≥r4)) true ((f.1.getD (v5.getD v6.toNat zEntry_).2.1.toNat zInode_).1 == 0))).bind fun v7=>cond v7 (some (.inr (.inl 4))) (some (.inl (w64 (v6+1))))) none) none) (some (.inr (.inr ())))
def Zq271 (f:Fs_) (v:List Inode_) (v2:Int) (v3:Int) (v5:List Entry_) (v4:Int):Int→Option ((Int⊕Unit)):=
 loopL fun s=>Zq271.B f v v2 v3 v5 v4 s
def Zq272.B (f:Fs_) (v:List Inode_) (v2:Int) (v3:Int):Option (Int⊕((Int⊕Unit))):=
 cond (decide (v3<v2)) (cond (inB v3 v.length) ((some ((v.getD v3.toNat zInode_).2.2.2.2.1.length:Int)).bind fun v4=>(Zq271 f v v2 v3 (v.getD v3.toNat zInode_).2.2.2.2.1 v4 0).bind fun o=>sel o (fun b=>some (.inr (.inl b))) (fun c=>some (.inl (w64 (v3+1))))) none) (some (.inr (.inr ())))
def Zq272 (f:Fs_) (v:List Inode_) (v2:Int):Int→Option ((Int⊕Unit)):=
 loopL fun s=>Zq272.B f v v2 s
def Zq15 (f:Fs_):Option Int:=
 (Zq259 f).bind fun r=>cond (r != 0) (some r) ((Zq263 f.2.1 ()).bind fun r2=>cond r2 (some 2) ((Zq269 f.1).bind fun r3=>cond (!r3.2) (some 7) ((Zq272 f f.1 (f.1.length:Int) 0).bind fun o2=>sel o2 (fun b2=>some b2) (fun c2=>some 0))))
namespace Zq15
def G:Gam:=mkG [(85,Zq259.FS),(228,Zq263.FS),(102,Zq269.FS),(188,Zq270.FS)]
theorem Gok:GOk PR G:=.cons Zq259.ok (.cons Zq263.ok (.cons Zq269.ok (.cons Zq270.ok .nil)))
end Zq15
namespace Zq271
def c:=codeAt (bodyOf Proofs.Tryz.f156) [1,1,1,1,0,1,0,0,1,1,0,0,1,1,0,0]
def sp:SP:=⟨[(1,.pt tFs_),(27,.cs (.sl tInode_)),(28,.cs I64),(29,.cs I64),(34,.cs (.sl tEntry_)),(35,.cs I64),(36,.cs I64)],[]⟩
def out (f:Fs_) (v:List Inode_) (v2:Int) (v3:Int) (v5:List Entry_) (v4:Int):FOut ((Int⊕Unit)):=fun o _ k=>sel o (fun b=>k (.rt) ⟨[(2,.cs I64 b)],[]⟩) (fun c=>k (.ex 2) ⟨[(1,.pt tFs_ f),(27,.cs (.sl tInode_) v),(28,.cs I64 v2),(29,.cs I64 v3)],[]⟩)
def fr:=lfrag sp (fun x=>Zq271 x.1.1 x.1.2.1 x.1.2.2.1 x.1.2.2.2.1 x.1.2.2.2.2.1 x.1.2.2.2.2.2.1 x.1.2.2.2.2.2.2.1) fun x=>out x.1.1 x.1.2.1 x.1.2.2.1 x.1.2.2.2.1 x.1.2.2.2.2.1 x.1.2.2.2.2.2.1
theorem ok:CodeOk PR 58 1 (.loop c) fr:=
 lp_ok tbok hmix ⟨[1],[],[],0⟩ .no (G:=Zq15.G) Zq15.Gok (L:=mkL []) (l:=[]) hT [1,27,28,29,34,35,36] [] [(2,([1,27,28,29],[]))] ([2],[]) (fun x s=>B x.1.1 x.1.2.1 x.1.2.2.1 x.1.2.2.2.1 x.1.2.2.2.2.1 x.1.2.2.2.2.2.1 s) (fun x s=>⟨[(1,.pt tFs_ x.1.1),(27,.cs (.sl tInode_) x.1.2.1),(28,.cs I64 x.1.2.2.1),(29,.cs I64 x.1.2.2.2.1),(34,.cs (.sl tEntry_) x.1.2.2.2.2.1),(35,.cs I64 x.1.2.2.2.2.2.1),(36,.cs I64 s)],[]⟩) (fun x=>x.1.2.2.2.2.2.2.1)
  (fun x s=>by simp only[B,mC,mB,mS,mO,mN];kernel_rfl)
end Zq271
namespace Zq272
def c:=codeAt (bodyOf Proofs.Tryz.f156) [1,1,1,1,0,1,0,0]
def sp:SP:=⟨[(1,.pt tFs_),(27,.cs (.sl tInode_)),(28,.cs I64),(29,.cs I64)],[]⟩
def out (f:Fs_) (v:List Inode_) (v2:Int):FOut ((Int⊕Unit)):=fun o _ k=>sel o (fun b=>k (.rt) ⟨[(2,.cs I64 b)],[]⟩) (fun c=>k (.ex 0) ⟨[],[]⟩)
def fr:=lfrag sp (fun x=>Zq272 x.1.1 x.1.2.1 x.1.2.2.1 x.1.2.2.2.1) fun x=>out x.1.1 x.1.2.1 x.1.2.2.1
theorem ok:CodeOk PR 58 1 (.loop c) fr:=
 lp_ok tbok hmix ⟨[1],[],[],0⟩ (.R (.R (.L (.one (.R (.R (.one (.fr 1)))))))) (G:=Zq15.G) Zq15.Gok (L:=mkL [(1,Zq271.fr)]) (l:=[(1,.loop Zq271.c)]) ⟨Lam.cons Zq271.ok,trivial⟩ [1,27,28,29] [] [(0,([],[]))] ([2],[]) (fun x s=>B x.1.1 x.1.2.1 x.1.2.2.1 s) (fun x s=>⟨[(1,.pt tFs_ x.1.1),(27,.cs (.sl tInode_) x.1.2.1),(28,.cs I64 x.1.2.2.1),(29,.cs I64 s)],[]⟩) (fun x=>x.1.2.2.2.1)
  (fun x s=>by simp only[B,mC,mB,mS,mO,mN];kernel_rfl)
end Zq272
namespace Zq15
def pts:List PT:=[.cs tFs_]
def FS:FS:=mkFS [.sh] pts (fun x=>Zq15 x.1) fun t=>⟨[.cs I64 t],[]⟩
theorem ok:FsOk PR 156 FS:=
 fn_ok tbok hmix Proofs.Tryz.f156 ⟨[1],[],[],0⟩ (.R (.R (.R (.R (.L (.R (.one (.fr 0)))))))) (G:=G) Gok (L:=mkL [(1,Zq271.fr),(0,Zq272.fr)]) (l:=[(0,.loop Zq272.c)]) ⟨Lam.skip rfl (Lam.cons Zq272.ok),trivial⟩
  (fun x=>by simp only[Zq15,mC,mB,mS,mO,mN];kernel_rfl)
end Zq15
def Zq273.B (list:List Inode_) (v:Int) (v2:Int) (v5:List Int) (v4:Int) (v3:List Int) (x_:Inode_) (v6:Int) (out_2:List Int):Option ((Int×List Int)⊕(List Int)):=
 cond (decide (v6<v4)) (cond (inB v6 v5.length) ((some (cond (decide ((w64 (x_.2.2.1-(w64 (v6*8))))<8)) (w64 (x_.2.2.1-(w64 (v6*8)))) 8)).bind fun v7=>cond (inB (v5.getD v6.toNat 0) 20) (some (.inl (w64 (v6+1),out_2.set ((v5.getD v6.toNat 0).toNat) v7))) none) none) (some (.inr out_2))
def Zq273 (list:List Inode_) (v:Int) (v2:Int) (v5:List Int) (v4:Int) (v3:List Int) (x_:Inode_):(Int×List Int)→Option (List Int):=
 loopL fun s=>Zq273.B list v v2 v5 v4 v3 x_ s.1 s.2
def Zq274.B (list:List Inode_) (v:Int) (v3:List Int) (v2:Int) (out_:List Int):Option ((Int×List Int)⊕(List Int)):=
 cond (decide (v2<v)) (cond (inB v2 list.length) ((some ((list.getD v2.toNat zInode_).2.2.2.1.length:Int)).bind fun v4=>(Zq273 list v v2 (list.getD v2.toNat zInode_).2.2.2.1 v4 v3 (list.getD v2.toNat zInode_) (0,out_)).bind fun o=>some (.inl (w64 (v2+1),o))) none) (some (.inr out_))
def Zq274 (list:List Inode_) (v:Int) (v3:List Int):(Int×List Int)→Option (List Int):=
 loopL fun s=>Zq274.B list v v3 s.1 s.2
def Zq13 (list:List Inode_):Option (List Int):=
 (Zq274 list (list.length:Int) (List.replicate 20 0) (0,(List.replicate 20 0))).bind fun o2=>some o2
namespace Zq273
def c:=codeAt (bodyOf Proofs.Tryz.f177) [1,1,0,1,0,0,1,1,0,0,1,1,0,0]
def sp:SP:=⟨[(2,.loc 2 []),(3,.loc 3 []),(5,.loc 5 []),(8,.cs (.sl tInode_)),(9,.cs I64),(10,.cs I64),(15,.cs SI),(16,.cs I64),(17,.cs I64)],[(2,.mem,.cd (.arr 20 I64)),(3,.mem,.cd (.arr 20 I64)),(5,.mem,.cs tInode_)]⟩
def out (list:List Inode_) (v:Int) (v2:Int) (v5:List Int) (v4:Int) (v3:List Int) (x_:Inode_):FOut (List Int):=fun b _ k=>k (.ex 2) ⟨[(2,.loc 2 []),(3,.loc 3 []),(8,.cs (.sl tInode_) list),(9,.cs I64 v),(10,.cs I64 v2)],[(2,some ⟨.mem,.cd (.arr 20 I64) v3⟩),(3,some ⟨.mem,.cd (.arr 20 I64) b⟩)]⟩
def fr:=lfrag sp (fun x=>Zq273 x.1.2.2.2.1 x.1.2.2.2.2.1 x.1.2.2.2.2.2.1 x.1.2.2.2.2.2.2.1 x.1.2.2.2.2.2.2.2.1 x.2.1 x.2.2.2.1 (x.1.2.2.2.2.2.2.2.2.1,x.2.2.1)) fun x=>out x.1.2.2.2.1 x.1.2.2.2.2.1 x.1.2.2.2.2.2.1 x.1.2.2.2.2.2.2.1 x.1.2.2.2.2.2.2.2.1 x.2.1 x.2.2.2.1
theorem ok:CodeOk PR 33 1 (.loop c) fr:=
 lp_ok tbok hmix h0 .no (G:=(mkG [])) .nil (L:=mkL []) (l:=[]) hT [2,3,5,8,9,10,15,16,17] [2,3,5] [(2,([2,3,8,9,10],[2,3]))] ([],[]) (fun x s=>B x.1.2.2.2.1 x.1.2.2.2.2.1 x.1.2.2.2.2.2.1 x.1.2.2.2.2.2.2.1 x.1.2.2.2.2.2.2.2.1 x.2.1 x.2.2.2.1 s.1 s.2) (fun x s=>⟨[(2,.loc 2 []),(3,.loc 3 []),(5,.loc 5 []),(8,.cs (.sl tInode_) x.1.2.2.2.1),(9,.cs I64 x.1.2.2.2.2.1),(10,.cs I64 x.1.2.2.2.2.2.1),(15,.cs SI x.1.2.2.2.2.2.2.1),(16,.cs I64 x.1.2.2.2.2.2.2.2.1),(17,.cs I64 s.1)],[(2,some ⟨.mem,.cd (.arr 20 I64) x.2.1⟩),(3,some ⟨.mem,.cd (.arr 20 I64) s.2⟩),(5,some ⟨.mem,.cs tInode_ x.2.2.2.1⟩)]⟩) (fun x=>(x.1.2.2.2.2.2.2.2.2.1,x.2.2.1))
  (fun x s=>by simp only[B,mC,mB,mS,mO,mN];kernel_rfl)
end Zq273
namespace Zq274
def c:=codeAt (bodyOf Proofs.Tryz.f177) [1,1,0,1,0,0]
def sp:SP:=⟨[(2,.loc 2 []),(3,.loc 3 []),(8,.cs (.sl tInode_)),(9,.cs I64),(10,.cs I64)],[(2,.mem,.cd (.arr 20 I64)),(3,.mem,.cd (.arr 20 I64))]⟩
def out (list:List Inode_) (v:Int) (v3:List Int):FOut (List Int):=fun b _ k=>k (.ex 0) ⟨[(2,.loc 2 []),(3,.loc 3 [])],[(2,some ⟨.mem,.cd (.arr 20 I64) v3⟩),(3,some ⟨.mem,.cd (.arr 20 I64) b⟩)]⟩
def fr:=lfrag sp (fun x=>Zq274 x.1.2.2.1 x.1.2.2.2.1 x.2.1 (x.1.2.2.2.2.1,x.2.2.1)) fun x=>out x.1.2.2.1 x.1.2.2.2.1 x.2.1
theorem ok:CodeOk PR 33 1 (.loop c) fr:=
 lp_ok tbok hmix h0 (.R (.R (.L (.one (.R (.R (.one (.fr 1)))))))) (G:=(mkG [])) .nil (L:=mkL [(1,Zq273.fr)]) (l:=[(1,.loop Zq273.c)]) ⟨Lam.cons Zq273.ok,trivial⟩ [2,3,8,9,10] [2,3] [(0,([2,3],[2,3]))] ([],[]) (fun x s=>B x.1.2.2.1 x.1.2.2.2.1 x.2.1 s.1 s.2) (fun x s=>⟨[(2,.loc 2 []),(3,.loc 3 []),(8,.cs (.sl tInode_) x.1.2.2.1),(9,.cs I64 x.1.2.2.2.1),(10,.cs I64 s.1)],[(2,some ⟨.mem,.cd (.arr 20 I64) x.2.1⟩),(3,some ⟨.mem,.cd (.arr 20 I64) s.2⟩)]⟩) (fun x=>(x.1.2.2.2.2.1,x.2.2.1))
  (fun x s=>by simp only[B,mC,mB,mS,mO,mN];kernel_rfl)
end Zq274
namespace Zq13
def pts:List PT:=[.cs (.sl tInode_)]
def FS:FS:=mkFS [.sh] pts (fun x=>Zq13 x.1) fun t=>⟨[.cs (.arr 20 I64) t],[]⟩
theorem ok:FsOk PR 177 FS:=
 fn_ok tbok hmix Proofs.Tryz.f177 h0 (.R (.R (.L (.R (.one (.fr 0)))))) (G:=(mkG [])) .nil (L:=mkL [(1,Zq273.fr),(0,Zq274.fr)]) (l:=[(0,.loop Zq274.c)]) ⟨Lam.skip rfl (Lam.cons Zq274.ok),trivial⟩
  (fun x=>by simp only[Zq13,mC,mB,mS,mO,mN];kernel_rfl)
end Zq13
def Zq275 (w:Int):Option Bool:=
 some (decide (w>255))
namespace Zq275
def pts:List PT:=[.cs I64]
def FS:FS:=mkFS [.sh] pts (fun x=>Zq275 x.1) fun t=>⟨[.cs .bool t],[]⟩
theorem ok:FsOk PR 198 FS:=
 fn_ok tbok hmix Proofs.Tryz.f198 h0 .no (G:=(mkG [])) .nil (L:=mkL []) (l:=[]) hT
  (fun x=>by simp only[Zq275,mC,mB,mS,mO,mN];kernel_rfl)
end Zq275
def Zq276.B (s_:List Int) (f:Unit) (v:Int) (v2:Int):Option (Int⊕((Int⊕Unit))):=
 cond (decide (v2<v)) (cond (inB v2 s_.length) ((Zq275 (s_.getD v2.toNat 0)).bind fun r=>cond r (some (.inr (.inl v2))) (some (.inl (w64 (v2+1))))) none) (some (.inr (.inr ())))
def Zq276 (s_:List Int) (f:Unit) (v:Int):Int→Option ((Int⊕Unit)):=
 loopL fun s=>Zq276.B s_ f v s
def Zq277 (s_:List Int) (f:Unit):Option Int:=
 (Zq276 s_ f (s_.length:Int) 0).bind fun o=>sel o (fun b=>some b) (fun c=>some (-1))
namespace Zq277
def G:Gam:=mkG [(198,Zq275.FS)]
theorem Gok:GOk PR G:=.cons Zq275.ok .nil
end Zq277
namespace Zq276
def c:=codeAt (bodyOf Proofs.Tryz.f246) [1,0,1,0,0]
def sp:SP:=⟨[(0,.cs SI),(1,.clo 198 (.cs .unit)),(7,.cs I64),(8,.cs I64)],[]⟩
def out (s_:List Int) (f:Unit) (v:Int):FOut ((Int⊕Unit)):=fun o _ k=>sel o (fun b=>k (.rt) ⟨[(4,.cs I64 b)],[]⟩) (fun c=>k (.ex 0) ⟨[],[]⟩)
def fr:=lfrag sp (fun x=>Zq276 x.1.1 x.1.2.1 x.1.2.2.1 x.1.2.2.2.1) fun x=>out x.1.1 x.1.2.1 x.1.2.2.1
theorem ok:CodeOk PR 19 2 (.loop c) fr:=
 lp_ok tbok hmix h0 .no (G:=Zq277.G) Zq277.Gok (L:=mkL []) (l:=[]) hT [0,1,7,8] [] [(0,([],[]))] ([4],[]) (fun x s=>B x.1.1 x.1.2.1 x.1.2.2.1 s) (fun x s=>⟨[(0,.cs SI x.1.1),(1,.clo 198 (.cs .unit x.1.2.1)),(7,.cs I64 x.1.2.2.1),(8,.cs I64 s)],[]⟩) (fun x=>x.1.2.2.2.1)
  (fun x s=>by simp only[B,mC,mB,mS,mO,mN];kernel_rfl)
end Zq276
namespace Zq277
def pts:List PT:=[.cs SI,.clo 198 (.cs .unit)]
def FS:FS:=mkFS [.sh,.sh] pts (fun x=>Zq277 x.1 x.2.1) fun t=>⟨[.cs I64 t],[]⟩
theorem ok:FsOk PR 246 FS:=
 fn_ok tbok hmix Proofs.Tryz.f246 h0 (.R (.L (.R (.one (.fr 0))))) (G:=G) Gok (L:=mkL [(0,Zq276.fr)]) (l:=[(0,.loop Zq276.c)]) ⟨Lam.cons Zq276.ok,trivial⟩
  (fun x=>by simp only[Zq277,mC,mB,mS,mO,mN];kernel_rfl)
end Zq277
def Zq22 (s_:List Int) (f:Unit):Option Bool:=
 (Zq277 s_ f).bind fun r=>some (decide (r≥0))
namespace Zq22
def G:Gam:=mkG [(246,Zq277.FS)]
def pts:List PT:=[.cs SI,.clo 198 (.cs .unit)]
def FS:FS:=mkFS [.sh,.sh] pts (fun x=>Zq22 x.1 x.2.1) fun t=>⟨[.cs .bool t],[]⟩
theorem ok:FsOk PR 195 FS:=
 fn_ok tbok hmix Proofs.Tryz.f195 h0 .no (G:=G) (show GOk PR G from .cons Zq277.ok .nil) (L:=mkL []) (l:=[]) hT
  (fun x=>by simp only[Zq22,mC,mB,mS,mO,mN];kernel_rfl)
end Zq22
end Mf
