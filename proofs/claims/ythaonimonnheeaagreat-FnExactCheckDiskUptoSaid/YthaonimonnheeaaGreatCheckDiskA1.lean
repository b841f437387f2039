import Derived.Test.YthaonimonnheeaaGreatCheckDiskH
import Derived.Test.YthaonimonnheeaaGreatCheckDiskJ
import Derived.Test.YthaonimonnheeaaGreatProg
import Derived.KernelRfl
import Derived.Shelf.SortM.Plain
import Derived.Shelf.SortM.SortNone
import Derived.Shelf.SlGeneric
import Derived.Ground.SlgmProg
namespace Go.Proofs
open Go.Shelf
def Tryz.Xna:Go.Shelf.Ren:=⟨fun | 5=>210 | 8=>236 | 7=>235 | 19=>252 | 20=>253 | 10=>243 | 11=>244 | 12=>245 | 13=>246 | 14=>247 | 15=>248 | 16=>249 | 17=>250 | 18=>251 | 30=>260 | 31=>261 | 32=>262 | 33=>263 | 34=>264 | 35=>265 | 40=>266 | n=>n,fun | 23=>51 | 25=>2 | 3=>3 | 32=>258 | 22=>51 | 0=>0 | 44=>270 | 46=>272 | 4=>4 | 36=>262 | 35=>261 | 41=>267 | 5=>5 | 9=>9 | 53=>275 | 57=>279 | 63=>281 | 64=>282 | n=>n,fun | n=>n⟩
theorem Tryz.Xom:Go.Proofs.SlLaysM.n5 Tryz.prog Tryz.Xna:={
 mixed:=by kernel_rfl
 f5:=⟨Tryz.f210.name,by decide,Tryz.func210.trans (congrArg some (by kernel_rfl))⟩
 f7:=⟨Tryz.f235.name,by decide,Tryz.func235.trans (congrArg some (by kernel_rfl))⟩
 f8:=Tryz.func236.trans (congrArg some (by kernel_rfl))
 f10:=⟨Tryz.f243.name,by decide,Tryz.func243.trans (congrArg some (by kernel_rfl))⟩
 f11:=⟨Tryz.f244.name,by decide,Tryz.func244.trans (congrArg some (by kernel_rfl))⟩
 f12:=⟨Tryz.f245.name,by decide,Tryz.func245.trans (congrArg some (by kernel_rfl))⟩
 f13:=⟨Tryz.f246.name,by decide,Tryz.func246.trans (congrArg some (by kernel_rfl))⟩
 f14:=⟨Tryz.f247.name,by decide,Tryz.func247.trans (congrArg some (by kernel_rfl))⟩
 f15:=⟨Tryz.f248.name,by decide,Tryz.func248.trans (congrArg some (by kernel_rfl))⟩
 f16:=⟨Tryz.f249.name,by decide,Tryz.func249.trans (congrArg some (by kernel_rfl))⟩
 f17:=⟨Tryz.f250.name,by decide,Tryz.func250.trans (congrArg some (by kernel_rfl))⟩
 f18:=⟨Tryz.f251.name,by decide,Tryz.func251.trans (congrArg some (by kernel_rfl))⟩
 f19:=Tryz.func252.trans (congrArg some (by kernel_rfl))
 f20:=Tryz.func253.trans (congrArg some (by kernel_rfl))
 f30:=⟨Tryz.f260.name,by decide,Tryz.func260.trans (congrArg some (by kernel_rfl))⟩
 f31:=Tryz.func261.trans (congrArg some (by kernel_rfl))
 f32:=Tryz.func262.trans (congrArg some (by kernel_rfl))
 f33:=⟨Tryz.f263.name,by decide,Tryz.func263.trans (congrArg some (by kernel_rfl))⟩
 f34:=⟨Tryz.f264.name,by decide,Tryz.func264.trans (congrArg some (by kernel_rfl))⟩
 f35:=⟨Tryz.f265.name,by decide,Tryz.func265.trans (congrArg some (by kernel_rfl))⟩
 f40:=⟨Tryz.f266.name,by decide,Tryz.func266.trans (congrArg some (by kernel_rfl))⟩
 t0:=Tryz.underlying0
 a0:=Tryz.isAgg0
 z0:=Tryz.sizeOf0
 v0:=Tryz.zeroValue0
 t3:=Tryz.underlying3
 a3:=Tryz.isAgg3
 z3:=Tryz.sizeOf3
 v3:=Tryz.zeroValue3
 t4:=Tryz.underlying4
 a4:=Tryz.isAgg4
 z4:=Tryz.sizeOf4
 v4:=Tryz.zeroValue4
 t5:=Tryz.underlying5
 a5:=Tryz.isAgg5
 z5:=Tryz.sizeOf5
 v5:=Tryz.zeroValue5
 t9:=Tryz.underlying9
 a9:=Tryz.isAgg9
 z9:=Tryz.sizeOf9
 v9:=Tryz.zeroValue9
 t22:=Tryz.underlying51
 a22:=Tryz.isAgg51
 z22:=Tryz.sizeOf51
 v22:=Tryz.zeroValue51
 t23:=Tryz.underlying51
 a23:=Tryz.isAgg51
 z23:=Tryz.sizeOf51
 v23:=Tryz.zeroValue51
 t25:=Tryz.underlying2
 a25:=Tryz.isAgg2
 z25:=Tryz.sizeOf2
 v25:=Tryz.zeroValue2
 t32:=Tryz.underlying258
 a32:=Tryz.isAgg258
 z32:=Tryz.sizeOf258
 v32:=Tryz.zeroValue258
 t35:=Tryz.underlying261
 a35:=Tryz.isAgg261
 z35:=Tryz.sizeOf261
 v35:=Tryz.zeroValue261
 t36:=Tryz.underlying262
 a36:=Tryz.isAgg262
 z36:=Tryz.sizeOf262
 v36:=Tryz.zeroValue262
 t41:=Tryz.underlying267
 a41:=Tryz.isAgg267
 z41:=Tryz.sizeOf267
 v41:=Tryz.zeroValue267
 t44:=Tryz.underlying270
 a44:=Tryz.isAgg270
 z44:=Tryz.sizeOf270
 v44:=Tryz.zeroValue270
 t46:=Tryz.underlying272
 a46:=Tryz.isAgg272
 z46:=Tryz.sizeOf272
 v46:=Tryz.zeroValue272
 t53:=Tryz.underlying275
 a53:=Tryz.isAgg275
 z53:=Tryz.sizeOf275
 v53:=Tryz.zeroValue275
 t57:=Tryz.underlying279
 a57:=Tryz.isAgg279
 z57:=Tryz.sizeOf279
 v57:=Tryz.zeroValue279
 t63:=Tryz.underlying281
 a63:=Tryz.isAgg281
 z63:=Tryz.sizeOf281
 v63:=Tryz.zeroValue281
 t64:=Tryz.underlying282
 a64:=Tryz.isAgg282
 z64:=Tryz.sizeOf282
 v64:=Tryz.zeroValue282 }
end Go.Proofs
noncomputable section
namespace Mf
open Go
set_option linter.unusedVariables false
set_option linter.unusedSimpArgs false
set_option maxRecDepth 100000
abbrev Xl:Ty:=(.pair (.int .i64) (.pair (.sl (.int .i64)) .unit))
abbrev Xo:Type:=Int×(List Int)×Unit
def Xab:Xo:=(0,[],())
abbrev Xh:Ty:=(.pair (.sl (.sl (.int .i64))) (.pair (.sl Xl) .unit))
abbrev Xd:Type:=(List (List Int))×(List Xo)×Unit
def Xug:Xd:=([],[],())
abbrev Xam:Ty:=(.pair .bool Xl)
abbrev Xu:Type:=Bool×Xo
def Xg5:Xu:=(false,0,[],())
abbrev Xm:Ty:=(.pair .str (.pair (.int .i64) .unit))
abbrev Xc:Type:=(List UInt8)×Int×Unit
def Xk:Xc:=([],0,())
abbrev Xe:Ty:=(.pair (.int .i64) (.pair (.int .i64) (.pair (.int .i64) (.pair (.sl (.int .i64)) (.pair (.sl Xm) .unit)))))
abbrev Xb:Type:=Int×Int×Int×(List Int)×(List Xc)×Unit
def Xa:Xb:=(0,0,0,[],[],())
abbrev Xj:Ty:=(.pair (.sl Xe) (.pair (.sl (.sl (.int .u8))) .unit))
abbrev Fs_:Type:=(List Xb)×(List (List Int))×Unit
def Xuh:Fs_:=([],[],())
abbrev Xhf:Ty:=(.pair Xh (.pair Xj (.pair Xj .unit)))
abbrev Xp0:Type:=Xd×Fs_×Fs_×Unit
def Xt7:Xp0:=(([],[],()),([],[],()),([],[],()),())
abbrev Xbf:Ty:=(.pair (.int .i64) (.pair (.int .i64) (.pair (.int .i64) (.pair (.sl (.int .u8)) (.pair (.sl .str) (.pair Xj .unit))))))
abbrev Xjs:Type:=Int×Int×Int×(List Int)×(List (List UInt8))×Fs_×Unit
def Xp8:Xjs:=(0,0,0,[],[],([],[],()),())
abbrev Xz:Ty:=(.pair (.int .i64) (.pair Xh .unit))
abbrev Xp:Type:=Int×Xd×Unit
def Xqc:Xp:=(0,([],[],()),())
abbrev Xbp:Ty:=(.pair (.int .i64) (.pair Xj .unit))
abbrev Xba:Type:=Int×Fs_×Unit
def Xrc:Xba:=(0,([],[],()),())
abbrev Xgd:Ty:=(.pair (.int .i64) (.pair (.int .i64) .unit))
abbrev Xld:Type:=Int×Int×Unit
def Xq5:Xld:=(0,0,())
abbrev Xdk:Ty:=(.pair (.int .i64) (.pair (.sl Xam) .unit))
abbrev Xhm:Type:=Int×(List Xu)×Unit
def Xp3:Xhm:=(0,[],())
abbrev Xal:Ty:=(.pair (.int .i64) (.pair Xbf (.pair Xhf .unit)))
abbrev Xff:Type:=Int×Xjs×Xp0×Unit
def Xp2:Xff:=(0,(0,0,0,[],[],([],[],()),()),(([],[],()),([],[],()),([],[],()),()),())
abbrev Xkw:Ty:=(.pair Xj (.pair (.sl .bool) (.pair (.sl (.sl Xm)) (.pair (.int .i64) (.pair (.sl (.int .i64)) (.pair (.sl (.int .i64)) .unit))))))
abbrev Xnm:Type:=Fs_×(List Bool)×(List (List Xc))×Int×(List Int)×(List Int)×Unit
def Xuc:Xnm:=(([],[],()),[],[],0,[],[],())
abbrev Xg2:Ty:=(.pair (.int .i64) (.pair (.int .i64) (.pair .bool (.pair (.int .u8) .unit))))
abbrev Xmd:Type:=Int×Int×Bool×Int×Unit
def Xp4:Xmd:=(0,0,false,0,())
abbrev Xbt:Ty:=(.pair .str (.pair (.int .u64) .unit))
abbrev Xgq:Type:=(List UInt8)×Int×Unit
def Xnh:Xgq:=([],0,())
abbrev PR:Program:=Go.Proofs.Tryz.prog
def tb:Tb:=[(2,⟨.int .i64,(.int .i64),8⟩),(3,⟨.int .i64,(.int .i64),8⟩),(4,⟨.bool,.bool,1⟩),(5,⟨.int .u8,(.int .u8),1⟩),(6,⟨.int .u8,(.int .u8),1⟩),(7,⟨.st [0,1,2,3],Xg2,24⟩),(8,⟨.st [0,1,2,3],Xg2,24⟩),(9,⟨.str,.str,16⟩),(10,⟨.str,.str,16⟩),(11,⟨.str,.str,16⟩),(12,⟨.int .u64,(.int .u64),8⟩),(13,⟨.st [0,1],Xbt,24⟩),(14,⟨.st [0,1],Xbt,24⟩),(21,⟨.int .i32,(.int .i32),4⟩),(22,⟨.sl 51,(.sl (.sl (.int .i64))),24⟩),(23,⟨.sl 133,(.sl Xl),24⟩),(24,⟨.st [0,1],Xh,48⟩),(25,⟨.st [0,1],Xh,48⟩),(26,⟨.sl 137,(.sl Xe),24⟩),(27,⟨.sl 76,(.sl (.sl (.int .u8))),24⟩),(28,⟨.st [0,1],Xj,48⟩),(29,⟨.st [0,1],Xj,48⟩),(32,⟨.sl 147,(.sl Xam),24⟩),(33,⟨.st [0,1],Xdk,32⟩),(34,⟨.st [0,1],Xdk,32⟩),(36,⟨.sl 148,(.sl Xl),24⟩),(37,⟨.st [0,1],Xh,48⟩),(38,⟨.st [0,1],Xh,48⟩),(40,⟨.sl 154,(.sl Xe),24⟩),(41,⟨.st [0,1],Xj,48⟩),(42,⟨.st [0,1],Xj,48⟩),(51,⟨.sl 2,(.sl (.int .i64)),24⟩),(52,⟨.st [0,1],Xl,32⟩),(53,⟨.st [0,1],Xl,32⟩),(58,⟨.st [0,2,4],Xhf,144⟩),(59,⟨.st [0,2,4],Xhf,144⟩),(60,⟨.sl 4,(.sl .bool),24⟩),(62,⟨.st [0,1],Xz,56⟩),(63,⟨.st [0,1],Xz,56⟩),(65,⟨.st [0,2,4],Xhf,144⟩),(66,⟨.st [0,2,4],Xhf,144⟩),(76,⟨.sl 5,(.sl (.int .u8)),24⟩),(77,⟨.sl 9,(.sl .str),24⟩),(78,⟨.st [0,1,2,3,4,5],Xbf,120⟩),(79,⟨.st [0,1,2,3,4,5],Xbf,120⟩),(80,⟨.st [0,1,8],Xal,272⟩),(81,⟨.st [0,1,8],Xal,272⟩),(90,⟨.st [0,1],Xgd,16⟩),(91,⟨.st [0,1],Xgd,16⟩),(132,⟨.st [0,1],Xl,32⟩),(133,⟨.st [0,1],Xl,32⟩),(135,⟨.sl 245,(.sl Xm),24⟩),(136,⟨.st [0,1,2,3,4],Xe,72⟩),(137,⟨.st [0,1,2,3,4],Xe,72⟩),(146,⟨.st [0,1,2],Xam,40⟩),(147,⟨.st [0,1,2],Xam,40⟩),(148,⟨.st [0,1],Xl,32⟩),(152,⟨.sl 200,(.sl Xm),24⟩),(153,⟨.st [0,1,2,3,4],Xe,72⟩),(154,⟨.st [0,1,2,3,4],Xe,72⟩),(170,⟨.st [0,1],Xbp,56⟩),(171,⟨.st [0,1],Xbp,56⟩),(180,⟨.sl 152,(.sl (.sl Xm)),24⟩),(181,⟨.st [0,2,3,4,5,6],Xkw,152⟩),(182,⟨.st [0,2,3,4,5,6],Xkw,152⟩),(184,⟨.arr 20 2,(.arr 20 (.int .i64)),160⟩),(199,⟨.st [0,1],Xm,24⟩),(200,⟨.st [0,1],Xm,24⟩),(218,⟨.sl 32,(.sl (.sl Xam)),24⟩),(245,⟨.st [0,1],Xm,24⟩),(258,⟨.int .u64,(.int .u64),8⟩),(261,⟨.int .i64,(.int .i64),8⟩),(270,⟨.int .u32,(.int .u32),4⟩),(272,⟨.int .u64,(.int .u64),8⟩),(275,⟨.int .u64,(.int .u64),8⟩),(291,⟨.int .u8,(.int .u8),1⟩),(292,⟨.int .u8,(.int .u8),1⟩),(295,⟨.int .i32,(.int .i32),4⟩),(296,⟨.int .i32,(.int .i32),4⟩)]
theorem Xf:Yaf Go.Proofs.Tryz.prog tb:=Yxg (by kernel_rfl)
theorem Xg:Go.Proofs.Tryz.prog.follows .mixedOrders=true:=by kernel_rfl
def Zq0 (a:List Int) (left:Int):Option Int:=
 cond (decide ((w64 (left-(a.length:Int)))<0)) (some (-1)) (some (w64 (left-(a.length:Int))))
namespace Zq0
def pts:List PT:=[.cs SI,.cs I64]
def FS:FS:=Ybr [.sh,.sh] pts (fun x=>Zq0 x.1 x.2.1) fun t=>⟨[.cs I64 t],[]⟩
theorem ok:Yb5 PR 89 FS:=
 Yxj Xf Xg Proofs.Tryz.f89 h0 .no (G:=(mkG [])) .nil (L:=mkL []) (l:=[]) hT
  (fun x=>by simp only[Zq0,mC,mB,mS,mO,mN];kernel_rfl)
end Zq0
def Zq1.B (a:List (List Int)) (left_:Int) (i_:Int):Option ((Int×Int)⊕((Int⊕Int))):=
 cond (decide (i_<(a.length:Int))) (cond (inB i_ a.length) ((Zq0 (a.getD i_.toNat []) left_).bind fun r=>cond (decide (r<0)) (some (.inr (.inl (-1)))) (some (.inl (r,w64 (i_+1))))) none) (some (.inr (.inr left_)))
def Zq1 (a:List (List Int)):(Int×Int)→Option ((Int⊕Int)):=
 Y9 fun s=>Zq1.B a s.1 s.2
def Zq2 (a:List (List Int)) (left:Int):Option Int:=
 cond (decide ((w64 (left-(a.length:Int)))<0)) (some (-1)) ((Zq1 a (w64 (left-(a.length:Int)),0)).bind fun o=>sel o (fun b=>some b) (fun c=>some c))
namespace Zq2
def G:Gam:=mkG [(89,Zq0.FS)]
theorem Gok:GOk PR G:=.cons Zq0.ok .nil
end Zq2
namespace Zq1
def c:=Yaq (Yah Proofs.Tryz.f42) [1,1,1,0,1,0,0]
def sp:SP:=⟨[(0,.cs (.sl SI)),(1,.cs I64),(5,.cs I64)],[]⟩
def fr:=Yi4 sp (fun x s=>Zq1.B x.1.1 s.1 s.2) (fun x=>(x.1.2.1,x.1.2.2.1)) fun x (oo0:(Int⊕Int)) _ kk0=>sel oo0 (fun bb0=>kk0 (.rt) ⟨[(4,.cs I64 bb0)],[]⟩) (fun cc0=>kk0 (.ex 0) ⟨[(1,.cs I64 cc0)],[]⟩)
theorem ok:Ya4 PR 27 2 (.loop c) fr:=
 Ytd Xf Xg h0 .no (G:=Zq2.G) Zq2.Gok (L:=mkL []) (l:=[]) hT [(0,([1],[]))] ([4],[]) (fun x s=>((x.1.1,s.1,s.2,x.1.2.2.2),x.2))
  (fun x s=>by simp only[B,mC,mB,mS,mO,mN];kernel_rfl)
end Zq1
namespace Zq2
def pts:List PT:=[.cs (.sl SI),.cs I64]
def FS:FS:=Ybr [.sh,.sh] pts (fun x=>Zq2 x.1 x.2.1) fun t=>⟨[.cs I64 t],[]⟩
theorem ok:Yb5 PR 42 FS:=
 Yxj Xf Xg Proofs.Tryz.f42 h0 (.R (.R (.R (.L (.R (.one (.fr 0))))))) (G:=G) Gok (L:=mkL [(0,Zq1.fr)]) (l:=[(0,.loop Zq1.c)]) ⟨Lam.cons Zq1.ok,trivial⟩
  (fun x=>by simp only[Zq2,mC,mB,mS,mO,mN];kernel_rfl)
end Zq2
def Zq3 (a:Xo) (left:Int):Option Int:=
 (Zq0 a.2.1 left).bind fun r=>cond (decide (r<0)) (some (-1)) (some r)
namespace Zq3
def G:Gam:=mkG [(89,Zq0.FS)]
def pts:List PT:=[.cs Xl,.cs I64]
def FS:FS:=Ybr [.sh,.sh] pts (fun x=>Zq3 x.1 x.2.1) fun t=>⟨[.cs I64 t],[]⟩
theorem ok:Yb5 PR 90 FS:=
 Yxj Xf Xg Proofs.Tryz.f90 ⟨[2],[],[],0⟩ .no (G:=G) (show GOk PR G from .cons Zq0.ok .nil) (L:=mkL []) (l:=[]) hT
  (fun x=>by simp only[Zq3,mC,mB,mS,mO,mN];kernel_rfl)
end Zq3
def Zq4.B (a:List Xo) (left_:Int) (i_:Int):Option ((Int×Int)⊕((Int⊕Int))):=
 cond (decide (i_<(a.length:Int))) (cond (inB i_ a.length) ((Zq3 (a.getD i_.toNat Xab) left_).bind fun r=>cond (decide (r<0)) (some (.inr (.inl (-1)))) (some (.inl (r,w64 (i_+1))))) none) (some (.inr (.inr left_)))
def Zq4 (a:List Xo):(Int×Int)→Option ((Int⊕Int)):=
 Y9 fun s=>Zq4.B a s.1 s.2
def Zq5 (a:List Xo) (left:Int):Option Int:=
 cond (decide ((w64 (left-(a.length:Int)))<0)) (some (-1)) ((Zq4 a (w64 (left-(a.length:Int)),0)).bind fun o=>sel o (fun b=>some b) (fun c=>some c))
namespace Zq5
def G:Gam:=mkG [(90,Zq3.FS)]
theorem Gok:GOk PR G:=.cons Zq3.ok .nil
end Zq5
namespace Zq4
def c:=Yaq (Yah Proofs.Tryz.f43) [1,1,1,0,1,0,0]
def sp:SP:=⟨[(0,.cs (.sl Xl)),(1,.cs I64),(5,.cs I64)],[]⟩
def fr:=Yi4 sp (fun x s=>Zq4.B x.1.1 s.1 s.2) (fun x=>(x.1.2.1,x.1.2.2.1)) fun x (oo0:(Int⊕Int)) _ kk0=>sel oo0 (fun bb0=>kk0 (.rt) ⟨[(4,.cs I64 bb0)],[]⟩) (fun cc0=>kk0 (.ex 0) ⟨[(1,.cs I64 cc0)],[]⟩)
theorem ok:Ya4 PR 27 2 (.loop c) fr:=
 Ytd Xf Xg h0 .no (G:=Zq5.G) Zq5.Gok (L:=mkL []) (l:=[]) hT [(0,([1],[]))] ([4],[]) (fun x s=>((x.1.1,s.1,s.2,x.1.2.2.2),x.2))
  (fun x s=>by simp only[B,mC,mB,mS,mO,mN];kernel_rfl)
end Zq4
namespace Zq5
def pts:List PT:=[.cs (.sl Xl),.cs I64]
def FS:FS:=Ybr [.sh,.sh] pts (fun x=>Zq5 x.1 x.2.1) fun t=>⟨[.cs I64 t],[]⟩
theorem ok:Yb5 PR 43 FS:=
 Yxj Xf Xg Proofs.Tryz.f43 h0 (.R (.R (.R (.L (.R (.one (.fr 0))))))) (G:=G) Gok (L:=mkL [(0,Zq4.fr)]) (l:=[(0,.loop Zq4.c)]) ⟨Lam.cons Zq4.ok,trivial⟩
  (fun x=>by simp only[Zq5,mC,mB,mS,mO,mN];kernel_rfl)
end Zq5
def Zq6 (a:Xd) (left:Int):Option Int:=
 (Zq2 a.1 left).bind fun r=>cond (decide (r<0)) (some (-1)) ((Zq5 a.2.1 r).bind fun r2=>cond (decide (r2<0)) (some (-1)) (some r2))
namespace Zq6
def G:Gam:=mkG [(42,Zq2.FS),(43,Zq5.FS)]
def pts:List PT:=[.cs Xh,.cs I64]
def FS:FS:=Ybr [.sh,.sh] pts (fun x=>Zq6 x.1 x.2.1) fun t=>⟨[.cs I64 t],[]⟩
theorem ok:Yb5 PR 7 FS:=
 Yxj Xf Xg Proofs.Tryz.f7 ⟨[2],[],[],0⟩ .no (G:=G) (show GOk PR G from .cons Zq2.ok (.cons Zq5.ok .nil)) (L:=mkL []) (l:=[]) hT
  (fun x=>by simp only[Zq6,mC,mB,mS,mO,mN];kernel_rfl)
end Zq6
def Zq7.B (a:List Int) (i_:Int) (out_:List Int):Option ((Int×List Int)⊕(List Int)):=
 cond (decide (i_<(a.length:Int))) (cond (inB i_ a.length) (cond (inB i_ out_.length) (some (.inl (w64 (i_+1),out_.set i_.toNat (a.getD i_.toNat 0)))) none) none) (some (.inr out_))
def Zq7 (a:List Int):(Int×List Int)→Option (List Int):=
 Y9 fun s=>Zq7.B a s.1 s.2
def Zq8 (a:List Int):Option (List Int):=
 cond (decide ((0:Int)≤(a.length:Int))&&(decide ((a.length:Int)≤(a.length:Int))&&decide ((a.length:Int)≤2147483648))) ((Zq7 a (0,List.replicate (a.length:Int).toNat 0)).bind fun o=>some o) none
namespace Zq7
def c:=Yaq (Yah Proofs.Tryz.f105) [1,1,0,1,0,0]
def sp:SP:=⟨[(0,.cs SI),(3,.seg 3 []),(4,.cs I64)],[(3,.reg,.cd SI)]⟩
def fr:=Yi4 sp (fun x s=>Zq7.B x.1.1 s.1 s.2) (fun x=>(x.1.2.2.1,x.2.1)) fun x (bb0:List Int) _ kk0=>kk0 (.ex 0) ⟨[(3,.seg 3 [])],[sr 3 (.cd SI bb0)]⟩
theorem ok:Ya4 PR 22 1 (.loop c) fr:=
 Yw6 Xf Xg h0 [(0,([3],[3]))] (fun x s=>((x.1.1,x.1.2.1,s.1,x.1.2.2.2),(s.2,x.2.2)))
  (fun x s=>by simp only[B,mC,mB,mS,mO,mN];kernel_rfl)
end Zq7
namespace Zq8
def pts:List PT:=[.cs SI]
def FS:FS:=Ybr [.sh] pts (fun x=>Zq8 x.1) fun t=>⟨[.cd SI t],[]⟩
theorem ok:Yb5 PR 105 FS:=
 Yxj Xf Xg Proofs.Tryz.f105 h0 (.R (.R (.L (.R (.one (.fr 0)))))) (G:=(mkG [])) .nil (L:=mkL [(0,Zq7.fr)]) (l:=[(0,.loop Zq7.c)]) ⟨Lam.cons Zq7.ok,trivial⟩
  (fun x=>by simp only[Zq8,mC,mB,mS,mO,mN];kernel_rfl)
end Zq8
def Zq9.B (a:List (List Int)) (i_:Int) (out_:List (List Int)):Option ((Int×List (List Int))⊕(List (List Int))):=
 cond (decide (i_<(a.length:Int))) (cond (inB i_ a.length) ((Zq8 (a.getD i_.toNat [])).bind fun r=>cond (inB i_ out_.length) (some (.inl (w64 (i_+1),out_.set i_.toNat r))) none) none) (some (.inr out_))
def Zq9 (a:List (List Int)):(Int×List (List Int))→Option (List (List Int)):=
 Y9 fun s=>Zq9.B a s.1 s.2
def Xi7 (a:List (List Int)):Option (List (List Int)):=
 cond (decide ((0:Int)≤(a.length:Int))&&(decide ((a.length:Int)≤(a.length:Int))&&decide ((a.length:Int)≤2147483648))) ((some (List.replicate (a.length:Int).toNat ([]:List Int))).bind fun v=>(Zq9 a (0,v)).bind fun o=>some o) none
namespace Xi7
def G:Gam:=mkG [(105,Zq8.FS)]
theorem Gok:GOk PR G:=.cons Zq8.ok .nil
end Xi7
namespace Zq9
def c:=Yaq (Yah Proofs.Tryz.f49) [1,1,0,1,0,0]
def sp:SP:=⟨[(0,.cs (.sl SI)),(3,.seg 3 []),(4,.cs I64)],[(3,.reg,.cd (.sl SI))]⟩
def fr:=Yi4 sp (fun x s=>Zq9.B x.1.1 s.1 s.2) (fun x=>(x.1.2.2.1,x.2.1)) fun x (bb0:List (List Int)) _ kk0=>kk0 (.ex 0) ⟨[(3,.seg 3 [])],[sr 3 (.cd (.sl SI) bb0)]⟩
theorem ok:Ya4 PR 23 1 (.loop c) fr:=
 Yxk Xf Xg h0 (G:=Xi7.G) Xi7.Gok [(0,([3],[3]))] (fun x s=>((x.1.1,x.1.2.1,s.1,x.1.2.2.2),(s.2,x.2.2)))
  (fun x s=>by simp only[B,mC,mB,mS,mO,mN];kernel_rfl)
end Zq9
namespace Xi7
def pts:List PT:=[.cs (.sl SI)]
def FS:FS:=Ybr [.sh] pts (fun x=>Xi7 x.1) fun t=>⟨[.cd (.sl SI) t],[]⟩
theorem ok:Yb5 PR 49 FS:=
 Yxj Xf Xg Proofs.Tryz.f49 h0 (.R (.R (.L (.R (.one (.fr 0)))))) (G:=G) Gok (L:=mkL [(0,Zq9.fr)]) (l:=[(0,.loop Zq9.c)]) ⟨Lam.cons Zq9.ok,trivial⟩
  (fun x=>by simp only[Xi7,mC,mB,mS,mO,mN];kernel_rfl)
end Xi7
def Xmo (a:Xo):Option Xo:=
 (Zq8 a.2.1).bind fun r=>some (a.1,r,())
namespace Xmo
def G:Gam:=mkG [(105,Zq8.FS)]
def pts:List PT:=[.cs Xl]
def FS:FS:=Ybr [.sh] pts (fun x=>Xmo x.1) fun t=>⟨[.cd Xl t],[]⟩
theorem ok:Yb5 PR 106 FS:=
 Yxj Xf Xg Proofs.Tryz.f106 ⟨[1],[],[],0⟩ .no (G:=G) (show GOk PR G from .cons Zq8.ok .nil) (L:=mkL []) (l:=[]) hT
  (fun x=>by simp only[Xmo,mC,mB,mS,mO,mN];kernel_rfl)
end Xmo
def Xjf.B (a:List Xo) (i_:Int) (out_:List Xo):Option ((Int×List Xo)⊕(List Xo)):=
 cond (decide (i_<(a.length:Int))) (cond (inB i_ a.length) ((Xmo (a.getD i_.toNat Xab)).bind fun r=>cond (inB i_ out_.length) (some (.inl (w64 (i_+1),out_.set i_.toNat (r.1,r.2.1,r.2.2)))) none) none) (some (.inr out_))
def Xjf (a:List Xo):(Int×List Xo)→Option (List Xo):=
 Y9 fun s=>Xjf.B a s.1 s.2
def Xi9 (a:List Xo):Option (List Xo):=
 cond (decide ((0:Int)≤(a.length:Int))&&(decide ((a.length:Int)≤(a.length:Int))&&decide ((a.length:Int)≤2147483648))) ((Xjf a (0,List.replicate (a.length:Int).toNat Xab)).bind fun o=>some o) none
namespace Xi9
def G:Gam:=mkG [(106,Xmo.FS)]
theorem Gok:GOk PR G:=.cons Xmo.ok .nil
end Xi9
namespace Xjf
def c:=Yaq (Yah Proofs.Tryz.f50) [1,1,0,1,0,0]
def sp:SP:=⟨[(0,.cs (.sl Xl)),(3,.seg 3 []),(4,.cs I64)],[(3,.reg,.cd (.sl Xl))]⟩
def fr:=Yi4 sp (fun x s=>Xjf.B x.1.1 s.1 s.2) (fun x=>(x.1.2.2.1,x.2.1)) fun x (bb0:List Xo) _ kk0=>kk0 (.ex 0) ⟨[(3,.seg 3 [])],[sr 3 (.cd (.sl Xl) bb0)]⟩
theorem ok:Ya4 PR 23 1 (.loop c) fr:=
 Yxk Xf Xg h0 (G:=Xi9.G) Xi9.Gok [(0,([3],[3]))] (fun x s=>((x.1.1,x.1.2.1,s.1,x.1.2.2.2),(s.2,x.2.2)))
  (fun x s=>by simp only[B,mC,mB,mS,mO,mN];kernel_rfl)
end Xjf
namespace Xi9
def pts:List PT:=[.cs (.sl Xl)]
def FS:FS:=Ybr [.sh] pts (fun x=>Xi9 x.1) fun t=>⟨[.cd (.sl Xl) t],[]⟩
theorem ok:Yb5 PR 50 FS:=
 Yxj Xf Xg Proofs.Tryz.f50 h0 (.R (.R (.L (.R (.one (.fr 0)))))) (G:=G) Gok (L:=mkL [(0,Xjf.fr)]) (l:=[(0,.loop Xjf.c)]) ⟨Lam.cons Xjf.ok,trivial⟩
  (fun x=>by simp only[Xi9,mC,mB,mS,mO,mN];kernel_rfl)
end Xi9
def Xkc (a:Xd):Option Xd:=
 (Xi7 a.1).bind fun r=>(Xi9 a.2.1).bind fun r2=>some (r,r2,())
namespace Xkc
def G:Gam:=mkG [(49,Xi7.FS),(50,Xi9.FS)]
def pts:List PT:=[.cs Xh]
def FS:FS:=Ybr [.sh] pts (fun x=>Xkc x.1) fun t=>⟨[.cd Xh t],[]⟩
theorem ok:Yb5 PR 10 FS:=
 Yxj Xf Xg Proofs.Tryz.f10 ⟨[1],[],[],0⟩ .no (G:=G) (show GOk PR G from .cons Xi7.ok (.cons Xi9.ok .nil)) (L:=mkL []) (l:=[]) hT
  (fun x=>by simp only[Xkc,mC,mB,mS,mO,mN];kernel_rfl)
end Xkc
def Xae (v:Int) (v2:Int) (v3:Int):Option Bool:=
 some (cond (decide (v≥v2)) (decide (v≤v3)) false)
namespace Xae
def pts:List PT:=[.cs I64,.cs I64,.cs I64]
def FS:FS:=Ybr [.sh,.sh,.sh] pts (fun x=>Xae x.1 x.2.1 x.2.2.1) fun t=>⟨[.cs .bool t],[]⟩
theorem ok:Yb5 PR 144 FS:=
 Yxj Xf Xg Proofs.Tryz.f144 h0 .no (G:=(mkG [])) .nil (L:=mkL []) (l:=[]) hT
  (fun x=>by simp only[Xae,mC,mB,mS,mO,mN];kernel_rfl)
end Xae
def Xkl.B (v:List Int) (v2:Int):Option (Int⊕((Int⊕Unit))):=
 cond (decide (v2<(v.length:Int))) (cond (inB v2 v.length) ((Xae (v.getD v2.toNat 0) 0 65535).bind fun v3=>cond (!v3) (some (.inr (.inl 3))) (some (.inl (w64 (v2+1))))) none) (some (.inr (.inr ())))
def Xkl (v:List Int):Int→Option ((Int⊕Unit)):=
 Y9 fun s=>Xkl.B v s
def Xdt (v:List Int):Option Int:=
 cond (decide ((v.length:Int)>64)) (some 2) ((Xkl v 0).bind fun v4=>sel v4 (fun v5=>some v5) (fun v6=>some 0))
namespace Xdt
def G:Gam:=mkG [(144,Xae.FS)]
theorem Gok:GOk PR G:=.cons Xae.ok .nil
end Xdt
namespace Xkl
def c:=Yaq (Yah Proofs.Tryz.f168) [1,1,0,1,0,0]
def sp:SP:=⟨[(0,.cs SI),(3,.cs I64)],[]⟩
def fr:=Yi4 sp (fun x s=>Xkl.B x.1.1 s) (fun x=>x.1.2.1) fun x (oo0:(Int⊕Unit)) _ kk0=>sel oo0 (fun bb0=>kk0 (.rt) ⟨[(2,.cs I64 bb0)],[]⟩) (fun cc0=>kk0 (.ex 0) ⟨[],[]⟩)
theorem ok:Ya4 PR 19 1 (.loop c) fr:=
 Ytd Xf Xg h0 .no (G:=Xdt.G) Xdt.Gok (L:=mkL []) (l:=[]) hT [(0,([],[]))] ([2],[]) (fun x s=>((x.1.1,s,x.1.2.2),x.2))
  (fun x s=>by simp only[B,mC,mB,mS,mO,mN];kernel_rfl)
end Xkl
namespace Xdt
def pts:List PT:=[.cs SI]
def FS:FS:=Ybr [.sh] pts (fun x=>Xdt x.1) fun t=>⟨[.cs I64 t],[]⟩
theorem ok:Yb5 PR 168 FS:=
 Yxj Xf Xg Proofs.Tryz.f168 h0 (.R (.R (.L (.R (.one (.fr 0)))))) (G:=G) Gok (L:=mkL [(0,Xkl.fr)]) (l:=[(0,.loop Xkl.c)]) ⟨Lam.cons Xkl.ok,trivial⟩
  (fun x=>by simp only[Xdt,mC,mB,mS,mO,mN];kernel_rfl)
end Xdt
def Xkg.B (v:Xd) (v3:Int):Option (Int⊕((Int⊕Unit))):=
 cond (decide (v3<(v.1.length:Int))) (cond (inB v3 v.1.length) ((Xdt (v.1.getD v3.toNat [])).bind fun v4=>cond (v4 != 0) (some (.inr (.inl v4))) (some (.inl (w64 (v3+1))))) none) (some (.inr (.inr ())))
def Xkg (v:Xd):Int→Option ((Int⊕Unit)):=
 Y9 fun s=>Xkg.B v s
def Xkn.B (v:Xd) (v8:Int):Option (Int⊕((Int⊕Unit))):=
 cond (decide (v8<(v.2.1.length:Int))) (cond (inB v8 v.2.1.length) ((Xae (v.2.1.getD v8.toNat Xab).1 0 (w64 ((v.1.length:Int)-1))).bind fun v9=>cond (!v9) (some (.inr (.inl 3))) (cond (inB v8 v.2.1.length) ((Xdt (v.2.1.getD v8.toNat Xab).2.1).bind fun v10=>cond (v10 != 0) (some (.inr (.inl v10))) (some (.inl (w64 (v8+1))))) none)) none) (some (.inr (.inr ())))
def Xkn (v:Xd):Int→Option ((Int⊕Unit)):=
 Y9 fun s=>Xkn.B v s
def Xdl (v:Xd):Option Int:=
 (some (cond (decide ((v.1.length:Int)>60)) true (decide ((v.2.1.length:Int)>200)))).bind fun v2=>cond v2 (some 2) ((Xkg v 0).bind fun v5=>sel v5 (fun v6=>some v6) (fun v7=>(Xkn v 0).bind fun v11=>sel v11 (fun v12=>some v12) (fun v13=>some 0)))
namespace Xdl
def G:Gam:=mkG [(168,Xdt.FS),(144,Xae.FS)]
theorem Gok:GOk PR G:=.cons Xdt.ok (.cons Xae.ok .nil)
end Xdl
namespace Xkg
def c:=Yaq (Yah Proofs.Tryz.f93) [1,1,0,1,0,0]
def sp:SP:=⟨[(0,.pt Xh),(3,.cs I64)],[]⟩
def fr:=Yi4 sp (fun x s=>Xkg.B x.1.1 s) (fun x=>x.1.2.1) fun x (oo0:(Int⊕Unit)) _ kk0=>sel oo0 (fun bb0=>kk0 (.rt) ⟨[(2,.cs I64 bb0)],[]⟩) (fun cc0=>kk0 (.ex 0) ⟨[(0,.pt Xh x.1.1)],[]⟩)
theorem ok:Ya4 PR 78 1 (.loop c) fr:=
 Ytd Xf Xg h0 .no (G:=Xdl.G) Xdl.Gok (L:=mkL []) (l:=[]) hT [(0,([0],[]))] ([2],[]) (fun x s=>((x.1.1,s,x.1.2.2),x.2))
  (fun x s=>by simp only[B,mC,mB,mS,mO,mN];kernel_rfl)
end Xkg
namespace Xkn
def c:=Yaq (Yah Proofs.Tryz.f93) [1,1,1,0,1,0,0]
def sp:SP:=⟨[(0,.pt Xh),(5,.cs I64)],[]⟩
def fr:=Yi4 sp (fun x s=>Xkn.B x.1.1 s) (fun x=>x.1.2.1) fun x (oo0:(Int⊕Unit)) _ kk0=>sel oo0 (fun bb0=>kk0 (.rt) ⟨[(2,.cs I64 bb0)],[]⟩) (fun cc0=>kk0 (.ex 2) ⟨[],[]⟩)
theorem ok:Ya4 PR 78 1 (.loop c) fr:=
 Ytd Xf Xg h0 .no (G:=Xdl.G) Xdl.Gok (L:=mkL []) (l:=[]) hT [(2,([],[]))] ([2],[]) (fun x s=>((x.1.1,s,x.1.2.2),x.2))
  (fun x s=>by simp only[B,mC,mB,mS,mO,mN];kernel_rfl)
end Xkn
namespace Xdl
def pts:List PT:=[.pt Xh]
def FS:FS:=Ybr [.sh] pts (fun x=>Xdl x.1) fun t=>⟨[.cs I64 t],[]⟩
theorem ok:Yb5 PR 93 FS:=
 Yxj Xf Xg Proofs.Tryz.f93 h0 (.R (.R (.two (.R (.one (.fr 0))) (.L (.R (.one (.fr 1))))))) (G:=G) Gok (L:=mkL [(0,Xkg.fr),(1,Xkn.fr)]) (l:=[(0,.loop Xkg.c),(1,.loop Xkn.c)]) ⟨Lam.cons Xkg.ok,Lam.skip rfl (Lam.cons Xkn.ok),trivial⟩
  (fun x=>by simp only[Xdl,mC,mB,mS,mO,mN];kernel_rfl)
end Xdl
def Xfa.B (v:Xd) (v2:Int) (v3:Int):Option (Int⊕(((List Int)⊕Unit))):=
 cond (decide (v3≥0)) (cond (inB v3 v.2.1.length) (cond ((v.2.1.getD v3.toNat Xab).1 == v2) (cond (inB v3 v.2.1.length) (some (.inr (.inl (v.2.1.getD v3.toNat Xab).2.1))) none) (some (.inl (w64 (v3-1))))) none) (some (.inr (.inr ())))
def Xfa (v:Xd) (v2:Int):Int→Option (((List Int)⊕Unit)):=
 Y9 fun s=>Xfa.B v v2 s
def Xd1 (v:Xd) (v2:Int):Option (List Int):=
 (Xfa v v2 (w64 ((v.2.1.length:Int)-1))).bind fun v4=>sel v4 (fun v5=>some v5) (fun v6=>cond (inB v2 v.1.length) (some (v.1.getD v2.toNat [])) none)
namespace Xfa
def c:=Yaq (Yah Proofs.Tryz.f94) [1,0,1,0,0]
def sp:SP:=⟨[(0,.pt Xh),(1,.cs I64),(5,.cs I64)],[]⟩
def fr:=Yi4 sp (fun x s=>Xfa.B x.1.1 x.1.2.1 s) (fun x=>x.1.2.2.1) fun x (oo0:((List Int)⊕Unit)) _ kk0=>sel oo0 (fun bb0=>kk0 (.rt) ⟨[(4,.cs SI bb0)],[]⟩) (fun cc0=>kk0 (.ex 0) ⟨[(0,.pt Xh x.1.1),(1,.cs I64 x.1.2.1)],[]⟩)
theorem ok:Ya4 PR 41 2 (.loop c) fr:=
 Ytd Xf Xg h0 .no (G:=(mkG [])) .nil (L:=mkL []) (l:=[]) hT [(0,([0,1],[]))] ([4],[]) (fun x s=>((x.1.1,x.1.2.1,s,x.1.2.2.2),x.2))
  (fun x s=>by simp only[B,mC,mB,mS,mO,mN];kernel_rfl)
end Xfa
namespace Xd1
def pts:List PT:=[.pt Xh,.cs I64]
def FS:FS:=Ybr [.sh,.sh] pts (fun x=>Xd1 x.1 x.2.1) fun t=>⟨[.cs SI t],[]⟩
theorem ok:Yb5 PR 94 FS:=
 Yxj Xf Xg Proofs.Tryz.f94 h0 (.R (.L (.R (.one (.fr 0))))) (G:=(mkG [])) .nil (L:=mkL [(0,Xfa.fr)]) (l:=[(0,.loop Xfa.c)]) ⟨Lam.cons Xfa.ok,trivial⟩
  (fun x=>by simp only[Xd1,mC,mB,mS,mO,mN];kernel_rfl)
end Xd1
def Xm9 (v:Int):Option Bool:=
 (Xae v 1 60000).bind fun v2=>some v2
namespace Xm9
def G:Gam:=mkG [(144,Xae.FS)]
def pts:List PT:=[.cs I64]
def FS:FS:=Ybr [.sh] pts (fun x=>Xm9 x.1) fun t=>⟨[.cs .bool t],[]⟩
theorem ok:Yb5 PR 95 FS:=
 Yxj Xf Xg Proofs.Tryz.f95 h0 .no (G:=G) (show GOk PR G from .cons Xae.ok .nil) (L:=mkL []) (l:=[]) hT
  (fun x=>by simp only[Xm9,mC,mB,mS,mO,mN];kernel_rfl)
end Xm9
def Xko (v:Xd):Option Xld:=
 (Xdl v).bind fun v2=>cond (v2 != 0) (some (v2,0,())) (cond ((v.1.length:Int) != 47) (some (1,0,())) ((Xd1 v 0).bind fun v3=>cond (cond (!((v3.length:Int) != 2)) (inB 0 v3.length) true) ((some (cond ((v3.length:Int) != 2) true ((v3.getD (0:Int).toNat 0) != 7))).bind fun v4=>cond v4 (some (5,0,())) (cond (inB 1 v3.length) ((Xm9 (v3.getD (1:Int).toNat 0)).bind fun v5=>cond (!v5) (some (5,0,())) (cond (inB 1 v3.length) (some (0,v3.getD (1:Int).toNat 0,())) none)) none)) none))
namespace Xko
def G:Gam:=mkG [(93,Xdl.FS),(94,Xd1.FS),(95,Xm9.FS)]
def pts:List PT:=[.cs Xh]
def FS:FS:=Ybr [.sh] pts (fun x=>Xko x.1) fun t=>⟨[.cs Xgd t],[]⟩
theorem ok:Yb5 PR 46 FS:=
 Yxj Xf Xg Proofs.Tryz.f46 ⟨[1],[],[],0⟩ .no (G:=G) (show GOk PR G from .cons Xdl.ok (.cons Xd1.ok (.cons Xm9.ok .nil))) (L:=mkL []) (l:=[]) hT
  (fun x=>by simp only[Xko,mC,mB,mS,mO,mN];kernel_rfl)
end Xko
def Xi6.B (v:List Int) (v2:List Int) (v3:Int):Option (Int⊕((Bool⊕Unit))):=
 cond (decide (v3<(v.length:Int))) (cond (inB v3 v.length) (cond (inB v3 v2.length) (cond ((v.getD v3.toNat 0) != (v2.getD v3.toNat 0)) (some (.inr (.inl false))) (some (.inl (w64 (v3+1))))) none) none) (some (.inr (.inr ())))
def Xi6 (v:List Int) (v2:List Int):Int→Option ((Bool⊕Unit)):=
 Y9 fun s=>Xi6.B v v2 s
def Xhb (v:List Int) (v2:List Int):Option Bool:=
 cond ((v.length:Int) != (v2.length:Int)) (some false) ((Xi6 v v2 0).bind fun v4=>sel v4 (fun v5=>some v5) (fun v6=>some true))
namespace Xi6
def c:=Yaq (Yah Proofs.Tryz.f175) [1,1,0,1,0,0]
def sp:SP:=⟨[(0,.cs SI),(1,.cs SI),(5,.cs I64)],[]⟩
def fr:=Yi4 sp (fun x s=>Xi6.B x.1.1 x.1.2.1 s) (fun x=>x.1.2.2.1) fun x (oo0:(Bool⊕Unit)) _ kk0=>sel oo0 (fun bb0=>kk0 (.rt) ⟨[(4,.cs .bool bb0)],[]⟩) (fun cc0=>kk0 (.ex 0) ⟨[],[]⟩)
theorem ok:Ya4 PR 26 2 (.loop c) fr:=
 Ytd Xf Xg h0 .no (G:=(mkG [])) .nil (L:=mkL []) (l:=[]) hT [(0,([],[]))] ([4],[]) (fun x s=>((x.1.1,x.1.2.1,s,x.1.2.2.2),x.2))
  (fun x s=>by simp only[B,mC,mB,mS,mO,mN];kernel_rfl)
end Xi6
namespace Xhb
def pts:List PT:=[.cs SI,.cs SI]
def FS:FS:=Ybr [.sh,.sh] pts (fun x=>Xhb x.1 x.2.1) fun t=>⟨[.cs .bool t],[]⟩
theorem ok:Yb5 PR 175 FS:=
 Yxj Xf Xg Proofs.Tryz.f175 h0 (.R (.R (.L (.R (.one (.fr 0)))))) (G:=(mkG [])) .nil (L:=mkL [(0,Xi6.fr)]) (l:=[(0,.loop Xi6.c)]) ⟨Lam.cons Xi6.ok,trivial⟩
  (fun x=>by simp only[Xhb,mC,mB,mS,mO,mN];kernel_rfl)
end Xhb
def Xaw (v:List Int):Option (List Int):=
 cond (decide (([]++v).length≤2147483648)) (some ([]++v)) none
namespace Xaw
def pts:List PT:=[.cs SI]
def FS:FS:=Ybr [.sh] pts (fun x=>Xaw x.1) fun t=>⟨[.cd SI t],[]⟩
theorem ok:Yb5 PR 103 FS:=
 Yxj Xf Xg Proofs.Tryz.f103 h0 .no (G:=(mkG [])) .nil (L:=mkL []) (l:=[]) hT
  (fun x=>by simp only[Xaw,mC,mB,mS,mO,mN];kernel_rfl)
end Xaw
def Xhw.B (v:Xd) (v3:List Int) (v9:Int) (v10:Int) (v11:List Xo):Option ((Int×List Xo)⊕(((Bool×List Xo)⊕(List Xo)))):=
 cond (decide (v10<v9)) (cond (inB (w64 ((3:Int)+v10)) v3.length) ((Xae (v3.getD (w64 ((3:Int)+v10)).toNat 0) 17 26).bind fun v12=>cond (!v12) (some (.inr (.inl (false,[])))) (cond (inB (w64 ((3:Int)+v10)) v3.length) ((Xd1 v (w64 ((2:Int)+v10))).bind fun v13=>(Xaw v13).bind fun v14=>(some (v11++([(v3.getD (w64 ((3:Int)+v10)).toNat 0,v14,())]))).bind fun v15=>cond (decide (v15.length≤2147483648)) (some (.inl (w64 (v10+1),v15))) none) none)) none) (some (.inr (.inr v11)))
def Xhw (v:Xd) (v3:List Int) (v9:Int):(Int×List Xo)→Option (((Bool×List Xo)⊕(List Xo))):=
 Y9 fun s=>Xhw.B v v3 v9 s.1 s.2
def Xja (v:Xd) (v2:Int):Option ((List Xo)×Bool):=
 (Xd1 v 1).bind fun v3=>cond (cond (!(decide ((v3.length:Int)<3))) (inB 0 v3.length) true) ((some (cond (decide ((v3.length:Int)<3)) true ((v3.getD (0:Int).toNat 0) != 1))).bind fun v4=>cond (cond (!v4) (inB 1 v3.length) true) (cond (cond v4 true ((v3.getD (1:Int).toNat 0) != v2)) (cond (cond (!true) (inB 2 v3.length) true) (some ([],false)) none) (cond (inB 2 v3.length) ((Xae (v3.getD (2:Int).toNat 0) 0 10).bind fun v5=>cond (cond (!(!v5)) (inB 2 v3.length) true) ((some (cond (!v5) true ((v3.length:Int) != (w64 ((3:Int)+(v3.getD (2:Int).toNat 0)))))).bind fun v6=>cond v6 (some ([],false)) (cond (inB 2 v3.length) ((Xd1 v (w64 ((2:Int)+(v3.getD (2:Int).toNat 0)))).bind fun v7=>(Xhb v7 ([2,v2,v3.getD (2:Int).toNat 0])).bind fun v8=>cond (!v8) (some ([],false)) ((Xhw v v3 (v3.getD (2:Int).toNat 0) (0,[])).bind fun v16=>sel v16 (fun v17=>some (v17.2,v17.1)) (fun v18=>some (v18,true)))) none)) none) none)) none) none
namespace Xja
def G:Gam:=mkG [(94,Xd1.FS),(144,Xae.FS),(175,Xhb.FS),(103,Xaw.FS)]
theorem Gok:GOk PR G:=.cons Xd1.ok (.cons Xae.ok (.cons Xhb.ok (.cons Xaw.ok .nil)))
end Xja
namespace Xhw
def c:=Yaq (Yah Proofs.Tryz.f192) [1,1,1,1,1,1,0,1,0,0]
def sp:SP:=⟨[(0,.pt Xh),(6,.cs SI),(7,.cs I64),(8,.seg 8 []),(9,.cs I64)],[(8,.reg,.cd (.sl Xl))]⟩
def fr:=Yi4 sp (fun x s=>Xhw.B x.1.1 x.1.2.1 x.1.2.2.1 s.1 s.2) (fun x=>(x.1.2.2.2.2.1,x.2.1)) fun x (oo0:((Bool×List Xo)⊕(List Xo))) _ kk0=>sel oo0 (fun bb0=>kk0 (.rt) ⟨[(4,.seg 4 []),(5,.cs .bool bb0.1)],[sr 4 (.cd (.sl Xl) bb0.2)]⟩) (fun cc0=>kk0 (.ex 0) ⟨[(8,.seg 8 [])],[sr 8 (.cd (.sl Xl) cc0)]⟩)
theorem ok:Ya4 PR 84 2 (.loop c) fr:=
 Ytd Xf Xg h0 .no (G:=Xja.G) Xja.Gok (L:=mkL []) (l:=[]) hT [(0,([8],[8]))] ([4,5],[4]) (fun x s=>((x.1.1,x.1.2.1,x.1.2.2.1,x.1.2.2.2.1,s.1,x.1.2.2.2.2.2),(s.2,x.2.2)))
  (fun x s=>by simp only[B,mC,mB,mS,mO,mN];kernel_rfl)
end Xhw
namespace Xja
def pts:List PT:=[.pt Xh,.cs I64]
def FS:FS:=Ybr [.sh,.sh] pts (fun x=>Xja x.1 x.2.1) fun t=>⟨[.cd (.sl Xl) t.1,.cs .bool t.2],[]⟩
theorem ok:Yb5 PR 192 FS:=
 Yxj Xf Xg Proofs.Tryz.f192 h0 (.R (.R (.R (.R (.R (.R (.L (.R (.one (.fr 0)))))))))) (G:=G) Gok (L:=mkL [(0,Xhw.fr)]) (l:=[(0,.loop Xhw.c)]) ⟨Lam.cons Xhw.ok,trivial⟩
  (fun x=>by simp only[Xja,mC,mB,mS,mO,mN];kernel_rfl)
end Xja
def Xiw.B (v:List Xo) (v2:Int) (v3:List Xu):Option ((Int×List Xu)⊕(List Xu)):=
 cond (decide (v2<(v.length:Int))) (cond (inB v2 v.length) (cond (inB v2 v.length) ((Xaw (v.getD v2.toNat Xab).2.1).bind fun v4=>(some (v3++([(false,(v.getD v2.toNat Xab).1,v4,())]))).bind fun v5=>cond (decide (v5.length≤2147483648)) (some (.inl (w64 (v2+1),v5))) none) none) none) (some (.inr v3))
def Xiw (v:List Xo):(Int×List Xu)→Option (List Xu):=
 Y9 fun s=>Xiw.B v s.1 s.2
def Xjn (v:List Xo):Option (List Xu):=
 (Xiw v (0,[])).bind fun v6=>some v6
namespace Xjn
def G:Gam:=mkG [(103,Xaw.FS)]
theorem Gok:GOk PR G:=.cons Xaw.ok .nil
end Xjn
namespace Xiw
def c:=Yaq (Yah Proofs.Tryz.f101) [1,1,0,1,0,0]
def sp:SP:=⟨[(0,.cs (.sl Xl)),(3,.seg 3 []),(4,.cs I64)],[(3,.reg,.cd (.sl Xam))]⟩
def fr:=Yi4 sp (fun x s=>Xiw.B x.1.1 s.1 s.2) (fun x=>(x.1.2.2.1,x.2.1)) fun x (bb0:List Xu) _ kk0=>kk0 (.ex 0) ⟨[(3,.seg 3 [])],[sr 3 (.cd (.sl Xam) bb0)]⟩
theorem ok:Ya4 PR 28 1 (.loop c) fr:=
 Yxk Xf Xg h0 (G:=Xjn.G) Xjn.Gok [(0,([3],[3]))] (fun x s=>((x.1.1,x.1.2.1,s.1,x.1.2.2.2),(s.2,x.2.2)))
  (fun x s=>by simp only[B,mC,mB,mS,mO,mN];kernel_rfl)
end Xiw
namespace Xjn
def pts:List PT:=[.cs (.sl Xl)]
def FS:FS:=Ybr [.sh] pts (fun x=>Xjn x.1) fun t=>⟨[.cd (.sl Xam) t],[]⟩
theorem ok:Yb5 PR 101 FS:=
 Yxj Xf Xg Proofs.Tryz.f101 h0 (.R (.R (.L (.R (.one (.fr 0)))))) (G:=G) Gok (L:=mkL [(0,Xiw.fr)]) (l:=[(0,.loop Xiw.c)]) ⟨Lam.cons Xiw.ok,trivial⟩
  (fun x=>by simp only[Xjn,mC,mB,mS,mO,mN];kernel_rfl)
end Xjn
def Xno (v:Int):Option (List Xu):=
 some ([(true,0,[],()),(false,0,[7,w64 (v+1)],()),(true,0,[],())])
namespace Xno
def pts:List PT:=[.cs I64]
def FS:FS:=Ybr [.sh] pts (fun x=>Xno x.1) fun t=>⟨[.cd (.sl Xam) t],[]⟩
theorem ok:Yb5 PR 104 FS:=
 Yxj Xf Xg Proofs.Tryz.f104 h0 .no (G:=(mkG [])) .nil (L:=mkL []) (l:=[]) hT
  (fun x=>by simp only[Xno,mC,mB,mS,mO,mN];kernel_rfl)
end Xno
def Xmk (v:Xd):Option Xhm:=
 (Xko v).bind fun v2=>cond (v2.1 != 0) (some (v2.1,[],())) ((Xja v v2.2.1).bind fun v3=>cond (cond (!v3.2) true (decide (v2.2.1≥60000))) (some (0,[],())) ((Xjn v3.1).bind fun v4=>(Xno v2.2.1).bind fun v5=>cond (decide ((v4++v5).length≤2147483648)) (some (0,v4++v5,())) none))
namespace Xmk
def G:Gam:=mkG [(46,Xko.FS),(192,Xja.FS),(101,Xjn.FS),(104,Xno.FS)]
def pts:List PT:=[.cs Xh]
def FS:FS:=Ybr [.sh] pts (fun x=>Xmk x.1) fun t=>⟨[.cd Xdk t],[]⟩
theorem ok:Yb5 PR 129 FS:=
 Yxj Xf Xg Proofs.Tryz.f129 ⟨[1],[],[],0⟩ .no (G:=G) (show GOk PR G from .cons Xko.ok (.cons Xja.ok (.cons Xjn.ok (.cons Xno.ok .nil)))) (L:=mkL []) (l:=[]) hT
  (fun x=>by simp only[Xmk,mC,mB,mS,mO,mN];kernel_rfl)
end Xmk
def Xiz.B (v:Xd) (v3:Xd) (v2:Int) (v4:Xd):Option ((Int×Xd)⊕Xd):=
 cond (decide (v2<(v.1.length:Int))) (cond (inB v2 v.1.length) ((Xaw (v.1.getD v2.toNat [])).bind fun v5=>cond (decide ((v4.1++([v5])).length≤2147483648)) (some (.inl (w64 (v2+1),(v4.1++([v5]),v4.2)))) none) none) (some (.inr v4))
def Xiz (v:Xd) (v3:Xd):(Int×Xd)→Option Xd:=
 Y9 fun s=>Xiz.B v v3 s.1 s.2
def Xi5.B (v:Xd) (v8:Xd) (v7:Int) (v9:Xd):Option ((Int×Xd)⊕Xd):=
 cond (decide (v7<(v.2.1.length:Int))) (cond (inB v7 v.2.1.length) (cond (inB v7 v.2.1.length) ((Xaw (v.2.1.getD v7.toNat Xab).2.1).bind fun v10=>(some (v9.2.1++([((v.2.1.getD v7.toNat Xab).1,v10,())]))).bind fun v11=>cond (decide (v11.length≤2147483648)) (some (.inl (w64 (v7+1),(v9.1,v11,v9.2.2)))) none) none) none) (some (.inr v9))
def Xi5 (v:Xd) (v8:Xd):(Int×Xd)→Option Xd:=
 Y9 fun s=>Xi5.B v v8 s.1 s.2
def Xdn (v:Xd):Option Xd:=
 (Xiz v ([],[],()) (0,([],[],()))).bind fun v6=>(Xi5 v ([],[],()) (0,v6)).bind fun v12=>some (v12.1,v12.2.1,v12.2.2)
namespace Xdn
def G:Gam:=mkG [(103,Xaw.FS)]
theorem Gok:GOk PR G:=.cons Xaw.ok .nil
end Xdn
namespace Xiz
def c:=Yaq (Yah Proofs.Tryz.f193) [1,1,0,1,0,0]
def sp:SP:=⟨[(1,.pt Xh),(2,.loc 2 []),(3,.loc 3 []),(4,.cs I64)],[(2,.mem,.cd Xh),(3,.mem,.cd Xh)]⟩
def fr:=Yi4 sp (fun x s=>Xiz.B x.1.1 x.2.1 s.1 s.2) (fun x=>(x.1.2.2.2.1,x.2.2.1)) fun x (bb0:Xd) _ kk0=>kk0 (.ex 0) ⟨[(1,.pt Xh x.1.1),(2,.loc 2 []),(3,.loc 3 [])],[(2,some ⟨.mem,.cd Xh x.2.1⟩),(3,some ⟨.mem,.cd Xh bb0⟩)]⟩
theorem ok:Ya4 PR 52 1 (.loop c) fr:=
 Yxk Xf Xg ⟨[1],[],[],0⟩ (G:=Xdn.G) Xdn.Gok [(0,([1,2,3],[2,3]))] (fun x s=>((x.1.1,x.1.2.1,x.1.2.2.1,s.1,x.1.2.2.2.2),(x.2.1,s.2,x.2.2.2)))
  (fun x s=>by simp only[B,mC,mB,mS,mO,mN];kernel_rfl)
end Xiz
namespace Xi5
def c:=Yaq (Yah Proofs.Tryz.f193) [1,1,1,0,1,0,0]
def sp:SP:=⟨[(1,.pt Xh),(2,.loc 2 []),(3,.loc 3 []),(5,.cs I64)],[(2,.mem,.cd Xh),(3,.mem,.cd Xh)]⟩
def fr:=Yi4 sp (fun x s=>Xi5.B x.1.1 x.2.1 s.1 s.2) (fun x=>(x.1.2.2.2.1,x.2.2.1)) fun x (bb0:Xd) _ kk0=>kk0 (.ex 2) ⟨[(2,.loc 2 []),(3,.loc 3 [])],[(2,some ⟨.mem,.cd Xh x.2.1⟩),(3,some ⟨.mem,.cd Xh bb0⟩)]⟩
theorem ok:Ya4 PR 52 1 (.loop c) fr:=
 Yxk Xf Xg ⟨[1],[],[],0⟩ (G:=Xdn.G) Xdn.Gok [(2,([2,3],[2,3]))] (fun x s=>((x.1.1,x.1.2.1,x.1.2.2.1,s.1,x.1.2.2.2.2),(x.2.1,s.2,x.2.2.2)))
  (fun x s=>by simp only[B,mC,mB,mS,mO,mN];kernel_rfl)
end Xi5
namespace Xdn
def pts:List PT:=[.cs Xh]
def FS:FS:=Ybr [.sh] pts (fun x=>Xdn x.1) fun t=>⟨[.cd Xh t],[]⟩
theorem ok:Yb5 PR 193 FS:=
 Yxj Xf Xg Proofs.Tryz.f193 ⟨[1],[],[],0⟩ (.R (.R (.two (.R (.one (.fr 0))) (.L (.R (.one (.fr 1))))))) (G:=G) Gok (L:=mkL [(0,Xiz.fr),(1,Xi5.fr)]) (l:=[(0,.loop Xiz.c),(1,.loop Xi5.c)]) ⟨Lam.cons Xiz.ok,Lam.skip rfl (Lam.cons Xi5.ok),trivial⟩
  (fun x=>by simp only[Xdn,mC,mB,mS,mO,mN];kernel_rfl)
end Xdn
def Xhc.B (v2:List Bool) (v3:Bool) (v:Xd) (v6:Xd) (v5:Int) (v7:Xd):Option ((Int×Xd)⊕Xd):=
 cond (decide (v5<(v.2.1.length:Int))) (cond (cond ((!v3)&&(decide (v5<(v2.length:Int)))) (inB v5 v2.length) true) ((some (cond v3 true (cond (decide (v5<(v2.length:Int))) (v2.getD v5.toNat false) false))).bind fun v8=>cond v8 (cond (inB v5 v.2.1.length) (cond (inB v5 v.2.1.length) ((Xaw (v.2.1.getD v5.toNat Xab).2.1).bind fun v9=>cond (inB (v.2.1.getD v5.toNat Xab).1 v7.1.length) ((some (v7.1.set ((v.2.1.getD v5.toNat Xab).1.toNat) v9)).bind fun v10=>some (.inl (w64 (v5+1),(v10,v7.2)))) none) none) none) (some (.inl (w64 (v5+1),v7)))) none) (some (.inr v7))
def Xhc (v2:List Bool) (v3:Bool) (v:Xd) (v6:Xd):(Int×Xd)→Option Xd:=
 Y9 fun s=>Xhc.B v2 v3 v v6 s.1 s.2
def Xgr (v:Xd) (v2:List Bool) (v3:Bool):Option Xd:=
 (Xdn v).bind fun v4=>(Xhc v2 v3 v ([],[],()) (0,(v4.1,[],v4.2.2))).bind fun v11=>some (v11.1,v11.2.1,v11.2.2)
namespace Xgr
def G:Gam:=mkG [(193,Xdn.FS),(103,Xaw.FS)]
theorem Gok:GOk PR G:=.cons Xdn.ok (.cons Xaw.ok .nil)
end Xgr
namespace Xhc
def c:=Yaq (Yah Proofs.Tryz.f130) [1,1,1,0,1,0,0]
def sp:SP:=⟨[(1,.cs (.sl .bool)),(2,.cs .bool),(3,.pt Xh),(6,.loc 6 []),(7,.loc 7 []),(8,.cs I64)],[(6,.mem,.cd Xh),(7,.mem,.cd Xh)]⟩
def fr:=Yi4 sp (fun x s=>Xhc.B x.1.1 x.1.2.1 x.1.2.2.1 x.2.1 s.1 s.2) (fun x=>(x.1.2.2.2.2.2.1,x.2.2.1)) fun x (bb0:Xd) _ kk0=>kk0 (.ex 0) ⟨[(6,.loc 6 []),(7,.loc 7 [])],[(6,some ⟨.mem,.cd Xh x.2.1⟩),(7,some ⟨.mem,.cd Xh bb0⟩)]⟩
theorem ok:Ya4 PR 49 3 (.loop c) fr:=
 Yxk Xf Xg ⟨[3],[],[],0⟩ (G:=Xgr.G) Xgr.Gok [(0,([6,7],[6,7]))] (fun x s=>((x.1.1,x.1.2.1,x.1.2.2.1,x.1.2.2.2.1,x.1.2.2.2.2.1,s.1,x.1.2.2.2.2.2.2),(x.2.1,s.2,x.2.2.2)))
  (fun x s=>by simp only[B,mC,mB,mS,mO,mN];kernel_rfl)
end Xhc
namespace Xgr
def pts:List PT:=[.cs Xh,.cs (.sl .bool),.cs .bool]
def FS:FS:=Ybr [.sh,.sh,.sh] pts (fun x=>Xgr x.1 x.2.1 x.2.2.1) fun t=>⟨[.cd Xh t],[]⟩
theorem ok:Yb5 PR 130 FS:=
 Yxj Xf Xg Proofs.Tryz.f130 ⟨[3],[],[],0⟩ (.R (.R (.R (.L (.R (.one (.fr 0))))))) (G:=G) Gok (L:=mkL [(0,Xhc.fr)]) (l:=[(0,.loop Xhc.c)]) ⟨Lam.cons Xhc.ok,trivial⟩
  (fun x=>by simp only[Xgr,mC,mB,mS,mO,mN];kernel_rfl)
end Xgr
def Xmh (v:Xu):Option Int:=
 (some (cond v.1 (cond (v.2.1 != 0) true (decide ((v.2.2.1.length:Int)>0))) false)).bind fun v2=>cond v2 (some 1) ((Xae v.2.1 0 46).bind fun v3=>cond (!v3) (some 3) ((Xdt v.2.2.1).bind fun v4=>some v4))
namespace Xmh
def G:Gam:=mkG [(144,Xae.FS),(168,Xdt.FS)]
def pts:List PT:=[.cs Xam]
def FS:FS:=Ybr [.sh] pts (fun x=>Xmh x.1) fun t=>⟨[.cs I64 t],[]⟩
theorem ok:Yb5 PR 213 FS:=
 Yxj Xf Xg Proofs.Tryz.f213 ⟨[1],[],[],0⟩ .no (G:=G) (show GOk PR G from .cons Xae.ok (.cons Xdt.ok .nil)) (L:=mkL []) (l:=[]) hT
  (fun x=>by simp only[Xmh,mC,mB,mS,mO,mN];kernel_rfl)
end Xmh
def Xkj.B (v:List Xu) (v2:Int):Option (Int⊕((Int⊕Unit))):=
 cond (decide (v2<(v.length:Int))) (cond (inB v2 v.length) ((Xmh (v.getD v2.toNat Xg5)).bind fun v3=>cond (v3 != 0) (some (.inr (.inl v3))) (some (.inl (w64 (v2+1))))) none) (some (.inr (.inr ())))
def Xkj (v:List Xu):Int→Option ((Int⊕Unit)):=
 Y9 fun s=>Xkj.B v s
def Xjb (v:List Xu):Option Int:=
 cond (decide ((v.length:Int)>120)) (some 2) ((Xkj v 0).bind fun v4=>sel v4 (fun v5=>some v5) (fun v6=>some 0))
namespace Xjb
def G:Gam:=mkG [(213,Xmh.FS)]
theorem Gok:GOk PR G:=.cons Xmh.ok .nil
end Xjb
namespace Xkj
def c:=Yaq (Yah Proofs.Tryz.f155) [1,1,0,1,0,0]
def sp:SP:=⟨[(0,.cs (.sl Xam)),(3,.cs I64)],[]⟩
def fr:=Yi4 sp (fun x s=>Xkj.B x.1.1 s) (fun x=>x.1.2.1) fun x (oo0:(Int⊕Unit)) _ kk0=>sel oo0 (fun bb0=>kk0 (.rt) ⟨[(2,.cs I64 bb0)],[]⟩) (fun cc0=>kk0 (.ex 0) ⟨[],[]⟩)
theorem ok:Ya4 PR 22 1 (.loop c) fr:=
 Ytd Xf Xg h0 .no (G:=Xjb.G) Xjb.Gok (L:=mkL []) (l:=[]) hT [(0,([],[]))] ([2],[]) (fun x s=>((x.1.1,s,x.1.2.2),x.2))
  (fun x s=>by simp only[B,mC,mB,mS,mO,mN];kernel_rfl)
end Xkj
namespace Xjb
def pts:List PT:=[.cs (.sl Xam)]
def FS:FS:=Ybr [.sh] pts (fun x=>Xjb x.1) fun t=>⟨[.cs I64 t],[]⟩
theorem ok:Yb5 PR 155 FS:=
 Yxj Xf Xg Proofs.Tryz.f155 h0 (.R (.R (.L (.R (.one (.fr 0)))))) (G:=G) Gok (L:=mkL [(0,Xkj.fr)]) (l:=[(0,.loop Xkj.c)]) ⟨Lam.cons Xkj.ok,trivial⟩
  (fun x=>by simp only[Xjb,mC,mB,mS,mO,mN];kernel_rfl)
end Xjb
def Xm7 (v:Xd) (v2:Int):Option Bool:=
 (Xae v2 0 (w64 ((v.1.length:Int)-1))).bind fun v3=>some v3
namespace Xm7
def G:Gam:=mkG [(144,Xae.FS)]
def pts:List PT:=[.pt Xh,.cs I64]
def FS:FS:=Ybr [.sh,.sh] pts (fun x=>Xm7 x.1 x.2.1) fun t=>⟨[.cs .bool t],[]⟩
theorem ok:Yb5 PR 237 FS:=
 Yxj Xf Xg Proofs.Tryz.f237 h0 .no (G:=G) (show GOk PR G from .cons Xae.ok .nil) (L:=mkL []) (l:=[]) hT
  (fun x=>by simp only[Xm7,mC,mB,mS,mO,mN];kernel_rfl)
end Xm7
def Xk8 (v:Xd) (v2:Int) (v3:List Int):Option Xp:=
 (Xdl v).bind fun v4=>cond (v4 != 0) (some (v4,([],[],()),())) ((Xm7 v v2).bind fun v5=>cond (!v5) (some (3,([],[],()),())) ((Xdt v3).bind fun v6=>cond (v6 != 0) (some (v6,([],[],()),())) (cond (decide ((v.2.1.length:Int)≥200)) (some (2,([],[],()),())) ((Xdn v).bind fun v7=>(Xaw v3).bind fun v8=>cond (decide ((v7.2.1++([(v2,v8,())])).length≤2147483648)) (some (0,(v7.1,v7.2.1++([(v2,v8,())]),v7.2.2),())) none))))
namespace Xk8
def G:Gam:=mkG [(93,Xdl.FS),(237,Xm7.FS),(168,Xdt.FS),(193,Xdn.FS),(103,Xaw.FS)]
def pts:List PT:=[.cs Xh,.cs I64,.cs SI]
def FS:FS:=Ybr [.sh,.sh,.sh] pts (fun x=>Xk8 x.1 x.2.1 x.2.2.1) fun t=>⟨[.cd Xz t],[]⟩
theorem ok:Yb5 PR 214 FS:=
 Yxj Xf Xg Proofs.Tryz.f214 ⟨[3],[],[],0⟩ .no (G:=G) (show GOk PR G from .cons Xdl.ok (.cons Xm7.ok (.cons Xdt.ok (.cons Xdn.ok (.cons Xaw.ok .nil))))) (L:=mkL []) (l:=[]) hT
  (fun x=>by simp only[Xk8,mC,mB,mS,mO,mN];kernel_rfl)
end Xk8
def Xfe.B (v2:List Xu) (v5:Xp) (v4:Int) (v6:Xp):Option ((Int×Xp)⊕((Xp⊕Xp))):=
 cond (decide (v4<(v2.length:Int))) (cond (inB v4 v2.length) (cond (v2.getD v4.toNat Xg5).1 ((Xgr (v6.2.1.1,v6.2.1.2.1,v6.2.1.2.2) [] true).bind fun v7=>some (.inl (w64 (v4+1),(v6.1,(v7.1,v7.2.1,v7.2.2),v6.2.2)))) (cond (inB v4 v2.length) (cond (inB v4 v2.length) ((Xk8 (v6.2.1.1,v6.2.1.2.1,v6.2.1.2.2) (v2.getD v4.toNat Xg5).2.1 (v2.getD v4.toNat Xg5).2.2.1).bind fun v8=>cond (v8.1 != 0) (some (.inr (.inl (v8.1,(v8.2.1.1,v8.2.1.2.1,v8.2.1.2.2),v8.2.2)))) (some (.inl (w64 (v4+1),(v8.1,(v8.2.1.1,v8.2.1.2.1,v8.2.1.2.2),v8.2.2))))) none) none)) none) (some (.inr (.inr v6)))
def Xfe (v2:List Xu) (v5:Xp):(Int×Xp)→Option ((Xp⊕Xp)):=
 Y9 fun s=>Xfe.B v2 v5 s.1 s.2
def Xki (v:Xd) (v2:List Xu):Option Xp:=
 (Xdn v).bind fun v3=>(Xfe v2 (0,([],[],()),()) (0,(0,(v3.1,v3.2.1,v3.2.2),()))).bind fun v9=>sel v9 (fun v10=>some (v10.1,(v10.2.1.1,v10.2.1.2.1,v10.2.1.2.2),v10.2.2)) (fun v11=>some (v11.1,(v11.2.1.1,v11.2.1.2.1,v11.2.1.2.2),v11.2.2))
namespace Xki
def G:Gam:=mkG [(193,Xdn.FS),(130,Xgr.FS),(214,Xk8.FS)]
theorem Gok:GOk PR G:=.cons Xdn.ok (.cons Xgr.ok (.cons Xk8.ok .nil))
end Xki
namespace Xfe
def c:=Yaq (Yah Proofs.Tryz.f156) [1,1,0,1,0,0]
def sp:SP:=⟨[(1,.cs (.sl Xam)),(4,.loc 4 []),(5,.loc 5 []),(6,.cs I64)],[(4,.mem,.cd Xz),(5,.mem,.cd Xz)]⟩
def fr:=Yi4 sp (fun x s=>Xfe.B x.1.1 x.2.1 s.1 s.2) (fun x=>(x.1.2.2.2.1,x.2.2.1)) fun x (oo0:(Xp⊕Xp)) _ kk0=>sel oo0 (fun bb0=>kk0 (.rt) ⟨[(4,.loc 4 [])],[(4,some ⟨.mem,.cd Xz bb0⟩)]⟩) (fun cc0=>kk0 (.ex 0) ⟨[(4,.loc 4 []),(5,.loc 5 [])],[(4,some ⟨.mem,.cd Xz x.2.1⟩),(5,some ⟨.mem,.cd Xz cc0⟩)]⟩)
theorem ok:Ya4 PR 43 2 (.loop c) fr:=
 Ytd Xf Xg ⟨[2],[],[],0⟩ .no (G:=Xki.G) Xki.Gok (L:=mkL []) (l:=[]) hT [(0,([4,5],[4,5]))] ([4],[4]) (fun x s=>((x.1.1,x.1.2.1,x.1.2.2.1,s.1,x.1.2.2.2.2),(x.2.1,s.2,x.2.2.2)))
  (fun x s=>by simp only[B,mC,mB,mS,mO,mN];kernel_rfl)
end Xfe
namespace Xki
def pts:List PT:=[.cs Xh,.cs (.sl Xam)]
def FS:FS:=Ybr [.sh,.sh] pts (fun x=>Xki x.1 x.2.1) fun t=>⟨[.cd Xz t],[]⟩
theorem ok:Yb5 PR 156 FS:=
 Yxj Xf Xg Proofs.Tryz.f156 ⟨[2],[],[],0⟩ (.R (.R (.L (.R (.one (.fr 0)))))) (G:=G) Gok (L:=mkL [(0,Xfe.fr)]) (l:=[(0,.loop Xfe.c)]) ⟨Lam.cons Xfe.ok,trivial⟩
  (fun x=>by simp only[Xki,mC,mB,mS,mO,mN];kernel_rfl)
end Xki
def Xll (v:Xd) (v2:List Xu):Option Xp:=
 (Xdl v).bind fun v3=>cond (v3 != 0) (some (v3,([],[],()),())) (cond ((v.1.length:Int) != 47) (some (1,([],[],()),())) ((Xjb v2).bind fun v4=>cond (v4 != 0) (some (v4,([],[],()),())) ((Xki v v2).bind fun v5=>some (v5.1,(v5.2.1.1,v5.2.1.2.1,v5.2.1.2.2),v5.2.2))))
namespace Xll
def G:Gam:=mkG [(93,Xdl.FS),(155,Xjb.FS),(156,Xki.FS)]
def pts:List PT:=[.cs Xh,.cs (.sl Xam)]
def FS:FS:=Ybr [.sh,.sh] pts (fun x=>Xll x.1 x.2.1) fun t=>⟨[.cd Xz t],[]⟩
theorem ok:Yb5 PR 79 FS:=
 Yxj Xf Xg Proofs.Tryz.f79 ⟨[2],[],[],0⟩ .no (G:=G) (show GOk PR G from .cons Xdl.ok (.cons Xjb.ok (.cons Xki.ok .nil))) (L:=mkL []) (l:=[]) hT
  (fun x=>by simp only[Xll,mC,mB,mS,mO,mN];kernel_rfl)
end Xll
def Xhj (v:List Int) (v2:Int):Option Int:=
 cond (decide (v2<(v.length:Int))) (cond (inB v2 v.length) (some (v.getD v2.toNat 0)) none) (some 0)
namespace Xhj
def pts:List PT:=[.cs SI,.cs I64]
def FS:FS:=Ybr [.sh,.sh] pts (fun x=>Xhj x.1 x.2.1) fun t=>⟨[.cs I64 t],[]⟩
theorem ok:Yb5 PR 228 FS:=
 Yxj Xf Xg Proofs.Tryz.f228 h0 .no (G:=(mkG [])) .nil (L:=mkL []) (l:=[]) hT
  (fun x=>by simp only[Xhj,mC,mB,mS,mO,mN];kernel_rfl)
end Xhj
def Xne (v:Int):Option Bool:=
 (Xae v 0 32).bind fun v2=>some v2
namespace Xne
def G:Gam:=mkG [(144,Xae.FS)]
def pts:List PT:=[.cs I64]
def FS:FS:=Ybr [.sh] pts (fun x=>Xne x.1) fun t=>⟨[.cs .bool t],[]⟩
theorem ok:Yb5 PR 254 FS:=
 Yxj Xf Xg Proofs.Tryz.f254 h0 .no (G:=G) (show GOk PR G from .cons Xae.ok .nil) (L:=mkL []) (l:=[]) hT
  (fun x=>by simp only[Xne,mC,mB,mS,mO,mN];kernel_rfl)
end Xne
def Xm4 (v:Int):Option Int:=
 cond (!((8:Int) == 0)) (some (w64 ((w64 ((w64 (v+8))-1)).tdiv 8))) none
namespace Xm4
def pts:List PT:=[.cs I64]
def FS:FS:=Ybr [.sh] pts (fun x=>Xm4 x.1) fun t=>⟨[.cs I64 t],[]⟩
theorem ok:Yb5 PR 255 FS:=
 Yxj Xf Xg Proofs.Tryz.f255 h0 .no (G:=(mkG [])) .nil (L:=mkL []) (l:=[]) hT
  (fun x=>by simp only[Xm4,mC,mB,mS,mO,mN];kernel_rfl)
end Xm4
def Xkk.B (v:Xb) (v5:Int):Option (Int⊕((Int⊕Unit))):=
 cond (decide (v5<(v.2.2.2.1.length:Int))) (cond (inB v5 v.2.2.2.1.length) ((Xae (v.2.2.2.1.getD v5.toNat 0) 0 19).bind fun v6=>cond (!v6) (some (.inr (.inl 3))) (some (.inl (w64 (v5+1))))) none) (some (.inr (.inr ())))
def Xkk (v:Xb):Int→Option ((Int⊕Unit)):=
 Y9 fun s=>Xkk.B v s
def Xim.B (v:Xb) (v10:Int) (v11:Int):Option (Int⊕((Int⊕Unit))):=
 cond (decide (v11<v10)) (cond (inB v11 v.2.2.2.1.length) (cond (inB v10 v.2.2.2.1.length) ((some ((v.2.2.2.1.getD v11.toNat 0) == (v.2.2.2.1.getD v10.toNat 0))).bind fun v12=>cond v12 (some (.inr (.inl 7))) (some (.inl (w64 (v11+1))))) none) none) (some (.inr (.inr ())))
def Xim (v:Xb) (v10:Int):Int→Option ((Int⊕Unit)):=
 Y9 fun s=>Xim.B v v10 s
def Xjl.B (v:Xb) (v10:Int):Option (Int⊕((Int⊕Unit))):=
 cond (decide (v10<(v.2.2.2.1.length:Int))) ((Xim v v10 0).bind fun v13=>sel v13 (fun v14=>some (.inr (.inl v14))) (fun v15=>some (.inl (w64 (v10+1))))) (some (.inr (.inr ())))
def Xjl (v:Xb):Int→Option ((Int⊕Unit)):=
 Y9 fun s=>Xjl.B v s
def Xgi (v:Xb):Option Int:=
 (Xae v.2.1 1 60).bind fun v2=>cond (!v2) (some 3) ((Xne v.2.2.1).bind fun v3=>cond (!v3) (some 3) ((Xm4 v.2.2.1).bind fun v4=>cond ((v.2.2.2.1.length:Int) != v4) (some 1) ((Xkk v 0).bind fun v7=>sel v7 (fun v8=>some v8) (fun v9=>(Xjl v 0).bind fun v16=>sel v16 (fun v17=>some v17) (fun v18=>some 0)))))
namespace Xgi
def G:Gam:=mkG [(144,Xae.FS),(254,Xne.FS),(255,Xm4.FS)]
theorem Gok:GOk PR G:=.cons Xae.ok (.cons Xne.ok (.cons Xm4.ok .nil))
end Xgi
namespace Xkk
def c:=Yaq (Yah Proofs.Tryz.f239) [1,1,1,0,1,0,0]
def sp:SP:=⟨[(0,.pt Xe),(3,.cs I64)],[]⟩
def fr:=Yi4 sp (fun x s=>Xkk.B x.1.1 s) (fun x=>x.1.2.1) fun x (oo0:(Int⊕Unit)) _ kk0=>sel oo0 (fun bb0=>kk0 (.rt) ⟨[(2,.cs I64 bb0)],[]⟩) (fun cc0=>kk0 (.ex 0) ⟨[(0,.pt Xe x.1.1)],[]⟩)
theorem ok:Ya4 PR 78 1 (.loop c) fr:=
 Ytd Xf Xg h0 .no (G:=Xgi.G) Xgi.Gok (L:=mkL []) (l:=[]) hT [(0,([0],[]))] ([2],[]) (fun x s=>((x.1.1,s,x.1.2.2),x.2))
  (fun x s=>by simp only[B,mC,mB,mS,mO,mN];kernel_rfl)
end Xkk
namespace Xim
def c:=Yaq (Yah Proofs.Tryz.f239) [1,1,1,1,0,1,0,0,1,0,0,1,0,0]
def sp:SP:=⟨[(0,.pt Xe),(4,.cs I64),(5,.cs I64)],[]⟩
def fr:=Yi4 sp (fun x s=>Xim.B x.1.1 x.1.2.1 s) (fun x=>x.1.2.2.1) fun x (oo0:(Int⊕Unit)) _ kk0=>sel oo0 (fun bb0=>kk0 (.rt) ⟨[(2,.cs I64 bb0)],[]⟩) (fun cc0=>kk0 (.ex 4) ⟨[(0,.pt Xe x.1.1),(4,.cs I64 x.1.2.1)],[]⟩)
theorem ok:Ya4 PR 78 1 (.loop c) fr:=
 Ytd Xf Xg h0 .no (G:=Xgi.G) Xgi.Gok (L:=mkL []) (l:=[]) hT [(4,([0,4],[]))] ([2],[]) (fun x s=>((x.1.1,x.1.2.1,s,x.1.2.2.2),x.2))
  (fun x s=>by simp only[B,mC,mB,mS,mO,mN];kernel_rfl)
end Xim
namespace Xjl
def c:=Yaq (Yah Proofs.Tryz.f239) [1,1,1,1,0,1,0,0]
def sp:SP:=⟨[(0,.pt Xe),(4,.cs I64)],[]⟩
def fr:=Yi4 sp (fun x s=>Xjl.B x.1.1 s) (fun x=>x.1.2.1) fun x (oo0:(Int⊕Unit)) _ kk0=>sel oo0 (fun bb0=>kk0 (.rt) ⟨[(2,.cs I64 bb0)],[]⟩) (fun cc0=>kk0 (.ex 2) ⟨[],[]⟩)
theorem ok:Ya4 PR 78 1 (.loop c) fr:=
 Ytd Xf Xg h0 (.R (.L (.one (.R (.one (.fr 2)))))) (G:=Xgi.G) Xgi.Gok (L:=mkL [(2,Xim.fr)]) (l:=[(2,.loop Xim.c)]) ⟨Lam.cons Xim.ok,trivial⟩ [(2,([],[]))] ([2],[]) (fun x s=>((x.1.1,s,x.1.2.2),x.2))
  (fun x s=>by simp only[B,mC,mB,mS,mO,mN];kernel_rfl)
end Xjl
namespace Xgi
def pts:List PT:=[.pt Xe]
def FS:FS:=Ybr [.sh] pts (fun x=>Xgi x.1) fun t=>⟨[.cs I64 t],[]⟩
theorem ok:Yb5 PR 239 FS:=
 Yxj Xf Xg Proofs.Tryz.f239 h0 (.R (.R (.R (.two (.R (.one (.fr 0))) (.L (.R (.one (.fr 1)))))))) (G:=G) Gok (L:=mkL [(0,Xkk.fr),(2,Xim.fr),(1,Xjl.fr)]) (l:=[(0,.loop Xkk.c),(1,.loop Xjl.c)]) ⟨Lam.cons Xkk.ok,Lam.skip rfl (Lam.skip rfl (Lam.cons Xjl.ok)),trivial⟩
  (fun x=>by simp only[Xgi,mC,mB,mS,mO,mN];kernel_rfl)
end Xgi
def Xkq.B (v:List UInt8) (v2:Int):Option (Int⊕((Int⊕Unit))):=
 cond (decide (v2<(v.length:Int))) (cond (inB v2 v.length) (cond (cond (!(decide (((v.getD v2.toNat 0).toNat:Int)<97))) (inB v2 v.length) true) ((some (cond (decide (((v.getD v2.toNat 0).toNat:Int)<97)) true (decide (((v.getD v2.toNat 0).toNat:Int)>122)))).bind fun v3=>cond v3 (some (.inr (.inl 5))) (some (.inl (w64 (v2+1))))) none) none) (some (.inr (.inr ())))
def Xkq (v:List UInt8):Int→Option ((Int⊕Unit)):=
 Y9 fun s=>Xkq.B v s
def Xml (v:List UInt8):Option Int:=
 (Xkq v 0).bind fun v4=>sel v4 (fun v5=>some v5) (fun v6=>cond (v == ([]:List UInt8)) (some 5) (cond (decide ((v.length:Int)>4)) (some 2) (some 0)))
namespace Xkq
def c:=Yaq (Yah Proofs.Tryz.f256) [1,0,1,0,0]
def sp:SP:=⟨[(0,.cs .str),(3,.cs I64)],[]⟩
def fr:=Yi4 sp (fun x s=>Xkq.B x.1.1 s) (fun x=>x.1.2.1) fun x (oo0:(Int⊕Unit)) _ kk0=>sel oo0 (fun bb0=>kk0 (.rt) ⟨[(2,.cs I64 bb0)],[]⟩) (fun cc0=>kk0 (.ex 0) ⟨[(0,.cs .str x.1.1)],[]⟩)
theorem ok:Ya4 PR 25 1 (.loop c) fr:=
 Ytd Xf Xg h0 .no (G:=(mkG [])) .nil (L:=mkL []) (l:=[]) hT [(0,([0],[]))] ([2],[]) (fun x s=>((x.1.1,s,x.1.2.2),x.2))
  (fun x s=>by simp only[B,mC,mB,mS,mO,mN];kernel_rfl)
end Xkq
namespace Xml
def pts:List PT:=[.cs .str]
def FS:FS:=Ybr [.sh] pts (fun x=>Xml x.1) fun t=>⟨[.cs I64 t],[]⟩
theorem ok:Yb5 PR 256 FS:=
 Yxj Xf Xg Proofs.Tryz.f256 h0 (.R (.L (.R (.one (.fr 0))))) (G:=(mkG [])) .nil (L:=mkL [(0,Xkq.fr)]) (l:=[(0,.loop Xkq.c)]) ⟨Lam.cons Xkq.ok,trivial⟩
  (fun x=>by simp only[Xml,mC,mB,mS,mO,mN];kernel_rfl)
end Xml
def Xjc.B (v:Xb) (v2:Int):Option (Int⊕((Int⊕Unit))):=
 cond (decide (v2<(v.2.2.2.2.1.length:Int))) (cond (inB v2 v.2.2.2.2.1.length) ((Xml (v.2.2.2.2.1.getD v2.toNat Xk).1).bind fun v3=>cond (v3 != 0) (some (.inr (.inl v3))) (cond (inB v2 v.2.2.2.2.1.length) ((Xae (v.2.2.2.2.1.getD v2.toNat Xk).2.1 0 9).bind fun v4=>cond (!v4) (some (.inr (.inl 3))) (cond (cond (decide (v2>0)) (inB v2 v.2.2.2.2.1.length) true) (cond (cond (decide (v2>0)) (inB (w64 (v2-1)) v.2.2.2.2.1.length) true) ((some (cond (decide (v2>0)) (leB (v.2.2.2.2.1.getD v2.toNat Xk).1 (v.2.2.2.2.1.getD (w64 (v2-1)).toNat Xk).1 || (v.2.2.2.2.1.getD v2.toNat Xk).1 == (v.2.2.2.2.1.getD (w64 (v2-1)).toNat Xk).1) false)).bind fun v5=>cond v5 (some (.inr (.inl 1))) (some (.inl (w64 (v2+1))))) none) none)) none)) none) (some (.inr (.inr ())))
def Xjc (v:Xb):Int→Option ((Int⊕Unit)):=
 Y9 fun s=>Xjc.B v s
def Xi0 (v:Xb):Option Int:=
 cond (decide ((v.2.2.2.2.1.length:Int)>6)) (some 2) ((Xjc v 0).bind fun v6=>sel v6 (fun v7=>some v7) (fun v8=>some 0))
namespace Xi0
def G:Gam:=mkG [(256,Xml.FS),(144,Xae.FS)]
theorem Gok:GOk PR G:=.cons Xml.ok (.cons Xae.ok .nil)
end Xi0
namespace Xjc
def c:=Yaq (Yah Proofs.Tryz.f240) [1,1,0,1,0,0]
def sp:SP:=⟨[(0,.pt Xe),(3,.cs I64)],[]⟩
def fr:=Yi4 sp (fun x s=>Xjc.B x.1.1 s) (fun x=>x.1.2.1) fun x (oo0:(Int⊕Unit)) _ kk0=>sel oo0 (fun bb0=>kk0 (.rt) ⟨[(2,.cs I64 bb0)],[]⟩) (fun cc0=>kk0 (.ex 0) ⟨[],[]⟩)
theorem ok:Ya4 PR 64 1 (.loop c) fr:=
 Ytd Xf Xg h0 .no (G:=Xi0.G) Xi0.Gok (L:=mkL []) (l:=[]) hT [(0,([],[]))] ([2],[]) (fun x s=>((x.1.1,s,x.1.2.2),x.2))
  (fun x s=>by simp only[B,mC,mB,mS,mO,mN];kernel_rfl)
end Xjc
namespace Xi0
def pts:List PT:=[.pt Xe]
def FS:FS:=Ybr [.sh] pts (fun x=>Xi0 x.1) fun t=>⟨[.cs I64 t],[]⟩
theorem ok:Yb5 PR 240 FS:=
 Yxj Xf Xg Proofs.Tryz.f240 h0 (.R (.R (.L (.R (.one (.fr 0)))))) (G:=G) Gok (L:=mkL [(0,Xjc.fr)]) (l:=[(0,.loop Xjc.c)]) ⟨Lam.cons Xjc.ok,trivial⟩
  (fun x=>by simp only[Xi0,mC,mB,mS,mO,mN];kernel_rfl)
end Xi0
def Xg9 (v:Xb):Option Int:=
 (Xae v.1 0 2).bind fun v2=>cond (!v2) (some 1) ((some (cond (v.1 != 1) (cond (cond (v.2.1 != 0) true (v.2.2.1 != 0)) true (decide ((v.2.2.2.1.length:Int)>0))) false)).bind fun v3=>(some (cond v3 true (cond (v.1 != 2) (decide ((v.2.2.2.2.1.length:Int)>0)) false))).bind fun v4=>cond v4 (some 1) (cond (v.1 == 1) ((Xgi v).bind fun v5=>some v5) (cond (v.1 == 2) ((Xi0 v).bind fun v6=>some v6) (some 0))))
namespace Xg9
def G:Gam:=mkG [(144,Xae.FS),(239,Xgi.FS),(240,Xi0.FS)]
def pts:List PT:=[.pt Xe]
def FS:FS:=Ybr [.sh] pts (fun x=>Xg9 x.1) fun t=>⟨[.cs I64 t],[]⟩
theorem ok:Yb5 PR 220 FS:=
 Yxj Xf Xg Proofs.Tryz.f220 h0 .no (G:=G) (show GOk PR G from .cons Xae.ok (.cons Xgi.ok (.cons Xi0.ok .nil))) (L:=mkL []) (l:=[]) hT
  (fun x=>by simp only[Xg9,mC,mB,mS,mO,mN];kernel_rfl)
end Xg9
def Xhy.B (v:Xb) (v3:Int) (v9:Xc) (v7:Int) (v8:List Int):Option ((Int×List Int)⊕(List Int)):=
 cond (decide (v7<(v9.1.length:Int))) (cond (inB v7 v9.1.length) ((some (v8++([w64 (((v9.1.getD v7.toNat 0).toNat:Int))]))).bind fun v10=>cond (decide (v10.length≤2147483648)) (some (.inl (w64 (v7+1),v10))) none) none) (some (.inr v8))
def Xhy (v:Xb) (v3:Int) (v9:Xc):(Int×List Int)→Option (List Int):=
 Y9 fun s=>Xhy.B v v3 v9 s.1 s.2
def Xi2.B (v:Xb) (v3:Int) (v4:List Int):Option ((Int×List Int)⊕(List Int)):=
 cond (decide (v3<(v.2.2.2.2.1.length:Int))) (cond (inB v3 v.2.2.2.2.1.length) ((some ((v.2.2.2.2.1.getD v3.toNat Xk).1.length:Int)).bind fun v5=>(some (v4++([(v.2.2.2.2.1.getD v3.toNat Xk).2.1,v5]))).bind fun v6=>cond (decide (v6.length≤2147483648)) ((Xhy v v3 (v.2.2.2.2.1.getD v3.toNat Xk) (0,v6)).bind fun v11=>some (.inl (w64 (v3+1),v11))) none) none) (some (.inr v4))
def Xi2 (v:Xb):(Int×List Int)→Option (List Int):=
 Y9 fun s=>Xi2.B v s.1 s.2
def Xkd (v:Xb):Option (List Int):=
 cond (decide ((([v.1,v.2.1,v.2.2.1])++v.2.2.2.1).length≤2147483648)) (cond (v.1 != 2) (some (([v.1,v.2.1,v.2.2.1])++v.2.2.2.1)) ((some ((([v.1,v.2.1,v.2.2.1])++v.2.2.2.1)++([(v.2.2.2.2.1.length:Int)]))).bind fun v2=>cond (decide (v2.length≤2147483648)) ((Xi2 v (0,v2)).bind fun v12=>some v12) none)) none
namespace Xhy
def c:=Yaq (Yah Proofs.Tryz.f176) [1,1,1,1,0,1,0,0,1,0,0,1,1,1,0,0]
def sp:SP:=⟨[(1,.pt Xe),(3,.seg 3 []),(4,.cs I64),(5,.loc 5 []),(6,.cs I64)],[(3,.reg,.cd SI),(5,.mem,.cd Xm)]⟩
def fr:=Yi4 sp (fun x s=>Xhy.B x.1.1 x.1.2.2.1 x.2.2.1 s.1 s.2) (fun x=>(x.1.2.2.2.2.1,x.2.1)) fun x (bb0:List Int) _ kk0=>kk0 (.ex 2) ⟨[(1,.pt Xe x.1.1),(3,.seg 3 []),(4,.cs I64 x.1.2.2.1)],[sr 3 (.cd SI bb0)]⟩
theorem ok:Ya4 PR 63 1 (.loop c) fr:=
 Yw6 Xf Xg ⟨[1],[],[],0⟩ [(2,([1,3,4],[3]))] (fun x s=>((x.1.1,x.1.2.1,x.1.2.2.1,x.1.2.2.2.1,s.1,x.1.2.2.2.2.2),(s.2,x.2.2)))
  (fun x s=>by simp only[B,mC,mB,mS,mO,mN];kernel_rfl)
end Xhy
namespace Xi2
def c:=Yaq (Yah Proofs.Tryz.f176) [1,1,1,1,0,1,0,0]
def sp:SP:=⟨[(1,.pt Xe),(3,.seg 3 []),(4,.cs I64)],[(3,.reg,.cd SI)]⟩
def fr:=Yi4 sp (fun x s=>Xi2.B x.1.1 s.1 s.2) (fun x=>(x.1.2.2.1,x.2.1)) fun x (bb0:List Int) _ kk0=>kk0 (.ex 0) ⟨[(3,.seg 3 [])],[sr 3 (.cd SI bb0)]⟩
theorem ok:Ya4 PR 63 1 (.loop c) fr:=
 Yxl Xf Xg ⟨[1],[],[],0⟩ (.R (.L (.one (.R (.R (.R (.one (.fr 1)))))))) (L:=mkL [(1,Xhy.fr)]) (l:=[(1,.loop Xhy.c)]) ⟨Lam.cons Xhy.ok,trivial⟩ [(0,([3],[3]))] (fun x s=>((x.1.1,x.1.2.1,s.1,x.1.2.2.2),(s.2,x.2.2)))
  (fun x s=>by simp only[B,mC,mB,mS,mO,mN];kernel_rfl)
end Xi2
namespace Xkd
def pts:List PT:=[.cs Xe]
def FS:FS:=Ybr [.sh] pts (fun x=>Xkd x.1) fun t=>⟨[.cd SI t],[]⟩
theorem ok:Yb5 PR 176 FS:=
 Yxj Xf Xg Proofs.Tryz.f176 ⟨[1],[],[],0⟩ (.R (.R (.R (.R (.L (.R (.one (.fr 0)))))))) (G:=(mkG [])) .nil (L:=mkL [(1,Xhy.fr),(0,Xi2.fr)]) (l:=[(0,.loop Xi2.c)]) ⟨Lam.skip rfl (Lam.cons Xi2.ok),trivial⟩
  (fun x=>by simp only[Xkd,mC,mB,mS,mO,mN];kernel_rfl)
end Xkd
def Xhv.B (v:List Int) (v7:Int) (v13:Int) (v16:Int) (v17:List Int) (v10:Int) (v18:Bool) (v8:Xb) (v9:Xb) (v14:Int) (v15:Int) (v19:Xc):Option ((Int×Int×Xc)⊕(Int×Xc)):=
 (some (cond (decide (v15<v13)) (decide (v15<8)) false)).bind fun v20=>cond v20 ((Xhj v v14).bind fun v21=>cond (!((256:Int) == 0)) ((some (([IntKind.u8.wrap (v21.tmod 256)]).map fun n=>UInt8.ofNat n.toNat)).bind fun v22=>cond (decide (v19.1.length+v22.length≤2147483648)) (some (.inl (w64 (v14+1),w64 (v15+1),(v19.1++v22,v19.2)))) none) none) (some (.inr (v14,v19)))
def Xhv (v:List Int) (v7:Int) (v13:Int) (v16:Int) (v17:List Int) (v10:Int) (v18:Bool) (v8:Xb) (v9:Xb):(Int×Int×Xc)→Option (Int×Xc):=
 Y9 fun s=>Xhv.B v v7 v13 v16 v17 v10 v18 v8 v9 s.1 s.2.1 s.2.2
def Xds.B (v:List Int) (v8:Xb) (v6:Int) (v7:Int) (v9:Xb):Option ((Int×Int×Xb)⊕Xb):=
 cond (v9.1 == 2) ((Xhj v 3).bind fun v10=>(some (cond (decide (v7<v10)) (decide (v6<(v.length:Int))) false)).bind fun v11=>cond v11 ((Xhj v v6).bind fun v12=>(Xhj v (w64 (v6+1))).bind fun v13=>(Xhv v v7 v13 v7 v v10 (decide (v7<v10)) v8 v9 (w64 (v6+2),0,([],v12,()))).bind fun v23=>cond (decide ((v9.2.2.2.2.1++([v23.2])).length≤2147483648)) (some (.inl (v23.1,w64 (v7+1),(v9.1,v9.2.1,v9.2.2.1,v9.2.2.2.1,v9.2.2.2.2.1++([v23.2]),v9.2.2.2.2.2)))) none) (some (.inr v9))) (some (.inr v9))
def Xds (v:List Int) (v8:Xb):(Int×Int×Xb)→Option Xb:=
 Y9 fun s=>Xds.B v v8 s.1 s.2.1 s.2.2
def Xgt (v:List Int):Option (Xb×Bool):=
 cond ((v.length:Int) == 0) (some ((0,0,0,[],[],()),true)) (cond (inB 0 v.length) ((Xhj v 1).bind fun v2=>(Xhj v 2).bind fun v3=>(some (cond ((v.getD (0:Int).toNat 0) == 1) (decide ((v.length:Int)>3)) false)).bind fun v4=>cond v4 (cond (decide ((0:Int)≤(3:Int))&&decide ((3:Int)≤(v.length:Int))) ((Xaw ((v.take v.length).drop ((3:Int).toNat))).bind fun v5=>(Xds v (0,0,0,[],[],()) (4,0,(v.getD (0:Int).toNat 0,v2,v3,v5,[],()))).bind fun v24=>(Xg9 v24).bind fun v25=>cond (v25 == 0) ((Xkd (v24.1,v24.2.1,v24.2.2.1,v24.2.2.2.1,v24.2.2.2.2.1,v24.2.2.2.2.2)).bind fun v26=>(Xhb v26 v).bind fun v27=>some ((v24.1,v24.2.1,v24.2.2.1,v24.2.2.2.1,v24.2.2.2.2.1,v24.2.2.2.2.2),v27)) (some ((v24.1,v24.2.1,v24.2.2.1,v24.2.2.2.1,v24.2.2.2.2.1,v24.2.2.2.2.2),false))) none) ((Xds v (0,0,0,[],[],()) (4,0,(v.getD (0:Int).toNat 0,v2,v3,[],[],()))).bind fun v28=>(Xg9 v28).bind fun v29=>cond (v29 == 0) ((Xkd (v28.1,v28.2.1,v28.2.2.1,v28.2.2.2.1,v28.2.2.2.2.1,v28.2.2.2.2.2)).bind fun v30=>(Xhb v30 v).bind fun v31=>some ((v28.1,v28.2.1,v28.2.2.1,v28.2.2.2.1,v28.2.2.2.2.1,v28.2.2.2.2.2),v31)) (some ((v28.1,v28.2.1,v28.2.2.1,v28.2.2.2.1,v28.2.2.2.2.1,v28.2.2.2.2.2),false)))) none)
namespace Xgt
def G:Gam:=mkG [(228,Xhj.FS),(103,Xaw.FS),(220,Xg9.FS),(176,Xkd.FS),(175,Xhb.FS)]
theorem Gok:GOk PR G:=.cons Xhj.ok (.cons Xaw.ok (.cons Xg9.ok (.cons Xkd.ok (.cons Xhb.ok .nil))))
end Xgt
namespace Xhv
def c:=Yaq (Yah Proofs.Tryz.f194) [1,1,1,1,1,0,1,0,0,1,0,0,1,1,1,0,1,0,0]
def sp:SP:=⟨[(0,.cs SI),(2,.loc 2 []),(4,.loc 4 []),(5,.cs I64),(6,.cs I64),(7,.loc 7 []),(8,.cs I64),(9,.cs I64),(38,.cs I64),(39,.cs SI),(40,.cs I64),(41,.cs .bool)],[(2,.mem,.cd Xe),(4,.mem,.cd Xe),(7,.mem,.cd Xm)]⟩
def fr:=Yi4 sp (fun x s=>Xhv.B x.1.1 x.1.2.2.2.2.1 x.1.2.2.2.2.2.2.1 x.1.2.2.2.2.2.2.2.2.1 x.1.2.2.2.2.2.2.2.2.2.1 x.1.2.2.2.2.2.2.2.2.2.2.1 x.1.2.2.2.2.2.2.2.2.2.2.2.1 x.2.1 x.2.2.1 s.1 s.2.1 s.2.2) (fun x=>(x.1.2.2.2.1,x.1.2.2.2.2.2.2.2.1,x.2.2.2.1)) fun x (bb0:Int×Xc) _ kk0=>kk0 (.ex 2) ⟨[(0,.cs SI x.1.1),(2,.loc 2 []),(4,.loc 4 []),(5,.cs I64 bb0.1),(6,.cs I64 x.1.2.2.2.2.1),(7,.loc 7 []),(38,.cs I64 x.1.2.2.2.2.2.2.2.2.1),(39,.cs SI x.1.2.2.2.2.2.2.2.2.2.1),(40,.cs I64 x.1.2.2.2.2.2.2.2.2.2.2.1),(41,.cs .bool x.1.2.2.2.2.2.2.2.2.2.2.2.1)],[(2,some ⟨.mem,.cd Xe x.2.1⟩),(4,some ⟨.mem,.cd Xe x.2.2.1⟩),(7,some ⟨.mem,.cd Xm bb0.2⟩)]⟩
theorem ok:Ya4 PR 98 1 (.loop c) fr:=
 Yxk Xf Xg h0 (G:=Xgt.G) Xgt.Gok [(2,([0,2,4,5,6,7,38,39,40,41],[2,4,7]))] (fun x s=>((x.1.1,x.1.2.1,x.1.2.2.1,s.1,x.1.2.2.2.2.1,x.1.2.2.2.2.2.1,x.1.2.2.2.2.2.2.1,s.2.1,x.1.2.2.2.2.2.2.2.2),(x.2.1,x.2.2.1,s.2.2,x.2.2.2.2)))
  (fun x s=>by simp only[B,mC,mB,mS,mO,mN];kernel_rfl)
end Xhv
namespace Xds
def c:=Yaq (Yah Proofs.Tryz.f194) [1,1,1,1,1,0,1,0,0]
def sp:SP:=⟨[(0,.cs SI),(2,.loc 2 []),(4,.loc 4 []),(5,.cs I64),(6,.cs I64)],[(2,.mem,.cd Xe),(4,.mem,.cd Xe)]⟩
def fr:=Yi4 sp (fun x s=>Xds.B x.1.1 x.2.1 s.1 s.2.1 s.2.2) (fun x=>(x.1.2.2.2.1,x.1.2.2.2.2.1,x.2.2.1)) fun x (bb0:Xb) _ kk0=>kk0 (.ex 0) ⟨[(0,.cs SI x.1.1),(2,.loc 2 []),(4,.loc 4 [])],[(2,some ⟨.mem,.cd Xe x.2.1⟩),(4,some ⟨.mem,.cd Xe bb0⟩)]⟩
theorem ok:Ya4 PR 98 1 (.loop c) fr:=
 Yxp Xf Xg h0 (.R (.L (.one (.R (.R (.R (.L (.R (.one (.fr 1)))))))))) (G:=Xgt.G) Xgt.Gok (L:=mkL [(1,Xhv.fr)]) (l:=[(1,.loop Xhv.c)]) ⟨Lam.cons Xhv.ok,trivial⟩ [(0,([0,2,4],[2,4]))] (fun x s=>((x.1.1,x.1.2.1,x.1.2.2.1,s.1,s.2.1,x.1.2.2.2.2.2),(x.2.1,s.2.2,x.2.2.2)))
  (fun x s=>by simp only[B,mC,mB,mS,mO,mN];kernel_rfl)
end Xds
namespace Xgt
def pts:List PT:=[.cs SI]
def FS:FS:=Ybr [.sh] pts (fun x=>Xgt x.1) fun t=>⟨[.cd Xe t.1,.cs .bool t.2],[]⟩
theorem ok:Yb5 PR 194 FS:=
 Yxj Xf Xg Proofs.Tryz.f194 h0 (.R (.R (.R (.R (.R (.L (.R (.one (.fr 0))))))))) (G:=G) Gok (L:=mkL [(1,Xhv.fr),(0,Xds.fr)]) (l:=[(0,.loop Xds.c)]) ⟨Lam.skip rfl (Lam.cons Xds.ok),trivial⟩
  (fun x=>by simp only[Xgt,mC,mB,mS,mO,mN];kernel_rfl)
end Xgt
def Xkb.B (v:List Xb) (v2:Int):Option (Int⊕((Int⊕Unit))):=
 cond (decide (v2<(v.length:Int))) (cond (inB v2 v.length) ((Xg9 (v.getD v2.toNat Xa)).bind fun v3=>cond (v3 != 0) (some (.inr (.inl v3))) (some (.inl (w64 (v2+1))))) none) (some (.inr (.inr ())))
def Xkb (v:List Xb):Int→Option ((Int⊕Unit)):=
 Y9 fun s=>Xkb.B v s
def Xgs (v:List Xb):Option Int:=
 cond (decide ((v.length:Int)>10)) (some 2) ((Xkb v 0).bind fun v4=>sel v4 (fun v5=>some v5) (fun v6=>some 0))
namespace Xgs
def G:Gam:=mkG [(220,Xg9.FS)]
theorem Gok:GOk PR G:=.cons Xg9.ok .nil
end Xgs
namespace Xkb
def c:=Yaq (Yah Proofs.Tryz.f169) [1,1,0,1,0,0]
def sp:SP:=⟨[(0,.cs (.sl Xe)),(3,.cs I64)],[]⟩
def fr:=Yi4 sp (fun x s=>Xkb.B x.1.1 s) (fun x=>x.1.2.1) fun x (oo0:(Int⊕Unit)) _ kk0=>sel oo0 (fun bb0=>kk0 (.rt) ⟨[(2,.cs I64 bb0)],[]⟩) (fun cc0=>kk0 (.ex 0) ⟨[],[]⟩)
theorem ok:Ya4 PR 21 1 (.loop c) fr:=
 Ytd Xf Xg h0 .no (G:=Xgs.G) Xgs.Gok (L:=mkL []) (l:=[]) hT [(0,([],[]))] ([2],[]) (fun x s=>((x.1.1,s,x.1.2.2),x.2))
  (fun x s=>by simp only[B,mC,mB,mS,mO,mN];kernel_rfl)
end Xkb
namespace Xgs
def pts:List PT:=[.cs (.sl Xe)]
def FS:FS:=Ybr [.sh] pts (fun x=>Xgs x.1) fun t=>⟨[.cs I64 t],[]⟩
theorem ok:Yb5 PR 169 FS:=
 Yxj Xf Xg Proofs.Tryz.f169 h0 (.R (.R (.L (.R (.one (.fr 0)))))) (G:=G) Gok (L:=mkL [(0,Xkb.fr)]) (l:=[(0,.loop Xkb.c)]) ⟨Lam.cons Xkb.ok,trivial⟩
  (fun x=>by simp only[Xgs,mC,mB,mS,mO,mN];kernel_rfl)
end Xgs
def Xhn.B (v:List Xb) (v2:Int) (v4:Int) (v5:Int) (v6:Int):Option ((Int×Int)⊕Int):=
 cond (inB v4 v.length) ((some ((v.getD v4.toNat Xa).2.2.2.1.length:Int)).bind fun v7=>cond (decide (v6<v7)) (cond (inB v4 v.length) (cond (inB v6 ((v.getD v4.toNat Xa).2.2.2.1.length)) ((some ((v.getD v4.toNat Xa).2.2.2.1.getD v6.toNat 0)).bind fun v8=>cond (v8 == v2) (some (.inl (w64 (v5+1),w64 (v6+1)))) (some (.inl (v5,w64 (v6+1))))) none) none) (some (.inr v5))) none
def Xhn (v:List Xb) (v2:Int) (v4:Int):(Int×Int)→Option Int:=
 Y9 fun s=>Xhn.B v v2 v4 s.1 s.2
def Xjm.B (v:List Xb) (v2:Int) (v3:Int) (v4:Int):Option ((Int×Int)⊕Int):=
 cond (decide (v4<(v.length:Int))) ((Xhn v v2 v4 (v3,0)).bind fun v9=>some (.inl (v9,w64 (v4+1)))) (some (.inr v3))
def Xjm (v:List Xb) (v2:Int):(Int×Int)→Option Int:=
 Y9 fun s=>Xjm.B v v2 s.1 s.2
def Xkp (v:List Xb) (v2:Int):Option Int:=
 (Xjm v v2 (0,0)).bind fun v10=>some v10
namespace Xhn
def c:=Yaq (Yah Proofs.Tryz.f206) [1,1,0,1,0,0,1,0,0,1,0,0]
def sp:SP:=⟨[(0,.cs (.sl Xe)),(1,.cs I64),(5,.cs I64),(6,.cs I64),(7,.cs I64)],[]⟩
def fr:=Yi4 sp (fun x s=>Xhn.B x.1.1 x.1.2.1 x.1.2.2.2.1 s.1 s.2) (fun x=>(x.1.2.2.1,x.1.2.2.2.2.1)) fun x (bb0:Int) _ kk0=>kk0 (.ex 2) ⟨[(0,.cs (.sl Xe) x.1.1),(1,.cs I64 x.1.2.1),(5,.cs I64 bb0),(6,.cs I64 x.1.2.2.2.1)],[]⟩
theorem ok:Ya4 PR 37 2 (.loop c) fr:=
 Yw6 Xf Xg h0 [(2,([0,1,5,6],[]))] (fun x s=>((x.1.1,x.1.2.1,s.1,x.1.2.2.2.1,s.2,x.1.2.2.2.2.2),x.2))
  (fun x s=>by simp only[B,mC,mB,mS,mO,mN];kernel_rfl)
end Xhn
namespace Xjm
def c:=Yaq (Yah Proofs.Tryz.f206) [1,1,0,1,0,0]
def sp:SP:=⟨[(0,.cs (.sl Xe)),(1,.cs I64),(5,.cs I64),(6,.cs I64)],[]⟩
def fr:=Yi4 sp (fun x s=>Xjm.B x.1.1 x.1.2.1 s.1 s.2) (fun x=>(x.1.2.2.1,x.1.2.2.2.1)) fun x (bb0:Int) _ kk0=>kk0 (.ex 0) ⟨[(5,.cs I64 bb0)],[]⟩
theorem ok:Ya4 PR 37 2 (.loop c) fr:=
 Yxl Xf Xg h0 (.R (.L (.one (.R (.one (.fr 1)))))) (L:=mkL [(1,Xhn.fr)]) (l:=[(1,.loop Xhn.c)]) ⟨Lam.cons Xhn.ok,trivial⟩ [(0,([5],[]))] (fun x s=>((x.1.1,x.1.2.1,s.1,s.2,x.1.2.2.2.2),x.2))
  (fun x s=>by simp only[B,mC,mB,mS,mO,mN];kernel_rfl)
end Xjm
namespace Xkp
def pts:List PT:=[.cs (.sl Xe),.cs I64]
def FS:FS:=Ybr [.sh,.sh] pts (fun x=>Xkp x.1 x.2.1) fun t=>⟨[.cs I64 t],[]⟩
theorem ok:Yb5 PR 206 FS:=
 Yxj Xf Xg Proofs.Tryz.f206 h0 (.R (.R (.L (.R (.one (.fr 0)))))) (G:=(mkG [])) .nil (L:=mkL [(1,Xhn.fr),(0,Xjm.fr)]) (l:=[(0,.loop Xjm.c)]) ⟨Lam.skip rfl (Lam.cons Xjm.ok),trivial⟩
  (fun x=>by simp only[Xkp,mC,mB,mS,mO,mN];kernel_rfl)
end Xkp
def Xkf.B (v:List Xb) (v2:Bool) (v3:Int) (v4:List Int):Option ((Bool×Int×List Int)⊕(Bool×List Int)):=
 cond (decide (v3<20)) ((Xkp v v3).bind fun v5=>cond (decide (v5>0)) (cond (decide ((v4++([v3])).length≤2147483648)) (some (.inl (cond v2 (decide (v5≤1)) false,w64 (v3+1),v4++([v3])))) none) (some (.inl (cond v2 (decide (v5≤1)) false,w64 (v3+1),v4)))) (some (.inr (v2,v4)))
def Xkf (v:List Xb):(Bool×Int×List Int)→Option (Bool×List Int):=
 Y9 fun s=>Xkf.B v s.1 s.2.1 s.2.2
def Xjk (v:List Xb):Option ((List Int)×Bool):=
 (Xkf v (true,0,[])).bind fun v6=>some (v6.2,v6.1)
namespace Xjk
def G:Gam:=mkG [(206,Xkp.FS)]
theorem Gok:GOk PR G:=.cons Xkp.ok .nil
end Xjk
namespace Xkf
def c:=Yaq (Yah Proofs.Tryz.f170) [1,1,1,0,1,0,0]
def sp:SP:=⟨[(0,.cs (.sl Xe)),(4,.seg 4 []),(5,.cs .bool),(6,.cs I64)],[(4,.reg,.cd SI)]⟩
def fr:=Yi4 sp (fun x s=>Xkf.B x.1.1 s.1 s.2.1 s.2.2) (fun x=>(x.1.2.2.1,x.1.2.2.2.1,x.2.1)) fun x (bb0:Bool×List Int) _ kk0=>kk0 (.ex 0) ⟨[(4,.seg 4 []),(5,.cs .bool bb0.1)],[sr 4 (.cd SI bb0.2)]⟩
theorem ok:Ya4 PR 29 1 (.loop c) fr:=
 Yxk Xf Xg h0 (G:=Xjk.G) Xjk.Gok [(0,([4,5],[4]))] (fun x s=>((x.1.1,x.1.2.1,s.1,s.2.1,x.1.2.2.2.2),(s.2.2,x.2.2)))
  (fun x s=>by simp only[B,mC,mB,mS,mO,mN];kernel_rfl)
end Xkf
namespace Xjk
def pts:List PT:=[.cs (.sl Xe)]
def FS:FS:=Ybr [.sh] pts (fun x=>Xjk x.1) fun t=>⟨[.cd SI t.1,.cs .bool t.2],[]⟩
theorem ok:Yb5 PR 170 FS:=
 Yxj Xf Xg Proofs.Tryz.f170 h0 (.R (.R (.R (.L (.R (.one (.fr 0))))))) (G:=G) Gok (L:=mkL [(0,Xkf.fr)]) (l:=[(0,.loop Xkf.c)]) ⟨Lam.cons Xkf.ok,trivial⟩
  (fun x=>by simp only[Xjk,mC,mB,mS,mO,mN];kernel_rfl)
end Xjk
def Xkm.B (v:Fs_) (v4:Int):Option (Int⊕((Int⊕Unit))):=
 cond (decide (v4<(v.2.1.length:Int))) (cond (inB v4 v.2.1.length) ((some (decide (((v.2.1.getD v4.toNat []).length:Int)>8))).bind fun v5=>cond v5 (some (.inr (.inl 2))) (some (.inl (w64 (v4+1))))) none) (some (.inr (.inr ())))
def Xkm (v:Fs_):Int→Option ((Int⊕Unit)):=
 Y9 fun s=>Xkm.B v s
def Xin.B (v:Fs_) (v10:Int) (v11:Int):Option (Int⊕((Int⊕Unit))):=
 cond (inB v10 v.1.length) ((some ((v.1.getD v10.toNat Xa).2.2.2.2.1.length:Int)).bind fun v12=>cond (decide (v11<v12)) (cond (inB v10 v.1.length) (cond (inB v11 ((v.1.getD v10.toNat Xa).2.2.2.2.1.length)) ((some ((v.1.getD v10.toNat Xa).2.2.2.2.1.getD v11.toNat Xk).2.1).bind fun v13=>cond (cond (!(decide (v13≥(v.1.length:Int)))) (inB v13 v.1.length) true) ((some (cond (decide (v13≥(v.1.length:Int))) true ((v.1.getD v13.toNat Xa).1 == 0))).bind fun v14=>cond v14 (some (.inr (.inl 4))) (some (.inl (w64 (v11+1))))) none) none) none) (some (.inr (.inr ())))) none
def Xin (v:Fs_) (v10:Int):Int→Option ((Int⊕Unit)):=
 Y9 fun s=>Xin.B v v10 s
def Xka.B (v:Fs_) (v10:Int):Option (Int⊕((Int⊕Unit))):=
 cond (decide (v10<(v.1.length:Int))) ((Xin v v10 0).bind fun v15=>sel v15 (fun v16=>some (.inr (.inl v16))) (fun v17=>some (.inl (w64 (v10+1))))) (some (.inr (.inr ())))
def Xka (v:Fs_):Int→Option ((Int⊕Unit)):=
 Y9 fun s=>Xka.B v s
def Xen (v:Fs_):Option Int:=
 (Xgs v.1).bind fun v2=>cond (v2 != 0) (some v2) (cond (cond (!((v.1.length:Int) == 0)) (inB 0 v.1.length) true) ((some (cond ((v.1.length:Int) == 0) true ((v.1.getD (0:Int).toNat Xa).1 != 2))).bind fun v3=>cond (cond v3 true ((v.2.1.length:Int) != 20)) (some 1) ((Xkm v 0).bind fun v6=>sel v6 (fun v7=>some v7) (fun v8=>(Xjk v.1).bind fun v9=>cond (!v9.2) (some 7) ((Xka v 0).bind fun v18=>sel v18 (fun v19=>some v19) (fun v20=>some 0))))) none)
namespace Xen
def G:Gam:=mkG [(169,Xgs.FS),(170,Xjk.FS)]
theorem Gok:GOk PR G:=.cons Xgs.ok (.cons Xjk.ok .nil)
end Xen
namespace Xkm
def c:=Yaq (Yah Proofs.Tryz.f96) [1,1,1,0,1,0,0]
def sp:SP:=⟨[(0,.pt Xj),(4,.cs I64)],[]⟩
def fr:=Yi4 sp (fun x s=>Xkm.B x.1.1 s) (fun x=>x.1.2.1) fun x (oo0:(Int⊕Unit)) _ kk0=>sel oo0 (fun bb0=>kk0 (.rt) ⟨[(2,.cs I64 bb0)],[]⟩) (fun cc0=>kk0 (.ex 0) ⟨[(0,.pt Xj x.1.1)],[]⟩)
theorem ok:Ya4 PR 122 1 (.loop c) fr:=
 Ytd Xf Xg h0 .no (G:=Xen.G) Xen.Gok (L:=mkL []) (l:=[]) hT [(0,([0],[]))] ([2],[]) (fun x s=>((x.1.1,s,x.1.2.2),x.2))
  (fun x s=>by simp only[B,mC,mB,mS,mO,mN];kernel_rfl)
end Xkm
namespace Xin
def c:=Yaq (Yah Proofs.Tryz.f96) [1,1,1,1,1,0,1,0,0,1,0,0,1,0,0]
def sp:SP:=⟨[(0,.pt Xj),(7,.cs I64),(8,.cs I64)],[]⟩
def fr:=Yi4 sp (fun x s=>Xin.B x.1.1 x.1.2.1 s) (fun x=>x.1.2.2.1) fun x (oo0:(Int⊕Unit)) _ kk0=>sel oo0 (fun bb0=>kk0 (.rt) ⟨[(2,.cs I64 bb0)],[]⟩) (fun cc0=>kk0 (.ex 4) ⟨[(0,.pt Xj x.1.1),(7,.cs I64 x.1.2.1)],[]⟩)
theorem ok:Ya4 PR 122 1 (.loop c) fr:=
 Ytd Xf Xg h0 .no (G:=Xen.G) Xen.Gok (L:=mkL []) (l:=[]) hT [(4,([0,7],[]))] ([2],[]) (fun x s=>((x.1.1,x.1.2.1,s,x.1.2.2.2),x.2))
  (fun x s=>by simp only[B,mC,mB,mS,mO,mN];kernel_rfl)
end Xin
namespace Xka
def c:=Yaq (Yah Proofs.Tryz.f96) [1,1,1,1,1,0,1,0,0]
def sp:SP:=⟨[(0,.pt Xj),(7,.cs I64)],[]⟩
def fr:=Yi4 sp (fun x s=>Xka.B x.1.1 s) (fun x=>x.1.2.1) fun x (oo0:(Int⊕Unit)) _ kk0=>sel oo0 (fun bb0=>kk0 (.rt) ⟨[(2,.cs I64 bb0)],[]⟩) (fun cc0=>kk0 (.ex 2) ⟨[],[]⟩)
theorem ok:Ya4 PR 122 1 (.loop c) fr:=
 Ytd Xf Xg h0 (.R (.L (.one (.R (.one (.fr 2)))))) (G:=Xen.G) Xen.Gok (L:=mkL [(2,Xin.fr)]) (l:=[(2,.loop Xin.c)]) ⟨Lam.cons Xin.ok,trivial⟩ [(2,([],[]))] ([2],[]) (fun x s=>((x.1.1,s,x.1.2.2),x.2))
  (fun x s=>by simp only[B,mC,mB,mS,mO,mN];kernel_rfl)
end Xka
namespace Xen
def pts:List PT:=[.pt Xj]
def FS:FS:=Ybr [.sh] pts (fun x=>Xen x.1) fun t=>⟨[.cs I64 t],[]⟩
theorem ok:Yb5 PR 96 FS:=
 Yxj Xf Xg Proofs.Tryz.f96 h0 (.R (.R (.R (.two (.R (.one (.fr 0))) (.R (.L (.R (.one (.fr 1))))))))) (G:=G) Gok (L:=mkL [(0,Xkm.fr),(2,Xin.fr),(1,Xka.fr)]) (l:=[(0,.loop Xkm.c),(1,.loop Xka.c)]) ⟨Lam.cons Xkm.ok,Lam.skip rfl (Lam.skip rfl (Lam.cons Xka.ok)),trivial⟩
  (fun x=>by simp only[Xen,mC,mB,mS,mO,mN];kernel_rfl)
end Xen
def Xf2 (v:Int) (v2:Int):Option Int:=
 cond (decide (v<v2)) (some v) (some v2)
namespace Xf2
def pts:List PT:=[.cs I64,.cs I64]
def FS:FS:=Ybr [.sh,.sh] pts (fun x=>Xf2 x.1 x.2.1) fun t=>⟨[.cs I64 t],[]⟩
theorem ok:Yb5 PR 174 FS:=
 Yxj Xf Xg Proofs.Tryz.f174 h0 .no (G:=(mkG [])) .nil (L:=mkL []) (l:=[]) hT
  (fun x=>by simp only[Xf2,mC,mB,mS,mO,mN];kernel_rfl)
end Xf2
def Xhe.B (v:Xd) (v3:Int) (v5:Nat) (v6:Int) (v10:Int) (v12:List Int) (v7:Fs_) (v13:Int) (v14:List Int):Option ((Int×List Int)⊕((Bool⊕(List Int)))):=
 cond (decide (v13<v10)) (cond (inB v13 v12.length) (cond (decide ((v12.getD v13.toNat 0)>255)) (some (.inr (.inl false))) (cond (inB v13 v12.length) ((some (v14++([IntKind.u8.wrap (v12.getD v13.toNat 0)]))).bind fun v15=>cond (decide (v15.length≤2147483648)) (some (.inl (w64 (v13+1),v15))) none) none)) none) (some (.inr (.inr v14)))
def Xhe (v:Xd) (v3:Int) (v5:Nat) (v6:Int) (v10:Int) (v12:List Int) (v7:Fs_):(Int×List Int)→Option ((Bool⊕(List Int))):=
 Y9 fun s=>Xhe.B v v3 v5 v6 v10 v12 v7 s.1 s.2
def Xhs.B (v:Xd) (v3:Int) (v5:Nat) (v6:Int) (v7:Fs_):Option ((Int×Fs_)⊕(((Bool×Fs_)⊕Fs_))):=
 (some ((v7.1.getD v5 Xa).2.2.2.1.length:Int)).bind fun v8=>cond (decide (v6<v8)) ((some (w64 ((v7.1.getD v5 Xa).2.2.1-(w64 (v6*8))))).bind fun v9=>(Xf2 8 v9).bind fun v10=>cond (inB v6 ((v7.1.getD v5 Xa).2.2.2.1.length)) ((some ((v7.1.getD v5 Xa).2.2.2.1.getD v6.toNat 0)).bind fun v11=>(Xd1 v (w64 ((27:Int)+v11))).bind fun v12=>cond (decide ((v12.length:Int)<v10)) (some (.inr (.inl (false,v7)))) ((Xhe v v3 v5 v6 v10 v12 v7 (0,[])).bind fun v16=>sel v16 (fun v17=>some (.inr (.inl (v17,v7)))) (fun v18=>cond (inB v6 ((v7.1.getD v5 Xa).2.2.2.1.length)) ((some ((v7.1.getD v5 Xa).2.2.2.1.getD v6.toNat 0)).bind fun v19=>cond (inB v19 v7.2.1.length) (some (.inl (w64 (v6+1),(v7.1,v7.2.1.set v19.toNat v18,v7.2.2)))) none) none))) none) (some (.inr (.inr v7)))
def Xhs (v:Xd) (v3:Int) (v5:Nat):(Int×Fs_)→Option (((Bool×Fs_)⊕Fs_)):=
 Y9 fun s=>Xhs.B v v3 v5 s.1 s.2
def Xji.B (v:Xd) (v3:Int) (v4:Fs_):Option ((Int×Fs_)⊕(((Bool×Fs_)⊕Fs_))):=
 cond (decide (v3<(v4.1.length:Int))) (cond (inB v3 v4.1.length) ((Xhs v v3 v3.toNat (0,v4)).bind fun v20=>sel v20 (fun v21=>some (.inr (.inl (v21.1,v21.2)))) (fun v22=>some (.inl (w64 (v3+1),v22)))) none) (some (.inr (.inr v4)))
def Xji (v:Xd):(Int×Fs_)→Option (((Bool×Fs_)⊕Fs_)):=
 Y9 fun s=>Xji.B v s.1 s.2
def Xgc (v:Xd) (v2:Fs_):Option (Bool×Fs_):=
 (Xji v (0,v2)).bind fun v23=>sel v23 (fun v24=>some (v24.1,v24.2)) (fun v25=>some (true,v25))
namespace Xgc
def G:Gam:=mkG [(174,Xf2.FS),(94,Xd1.FS)]
theorem Gok:GOk PR G:=.cons Xf2.ok (.cons Xd1.ok .nil)
end Xgc
namespace Xhe
def c:=Yaq (Yah Proofs.Tryz.f195) [1,0,1,0,0,1,0,0,1,1,0,0,1,0,0,1,1,1,1,0,1,0,0]
def sp:SP:=⟨[(0,.pt Xh),(1,.loc 1 []),(5,.cs I64),(6,.loc 1 [.f1,.el]),(7,.cs I64),(8,.cs I64),(9,.cs SI),(10,.seg 10 []),(11,.cs I64)],[(1,.mem,.cd Xj),(10,.reg,.cd SB)]⟩
def fr:=Yi4 sp (fun x s=>Xhe.B x.1.1 x.1.2.2.1 x.1.2.2.2.1.1 x.1.2.2.2.2.1 x.1.2.2.2.2.2.1 x.1.2.2.2.2.2.2.1 x.2.1 s.1 s.2) (fun x=>(x.1.2.2.2.2.2.2.2.2.1,x.2.2.1)) fun x (oo0:(Bool⊕(List Int))) _ kk0=>sel oo0 (fun bb0=>kk0 (.rt) ⟨[(4,.cs .bool bb0)],[(1,some ⟨.mem,.cd Xj x.2.1⟩)]⟩) (fun cc0=>kk0 (.ex 4) ⟨[(0,.pt Xh x.1.1),(1,.loc 1 []),(5,.cs I64 x.1.2.2.1),(6,.loc 1 [.f1,.el x.1.2.2.2.1.1]),(7,.cs I64 x.1.2.2.2.2.1),(10,.seg 10 [])],[(1,some ⟨.mem,.cd Xj x.2.1⟩),sr 10 (.cd SB cc0)]⟩)
theorem ok:Ya4 PR 90 2 (.loop c) fr:=
 Ytd Xf Xg h0 .no (G:=Xgc.G) Xgc.Gok (L:=mkL []) (l:=[]) hT [(4,([0,1,5,6,7,10],[1,10]))] ([4],[1]) (fun x s=>((x.1.1,x.1.2.1,x.1.2.2.1,x.1.2.2.2.1,x.1.2.2.2.2.1,x.1.2.2.2.2.2.1,x.1.2.2.2.2.2.2.1,x.1.2.2.2.2.2.2.2.1,s.1,x.1.2.2.2.2.2.2.2.2.2),(x.2.1,s.2,x.2.2.2)))
  (fun x s=>by simp only[B,mC,mB,mS,mO,mN];kernel_rfl)
end Xhe
namespace Xhs
def c:=Yaq (Yah Proofs.Tryz.f195) [1,0,1,0,0,1,0,0,1,1,0,0]
def sp:SP:=⟨[(0,.pt Xh),(1,.loc 1 []),(5,.cs I64),(6,.loc 1 [.f1,.el]),(7,.cs I64)],[(1,.mem,.cd Xj)]⟩
def fr:=Yi4 sp (fun x s=>Xhs.B x.1.1 x.1.2.2.1 x.1.2.2.2.1.1 s.1 s.2) (fun x=>(x.1.2.2.2.2.1,x.2.1)) fun x (oo0:((Bool×Fs_)⊕Fs_)) _ kk0=>sel oo0 (fun bb0=>kk0 (.rt) ⟨[(4,.cs .bool bb0.1)],[(1,some ⟨.mem,.cd Xj bb0.2⟩)]⟩) (fun cc0=>kk0 (.ex 2) ⟨[(0,.pt Xh x.1.1),(1,.loc 1 []),(5,.cs I64 x.1.2.2.1)],[(1,some ⟨.mem,.cd Xj cc0⟩)]⟩)
theorem ok:Ya4 PR 90 2 (.loop c) fr:=
 Ytd Xf Xg h0 (.R (.L (.one (.R (.R (.R (.R (.L (.R (.one (.fr 2))))))))))) (G:=Xgc.G) Xgc.Gok (L:=mkL [(2,Xhe.fr)]) (l:=[(2,.loop Xhe.c)]) ⟨Lam.cons Xhe.ok,trivial⟩ [(2,([0,1,5],[1]))] ([4],[1]) (fun x s=>((x.1.1,x.1.2.1,x.1.2.2.1,x.1.2.2.2.1,s.1,x.1.2.2.2.2.2),(s.2,x.2.2)))
  (fun x s=>by simp only[B,mC,mB,mS,mO,mN];kernel_rfl)
end Xhs
namespace Xji
def c:=Yaq (Yah Proofs.Tryz.f195) [1,0,1,0,0]
def sp:SP:=⟨[(0,.pt Xh),(1,.loc 1 []),(5,.cs I64)],[(1,.mem,.cd Xj)]⟩
def fr:=Yi4 sp (fun x s=>Xji.B x.1.1 s.1 s.2) (fun x=>(x.1.2.2.1,x.2.1)) fun x (oo0:((Bool×Fs_)⊕Fs_)) _ kk0=>sel oo0 (fun bb0=>kk0 (.rt) ⟨[(4,.cs .bool bb0.1)],[(1,some ⟨.mem,.cd Xj bb0.2⟩)]⟩) (fun cc0=>kk0 (.ex 0) ⟨[],[(1,some ⟨.mem,.cd Xj cc0⟩)]⟩)
theorem ok:Ya4 PR 90 2 (.loop c) fr:=
 Ytd Xf Xg h0 (.R (.L (.one (.R (.R (.one (.fr 1))))))) (G:=Xgc.G) Xgc.Gok (L:=mkL [(2,Xhe.fr),(1,Xhs.fr)]) (l:=[(1,.loop Xhs.c)]) ⟨Lam.skip rfl (Lam.cons Xhs.ok),trivial⟩ [(0,([],[1]))] ([4],[1]) (fun x s=>((x.1.1,x.1.2.1,s.1,x.1.2.2.2),(s.2,x.2.2)))
  (fun x s=>by simp only[B,mC,mB,mS,mO,mN];kernel_rfl)
end Xji
namespace Xgc
def pts:List PT:=[.pt Xh,.op (.cd Xj)]
def FS:FS:=Ybr [.sh,.mu] pts (fun x=>Xgc x.1 x.2.1) fun t=>⟨[.cs .bool t.1],[.op (.cd Xj t.2)]⟩
theorem ok:Yb5 PR 195 FS:=
 Yxj Xf Xg Proofs.Tryz.f195 h0 (.R (.L (.R (.one (.fr 0))))) (G:=G) Gok (L:=mkL [(2,Xhe.fr),(1,Xhs.fr),(0,Xji.fr)]) (l:=[(0,.loop Xji.c)]) ⟨Lam.skip rfl (Lam.skip rfl (Lam.cons Xji.ok)),trivial⟩
  (fun x=>by simp only[Xgc,mC,mB,mS,mO,mN];kernel_rfl)
end Xgc
def Xgp.B (v:Fs_) (v3:Int) (v5:Int) (v7:Int) (v8:List Bool):Option ((Int×List Bool)⊕(List Bool)):=
 cond (inB v5 v8.length) (cond (cond (v8.getD v5.toNat false) (inB v5 v.1.length) true) ((some (cond (v8.getD v5.toNat false) (decide (v7<((v.1.getD v5.toNat Xa).2.2.2.2.1.length:Int))) false)).bind fun v9=>cond v9 (cond (inB v5 v.1.length) (cond (inB v7 ((v.1.getD v5.toNat Xa).2.2.2.2.1.length)) ((some ((v.1.getD v5.toNat Xa).2.2.2.2.1.getD v7.toNat Xk).2.1).bind fun v10=>cond (inB v10 v8.length) (some (.inl (w64 (v7+1),v8.set v10.toNat true))) none) none) none) (some (.inr v8))) none) none
def Xgp (v:Fs_) (v3:Int) (v5:Int):(Int×List Bool)→Option (List Bool):=
 Y9 fun s=>Xgp.B v v3 v5 s.1 s.2
def Xht.B (v:Fs_) (v3:Int) (v5:Int) (v6:List Bool):Option ((Int×List Bool)⊕(List Bool)):=
 cond (decide (v5<(v.1.length:Int))) ((Xgp v v3 v5 (0,v6)).bind fun v11=>some (.inl (w64 (v5+1),v11))) (some (.inr v6))
def Xht (v:Fs_) (v3:Int):(Int×List Bool)→Option (List Bool):=
 Y9 fun s=>Xht.B v v3 s.1 s.2
def Xiv.B (v:Fs_) (v3:Int) (v4:List Bool):Option ((Int×List Bool)⊕(List Bool)):=
 cond (decide (v3<(v.1.length:Int))) ((Xht v v3 (0,v4)).bind fun v12=>some (.inl (w64 (v3+1),v12))) (some (.inr v4))
def Xiv (v:Fs_):(Int×List Bool)→Option (List Bool):=
 Y9 fun s=>Xiv.B v s.1 s.2
def Xiu.B (v13:List Bool) (v14:Int) (v15:List Int):Option ((Int×List Int)⊕(List Int)):=
 cond (decide (v14<(v13.length:Int))) (cond (inB v14 v13.length) (cond (v13.getD v14.toNat false) (cond (decide ((v15++([v14])).length≤2147483648)) (some (.inl (w64 (v14+1),v15++([v14])))) none) (some (.inl (w64 (v14+1),v15)))) none) (some (.inr v15))
def Xiu (v13:List Bool):(Int×List Int)→Option (List Int):=
 Y9 fun s=>Xiu.B v13 s.1 s.2
def Xmc (v:Fs_):Option (List Int):=
 cond (decide ((0:Int)≤(v.1.length:Int))&&(decide ((v.1.length:Int)≤(v.1.length:Int))&&decide ((v.1.length:Int)≤2147483648))) (cond (inB 0 ((List.replicate (v.1.length:Int).toNat false).length)) ((some ((List.replicate (v.1.length:Int).toNat false).set ((0:Int).toNat) true)).bind fun v2=>(Xiv v (0,v2)).bind fun v13=>(Xiu v13 (0,[])).bind fun v16=>some v16) none) none
namespace Xgp
def c:=Yaq (Yah Proofs.Tryz.f171) [1,1,1,0,1,0,0,1,0,0,1,0,0,1,0,0,1,0,0]
def sp:SP:=⟨[(0,.pt Xj),(3,.seg 3 []),(4,.cs I64),(5,.cs I64),(6,.cs I64)],[(3,.reg,.cd (.sl .bool))]⟩
def fr:=Yi4 sp (fun x s=>Xgp.B x.1.1 x.1.2.2.1 x.1.2.2.2.1 s.1 s.2) (fun x=>(x.1.2.2.2.2.1,x.2.1)) fun x (bb0:List Bool) _ kk0=>kk0 (.ex 4) ⟨[(0,.pt Xj x.1.1),(3,.seg 3 []),(4,.cs I64 x.1.2.2.1),(5,.cs I64 x.1.2.2.2.1)],[sr 3 (.cd (.sl .bool) bb0)]⟩
theorem ok:Ya4 PR 84 1 (.loop c) fr:=
 Yw6 Xf Xg h0 [(4,([0,3,4,5],[3]))] (fun x s=>((x.1.1,x.1.2.1,x.1.2.2.1,x.1.2.2.2.1,s.1,x.1.2.2.2.2.2),(s.2,x.2.2)))
  (fun x s=>by simp only[B,mC,mB,mS,mO,mN];kernel_rfl)
end Xgp
namespace Xht
def c:=Yaq (Yah Proofs.Tryz.f171) [1,1,1,0,1,0,0,1,0,0,1,0,0]
def sp:SP:=⟨[(0,.pt Xj),(3,.seg 3 []),(4,.cs I64),(5,.cs I64)],[(3,.reg,.cd (.sl .bool))]⟩
def fr:=Yi4 sp (fun x s=>Xht.B x.1.1 x.1.2.2.1 s.1 s.2) (fun x=>(x.1.2.2.2.1,x.2.1)) fun x (bb0:List Bool) _ kk0=>kk0 (.ex 2) ⟨[(0,.pt Xj x.1.1),(3,.seg 3 []),(4,.cs I64 x.1.2.2.1)],[sr 3 (.cd (.sl .bool) bb0)]⟩
theorem ok:Ya4 PR 84 1 (.loop c) fr:=
 Yxl Xf Xg h0 (.R (.L (.one (.R (.one (.fr 2)))))) (L:=mkL [(2,Xgp.fr)]) (l:=[(2,.loop Xgp.c)]) ⟨Lam.cons Xgp.ok,trivial⟩ [(2,([0,3,4],[3]))] (fun x s=>((x.1.1,x.1.2.1,x.1.2.2.1,s.1,x.1.2.2.2.2),(s.2,x.2.2)))
  (fun x s=>by simp only[B,mC,mB,mS,mO,mN];kernel_rfl)
end Xht
namespace Xiv
def c:=Yaq (Yah Proofs.Tryz.f171) [1,1,1,0,1,0,0]
def sp:SP:=⟨[(0,.pt Xj),(3,.seg 3 []),(4,.cs I64)],[(3,.reg,.cd (.sl .bool))]⟩
def fr:=Yi4 sp (fun x s=>Xiv.B x.1.1 s.1 s.2) (fun x=>(x.1.2.2.1,x.2.1)) fun x (bb0:List Bool) _ kk0=>kk0 (.ex 0) ⟨[(3,.seg 3 [])],[sr 3 (.cd (.sl .bool) bb0)]⟩
theorem ok:Ya4 PR 84 1 (.loop c) fr:=
 Yxl Xf Xg h0 (.R (.L (.one (.R (.one (.fr 1)))))) (L:=mkL [(2,Xgp.fr),(1,Xht.fr)]) (l:=[(1,.loop Xht.c)]) ⟨Lam.skip rfl (Lam.cons Xht.ok),trivial⟩ [(0,([3],[3]))] (fun x s=>((x.1.1,x.1.2.1,s.1,x.1.2.2.2),(s.2,x.2.2)))
  (fun x s=>by simp only[B,mC,mB,mS,mO,mN];kernel_rfl)
end Xiv
namespace Xiu
def c:=Yaq (Yah Proofs.Tryz.f171) [1,1,1,1,1,0,1,0,0]
def sp:SP:=⟨[(3,.seg 3 []),(7,.seg 7 []),(8,.cs I64)],[(3,.reg,.cd (.sl .bool)),(7,.reg,.cd SI)]⟩
def fr:=Yi4 sp (fun x s=>Xiu.B x.2.1 s.1 s.2) (fun x=>(x.1.2.2.1,x.2.2.1)) fun x (bb0:List Int) _ kk0=>kk0 (.ex 6) ⟨[(7,.seg 7 [])],[sr 7 (.cd SI bb0)]⟩
theorem ok:Ya4 PR 84 1 (.loop c) fr:=
 Yw6 Xf Xg h0 [(6,([7],[7]))] (fun x s=>((x.1.1,x.1.2.1,s.1,x.1.2.2.2),(x.2.1,s.2,x.2.2.2)))
  (fun x s=>by simp only[B,mC,mB,mS,mO,mN];kernel_rfl)
end Xiu
namespace Xmc
def pts:List PT:=[.pt Xj]
def FS:FS:=Ybr [.sh] pts (fun x=>Xmc x.1) fun t=>⟨[.cd SI t],[]⟩
theorem ok:Yb5 PR 171 FS:=
 Yxj Xf Xg Proofs.Tryz.f171 h0 (.R (.R (.R (.two (.R (.one (.fr 0))) (.R (.L (.R (.one (.fr 3))))))))) (G:=(mkG [])) .nil (L:=mkL [(2,Xgp.fr),(1,Xht.fr),(0,Xiv.fr),(3,Xiu.fr)]) (l:=[(0,.loop Xiv.c),(3,.loop Xiu.c)]) ⟨Lam.skip rfl (Lam.skip rfl (Lam.cons Xiv.ok)),Lam.skip rfl (Lam.skip rfl (Lam.skip rfl (Lam.cons Xiu.ok))),trivial⟩
  (fun x=>by simp only[Xmc,mC,mB,mS,mO,mN];kernel_rfl)
end Xmc
def Xhz.B (v:List Xb) (v2:Int) (v4:Int) (v5:Int) (v6:Int):Option ((Int×Int)⊕Int):=
 cond (inB v4 v.length) ((some ((v.getD v4.toNat Xa).2.2.2.2.1.length:Int)).bind fun v7=>cond (decide (v6<v7)) (cond (inB v4 v.length) (cond (inB v6 ((v.getD v4.toNat Xa).2.2.2.2.1.length)) ((some ((v.getD v4.toNat Xa).2.2.2.2.1.getD v6.toNat Xk).2.1).bind fun v8=>cond (v8 == v2) (some (.inl (w64 (v5+1),w64 (v6+1)))) (some (.inl (v5,w64 (v6+1))))) none) none) (some (.inr v5))) none
def Xhz (v:List Xb) (v2:Int) (v4:Int):(Int×Int)→Option Int:=
 Y9 fun s=>Xhz.B v v2 v4 s.1 s.2
def Xiy.B (v:List Xb) (v2:Int) (v3:Int) (v4:Int):Option ((Int×Int)⊕Int):=
 cond (decide (v4<(v.length:Int))) ((Xhz v v2 v4 (v3,0)).bind fun v9=>some (.inl (v9,w64 (v4+1)))) (some (.inr v3))
def Xiy (v:List Xb) (v2:Int):(Int×Int)→Option Int:=
 Y9 fun s=>Xiy.B v v2 s.1 s.2
def Xjd (v:List Xb) (v2:Int):Option Int:=
 (Xiy v v2 (0,0)).bind fun v10=>some v10
namespace Xhz
def c:=Yaq (Yah Proofs.Tryz.f172) [1,1,0,1,0,0,1,0,0,1,0,0]
def sp:SP:=⟨[(0,.cs (.sl Xe)),(1,.cs I64),(5,.cs I64),(6,.cs I64),(7,.cs I64)],[]⟩
def fr:=Yi4 sp (fun x s=>Xhz.B x.1.1 x.1.2.1 x.1.2.2.2.1 s.1 s.2) (fun x=>(x.1.2.2.1,x.1.2.2.2.2.1)) fun x (bb0:Int) _ kk0=>kk0 (.ex 2) ⟨[(0,.cs (.sl Xe) x.1.1),(1,.cs I64 x.1.2.1),(5,.cs I64 bb0),(6,.cs I64 x.1.2.2.2.1)],[]⟩
theorem ok:Ya4 PR 38 2 (.loop c) fr:=
 Yw6 Xf Xg h0 [(2,([0,1,5,6],[]))] (fun x s=>((x.1.1,x.1.2.1,s.1,x.1.2.2.2.1,s.2,x.1.2.2.2.2.2),x.2))
  (fun x s=>by simp only[B,mC,mB,mS,mO,mN];kernel_rfl)
end Xhz
namespace Xiy
def c:=Yaq (Yah Proofs.Tryz.f172) [1,1,0,1,0,0]
def sp:SP:=⟨[(0,.cs (.sl Xe)),(1,.cs I64),(5,.cs I64),(6,.cs I64)],[]⟩
def fr:=Yi4 sp (fun x s=>Xiy.B x.1.1 x.1.2.1 s.1 s.2) (fun x=>(x.1.2.2.1,x.1.2.2.2.1)) fun x (bb0:Int) _ kk0=>kk0 (.ex 0) ⟨[(5,.cs I64 bb0)],[]⟩
theorem ok:Ya4 PR 38 2 (.loop c) fr:=
 Yxl Xf Xg h0 (.R (.L (.one (.R (.one (.fr 1)))))) (L:=mkL [(1,Xhz.fr)]) (l:=[(1,.loop Xhz.c)]) ⟨Lam.cons Xhz.ok,trivial⟩ [(0,([5],[]))] (fun x s=>((x.1.1,x.1.2.1,s.1,s.2,x.1.2.2.2.2),x.2))
  (fun x s=>by simp only[B,mC,mB,mS,mO,mN];kernel_rfl)
end Xiy
namespace Xjd
def pts:List PT:=[.cs (.sl Xe),.cs I64]
def FS:FS:=Ybr [.sh,.sh] pts (fun x=>Xjd x.1 x.2.1) fun t=>⟨[.cs I64 t],[]⟩
theorem ok:Yb5 PR 172 FS:=
 Yxj Xf Xg Proofs.Tryz.f172 h0 (.R (.R (.L (.R (.one (.fr 0)))))) (G:=(mkG [])) .nil (L:=mkL [(1,Xhz.fr),(0,Xiy.fr)]) (l:=[(0,.loop Xiy.c)]) ⟨Lam.skip rfl (Lam.cons Xiy.ok),trivial⟩
  (fun x=>by simp only[Xjd,mC,mB,mS,mO,mN];kernel_rfl)
end Xjd
def Xkr.B (v:List Int) (v2:Int) (v3:Int):Option (Int⊕((Bool⊕Unit))):=
 cond (decide (v3<(v.length:Int))) (cond (inB v3 v.length) (cond ((v.getD v3.toNat 0) == v2) (some (.inr (.inl true))) (some (.inl (w64 (v3+1))))) none) (some (.inr (.inr ())))
def Xkr (v:List Int) (v2:Int):Int→Option ((Bool⊕Unit)):=
 Y9 fun s=>Xkr.B v v2 s
def Xlj (v:List Int) (v2:Int):Option Bool:=
 (Xkr v v2 0).bind fun v4=>sel v4 (fun v5=>some v5) (fun v6=>some false)
namespace Xkr
def c:=Yaq (Yah Proofs.Tryz.f173) [1,0,1,0,0]
def sp:SP:=⟨[(0,.cs SI),(1,.cs I64),(5,.cs I64)],[]⟩
def fr:=Yi4 sp (fun x s=>Xkr.B x.1.1 x.1.2.1 s) (fun x=>x.1.2.2.1) fun x (oo0:(Bool⊕Unit)) _ kk0=>sel oo0 (fun bb0=>kk0 (.rt) ⟨[(4,.cs .bool bb0)],[]⟩) (fun cc0=>kk0 (.ex 0) ⟨[],[]⟩)
theorem ok:Ya4 PR 18 2 (.loop c) fr:=
 Ytd Xf Xg h0 .no (G:=(mkG [])) .nil (L:=mkL []) (l:=[]) hT [(0,([],[]))] ([4],[]) (fun x s=>((x.1.1,x.1.2.1,s,x.1.2.2.2),x.2))
  (fun x s=>by simp only[B,mC,mB,mS,mO,mN];kernel_rfl)
end Xkr
namespace Xlj
def pts:List PT:=[.cs SI,.cs I64]
def FS:FS:=Ybr [.sh,.sh] pts (fun x=>Xlj x.1 x.2.1) fun t=>⟨[.cs .bool t],[]⟩
theorem ok:Yb5 PR 173 FS:=
 Yxj Xf Xg Proofs.Tryz.f173 h0 (.R (.L (.R (.one (.fr 0))))) (G:=(mkG [])) .nil (L:=mkL [(0,Xkr.fr)]) (l:=[(0,.loop Xkr.c)]) ⟨Lam.cons Xkr.ok,trivial⟩
  (fun x=>by simp only[Xlj,mC,mB,mS,mO,mN];kernel_rfl)
end Xlj
def Xkh.B (v:Fs_) (v2:List Int) (v3:Int):Option (Int⊕((Bool⊕Unit))):=
 cond (decide (v3<(v.1.length:Int))) (cond (inB v3 v.1.length) ((Xjd v.1 v3).bind fun v4=>cond ((v.1.getD v3.toNat Xa).1 == 0) (some (.inl (w64 (v3+1)))) (cond ((v.1.getD v3.toNat Xa).1 == 1) (cond (v4 != (v.1.getD v3.toNat Xa).2.1) (some (.inr (.inl false))) ((Xlj v2 v3).bind fun v5=>cond (!v5) (some (.inr (.inl false))) (some (.inl (w64 (v3+1)))))) (cond (v3 == 0) (cond (v4 != 0) (some (.inr (.inl false))) ((Xlj v2 v3).bind fun v6=>cond (!v6) (some (.inr (.inl false))) (some (.inl (w64 (v3+1)))))) (cond (v4 != 1) (some (.inr (.inl false))) ((Xlj v2 v3).bind fun v7=>cond (!v7) (some (.inr (.inl false))) (some (.inl (w64 (v3+1))))))))) none) (some (.inr (.inr ())))
def Xkh (v:Fs_) (v2:List Int):Int→Option ((Bool⊕Unit)):=
 Y9 fun s=>Xkh.B v v2 s
def Xjj (v:Fs_):Option Bool:=
 (Xmc v).bind fun v2=>(Xkh v v2 0).bind fun v8=>sel v8 (fun v9=>some v9) (fun v10=>some true)
namespace Xjj
def G:Gam:=mkG [(171,Xmc.FS),(172,Xjd.FS),(173,Xlj.FS)]
theorem Gok:GOk PR G:=.cons Xmc.ok (.cons Xjd.ok (.cons Xlj.ok .nil))
end Xjj
namespace Xkh
def c:=Yaq (Yah Proofs.Tryz.f97) [1,1,0,1,0,0]
def sp:SP:=⟨[(0,.pt Xj),(3,.seg 3 []),(4,.cs I64)],[(3,.reg,.cd SI)]⟩
def fr:=Yi4 sp (fun x s=>Xkh.B x.1.1 x.2.1 s) (fun x=>x.1.2.2.1) fun x (oo0:(Bool⊕Unit)) _ kk0=>sel oo0 (fun bb0=>kk0 (.rt) ⟨[(2,.cs .bool bb0)],[]⟩) (fun cc0=>kk0 (.ex 0) ⟨[],[]⟩)
theorem ok:Ya4 PR 59 1 (.loop c) fr:=
 Ytd Xf Xg h0 .no (G:=Xjj.G) Xjj.Gok (L:=mkL []) (l:=[]) hT [(0,([],[]))] ([2],[]) (fun x s=>((x.1.1,x.1.2.1,s,x.1.2.2.2),x.2))
  (fun x s=>by simp only[B,mC,mB,mS,mO,mN];kernel_rfl)
end Xkh
namespace Xjj
def pts:List PT:=[.pt Xj]
def FS:FS:=Ybr [.sh] pts (fun x=>Xjj x.1) fun t=>⟨[.cs .bool t],[]⟩
theorem ok:Yb5 PR 97 FS:=
 Yxj Xf Xg Proofs.Tryz.f97 h0 (.R (.R (.L (.R (.one (.fr 0)))))) (G:=G) Gok (L:=mkL [(0,Xkh.fr)]) (l:=[(0,.loop Xkh.c)]) ⟨Lam.cons Xkh.ok,trivial⟩
  (fun x=>by simp only[Xjj,mC,mB,mS,mO,mN];kernel_rfl)
end Xjj
def Xh2.B (v:Fs_) (v2:Int) (v4:Xb) (v5:Int) (v6:List Int):Option ((Int×List Int)⊕(List Int)):=
 cond (decide (v5<(v4.2.2.2.1.length:Int))) (cond (inB v5 v4.2.2.2.1.length) ((Xf2 8 (w64 (v4.2.2.1-(w64 (v5*8))))).bind fun v7=>cond (inB (v4.2.2.2.1.getD v5.toNat 0) v6.length) (some (.inl (w64 (v5+1),v6.set ((v4.2.2.2.1.getD v5.toNat 0).toNat) v7))) none) none) (some (.inr v6))
def Xh2 (v:Fs_) (v2:Int) (v4:Xb):(Int×List Int)→Option (List Int):=
 Y9 fun s=>Xh2.B v v2 v4 s.1 s.2
def Xit.B (v:Fs_) (v2:Int) (v3:List Int):Option ((Int×List Int)⊕(List Int)):=
 cond (decide (v2<(v.1.length:Int))) (cond (inB v2 v.1.length) ((Xh2 v v2 (v.1.getD v2.toNat Xa) (0,v3)).bind fun v8=>some (.inl (w64 (v2+1),v8))) none) (some (.inr v3))
def Xit (v:Fs_):(Int×List Int)→Option (List Int):=
 Y9 fun s=>Xit.B v s.1 s.2
def Xke.B (v:Fs_) (v9:List Int) (v10:Int):Option (Int⊕((Bool⊕Unit))):=
 cond (decide (v10<(v.2.1.length:Int))) (cond (inB v10 v.2.1.length) (cond (inB v10 v9.length) ((some (((v.2.1.getD v10.toNat []).length:Int) != (v9.getD v10.toNat 0))).bind fun v11=>cond v11 (some (.inr (.inl false))) (some (.inl (w64 (v10+1))))) none) none) (some (.inr (.inr ())))
def Xke (v:Fs_) (v9:List Int):Int→Option ((Bool⊕Unit)):=
 Y9 fun s=>Xke.B v v9 s
def Xf3 (v:Fs_):Option Bool:=
 cond (decide ((0:Int)≤(20:Int))&&(decide ((20:Int)≤(20:Int))&&decide ((20:Int)≤2147483648))) ((Xit v (0,List.replicate (20:Int).toNat 0)).bind fun v9=>(Xke v v9 0).bind fun v12=>sel v12 (fun v13=>some v13) (fun v14=>some true)) none
namespace Xf3
def G:Gam:=mkG [(174,Xf2.FS)]
theorem Gok:GOk PR G:=.cons Xf2.ok .nil
end Xf3
namespace Xh2
def c:=Yaq (Yah Proofs.Tryz.f98) [1,1,0,1,0,0,1,0,0,1,1,0,0]
def sp:SP:=⟨[(0,.pt Xj),(3,.seg 3 []),(4,.cs I64),(5,.pt Xe),(6,.cs I64)],[(3,.reg,.cd SI)]⟩
def fr:=Yi4 sp (fun x s=>Xh2.B x.1.1 x.1.2.2.1 x.1.2.2.2.1 s.1 s.2) (fun x=>(x.1.2.2.2.2.1,x.2.1)) fun x (bb0:List Int) _ kk0=>kk0 (.ex 2) ⟨[(0,.pt Xj x.1.1),(3,.seg 3 []),(4,.cs I64 x.1.2.2.1)],[sr 3 (.cd SI bb0)]⟩
theorem ok:Ya4 PR 72 1 (.loop c) fr:=
 Yxk Xf Xg h0 (G:=Xf3.G) Xf3.Gok [(2,([0,3,4],[3]))] (fun x s=>((x.1.1,x.1.2.1,x.1.2.2.1,x.1.2.2.2.1,s.1,x.1.2.2.2.2.2),(s.2,x.2.2)))
  (fun x s=>by simp only[B,mC,mB,mS,mO,mN];kernel_rfl)
end Xh2
namespace Xit
def c:=Yaq (Yah Proofs.Tryz.f98) [1,1,0,1,0,0]
def sp:SP:=⟨[(0,.pt Xj),(3,.seg 3 []),(4,.cs I64)],[(3,.reg,.cd SI)]⟩
def fr:=Yi4 sp (fun x s=>Xit.B x.1.1 s.1 s.2) (fun x=>(x.1.2.2.1,x.2.1)) fun x (bb0:List Int) _ kk0=>kk0 (.ex 0) ⟨[(0,.pt Xj x.1.1),(3,.seg 3 [])],[sr 3 (.cd SI bb0)]⟩
theorem ok:Ya4 PR 72 1 (.loop c) fr:=
 Yxp Xf Xg h0 (.R (.L (.one (.R (.R (.one (.fr 1))))))) (G:=Xf3.G) Xf3.Gok (L:=mkL [(1,Xh2.fr)]) (l:=[(1,.loop Xh2.c)]) ⟨Lam.cons Xh2.ok,trivial⟩ [(0,([0,3],[3]))] (fun x s=>((x.1.1,x.1.2.1,s.1,x.1.2.2.2),(s.2,x.2.2)))
  (fun x s=>by simp only[B,mC,mB,mS,mO,mN];kernel_rfl)
end Xit
namespace Xke
def c:=Yaq (Yah Proofs.Tryz.f98) [1,1,1,0,1,0,0]
def sp:SP:=⟨[(0,.pt Xj),(3,.seg 3 []),(7,.cs I64)],[(3,.reg,.cd SI)]⟩
def fr:=Yi4 sp (fun x s=>Xke.B x.1.1 x.2.1 s) (fun x=>x.1.2.2.1) fun x (oo0:(Bool⊕Unit)) _ kk0=>sel oo0 (fun bb0=>kk0 (.rt) ⟨[(2,.cs .bool bb0)],[]⟩) (fun cc0=>kk0 (.ex 4) ⟨[],[]⟩)
theorem ok:Ya4 PR 72 1 (.loop c) fr:=
 Ytd Xf Xg h0 .no (G:=Xf3.G) Xf3.Gok (L:=mkL []) (l:=[]) hT [(4,([],[]))] ([2],[]) (fun x s=>((x.1.1,x.1.2.1,s,x.1.2.2.2),x.2))
  (fun x s=>by simp only[B,mC,mB,mS,mO,mN];kernel_rfl)
end Xke
namespace Xf3
def pts:List PT:=[.pt Xj]
def FS:FS:=Ybr [.sh] pts (fun x=>Xf3 x.1) fun t=>⟨[.cs .bool t],[]⟩
theorem ok:Yb5 PR 98 FS:=
 Yxj Xf Xg Proofs.Tryz.f98 h0 (.R (.R (.two (.R (.one (.fr 0))) (.L (.R (.one (.fr 2))))))) (G:=G) Gok (L:=mkL [(1,Xh2.fr),(0,Xit.fr),(2,Xke.fr)]) (l:=[(0,.loop Xit.c),(2,.loop Xke.c)]) ⟨Lam.skip rfl (Lam.cons Xit.ok),Lam.skip rfl (Lam.skip rfl (Lam.cons Xke.ok)),trivial⟩
  (fun x=>by simp only[Xf3,mC,mB,mS,mO,mN];kernel_rfl)
end Xf3
def Xl8 (v:Fs_):Option Int:=
 (Xen v).bind fun v2=>cond (v2 != 0) (some v2) ((Xjj v).bind fun v3=>cond (!v3) (some 1) ((Xf3 v).bind fun v4=>cond (!v4) (some 1) (some 0)))
namespace Xl8
def G:Gam:=mkG [(96,Xen.FS),(97,Xjj.FS),(98,Xf3.FS)]
def pts:List PT:=[.pt Xj]
def FS:FS:=Ybr [.sh] pts (fun x=>Xl8 x.1) fun t=>⟨[.cs I64 t],[]⟩
theorem ok:Yb5 PR 47 FS:=
 Yxj Xf Xg Proofs.Tryz.f47 h0 .no (G:=G) (show GOk PR G from .cons Xen.ok (.cons Xjj.ok (.cons Xf3.ok .nil))) (L:=mkL []) (l:=[]) hT
  (fun x=>by simp only[Xl8,mC,mB,mS,mO,mN];kernel_rfl)
end Xl8
def Xiq.B (v:Xd) (v5:Xba) (v3:Int) (v4:Int) (v6:Fs_):Option ((Int×Int×Fs_)⊕((Xba⊕(Int×Fs_)))):=
 cond (decide (v4<10)) ((Xd1 v (w64 ((17:Int)+v4))).bind fun v7=>(Xgt v7).bind fun v8=>cond (!v8.2) (some (.inr (.inl (5,([],[],()),())))) ((some (v6.1++([(v8.1.1,v8.1.2.1,v8.1.2.2.1,v8.1.2.2.2.1,v8.1.2.2.2.2.1,v8.1.2.2.2.2.2)]))).bind fun v9=>cond (decide (v9.length≤2147483648)) (cond (decide ((v7.length:Int)>0)) (some (.inl (w64 (v4+1),w64 (v4+1),(v9,v6.2)))) (some (.inl (v3,w64 (v4+1),(v9,v6.2))))) none)) (some (.inr (.inr (v3,v6))))
def Xiq (v:Xd) (v5:Xba):(Int×Int×Fs_)→Option ((Xba⊕(Int×Fs_))):=
 Y9 fun s=>Xiq.B v v5 s.1 s.2.1 s.2.2
def Xil (v:Xd):Option Xba:=
 (Xko v).bind fun v2=>cond (v2.1 != 0) (some (v2.1,([],[],()),())) (cond (decide ((0:Int)≤(20:Int))&&(decide ((20:Int)≤(20:Int))&&decide ((20:Int)≤2147483648))) ((Xiq v (0,([],[],()),()) (0,0,([],List.replicate (20:Int).toNat ([]:List Int),()))).bind fun v10=>sel v10 (fun v11=>some (v11.1,(v11.2.1.1,v11.2.1.2.1,v11.2.1.2.2),v11.2.2)) (fun v12=>cond (decide ((0:Int)≤v12.1)&&decide (v12.1≤(v12.2.1.length:Int))) ((Xen ((v12.2.1.drop 0).take (v12.1.toNat-0),v12.2.2)).bind fun v13=>cond (v13 != 0) (some (v13,([],[],()),())) ((Xgc v ((v12.2.1.drop 0).take (v12.1.toNat-0),v12.2.2)).bind fun v14=>cond (!v14.1) (some (5,([],[],()),())) ((Xl8 v14.2).bind fun v15=>cond (v15 != 0) (some (v15,([],[],()),())) (some (0,(v14.2.1,v14.2.2.1,v14.2.2.2),()))))) none)) none)
namespace Xil
def G:Gam:=mkG [(46,Xko.FS),(94,Xd1.FS),(194,Xgt.FS),(96,Xen.FS),(195,Xgc.FS),(47,Xl8.FS)]
theorem Gok:GOk PR G:=.cons Xko.ok (.cons Xd1.ok (.cons Xgt.ok (.cons Xen.ok (.cons Xgc.ok (.cons Xl8.ok .nil)))))
end Xil
namespace Xiq
def c:=Yaq (Yah Proofs.Tryz.f131) [1,1,1,1,0,1,0,0]
def sp:SP:=⟨[(1,.pt Xh),(2,.loc 2 []),(4,.loc 4 []),(5,.cs I64),(6,.cs I64)],[(2,.mem,.cd Xbp),(4,.mem,.cd Xj)]⟩
def fr:=Yi4 sp (fun x s=>Xiq.B x.1.1 x.2.1 s.1 s.2.1 s.2.2) (fun x=>(x.1.2.2.2.1,x.1.2.2.2.2.1,x.2.2.1)) fun x (oo0:(Xba⊕(Int×Fs_))) _ kk0=>sel oo0 (fun bb0=>kk0 (.rt) ⟨[(2,.loc 2 [])],[(2,some ⟨.mem,.cd Xbp bb0⟩)]⟩) (fun cc0=>kk0 (.ex 0) ⟨[(1,.pt Xh x.1.1),(2,.loc 2 []),(4,.loc 4 []),(5,.cs I64 cc0.1)],[(2,some ⟨.mem,.cd Xbp x.2.1⟩),(4,some ⟨.mem,.cd Xj cc0.2⟩)]⟩)
theorem ok:Ya4 PR 68 1 (.loop c) fr:=
 Ytd Xf Xg ⟨[1],[],[],0⟩ .no (G:=Xil.G) Xil.Gok (L:=mkL []) (l:=[]) hT [(0,([1,2,4,5],[2,4]))] ([2],[2]) (fun x s=>((x.1.1,x.1.2.1,x.1.2.2.1,s.1,s.2.1,x.1.2.2.2.2.2),(x.2.1,s.2.2,x.2.2.2)))
  (fun x s=>by simp only[B,mC,mB,mS,mO,mN];kernel_rfl)
end Xiq
namespace Xil
def pts:List PT:=[.cs Xh]
def FS:FS:=Ybr [.sh] pts (fun x=>Xil x.1) fun t=>⟨[.cd Xbp t],[]⟩
theorem ok:Yb5 PR 131 FS:=
 Yxj Xf Xg Proofs.Tryz.f131 ⟨[1],[],[],0⟩ (.R (.R (.R (.R (.L (.R (.one (.fr 0)))))))) (G:=G) Gok (L:=mkL [(0,Xiq.fr)]) (l:=[(0,.loop Xiq.c)]) ⟨Lam.cons Xiq.ok,trivial⟩
  (fun x=>by simp only[Xil,mC,mB,mS,mO,mN];kernel_rfl)
end Xil
def Xhi (v:Xb):Option Xb:=
 (Xaw v.2.2.2.1).bind fun v2=>cond (decide (([]++v.2.2.2.2.1).length≤2147483648)) (some (v.1,v.2.1,v.2.2.1,v2,[]++v.2.2.2.2.1,v.2.2.2.2.2)) none
namespace Xhi
def G:Gam:=mkG [(103,Xaw.FS)]
def pts:List PT:=[.cs Xe]
def FS:FS:=Ybr [.sh] pts (fun x=>Xhi x.1) fun t=>⟨[.cd Xe t],[]⟩
theorem ok:Yb5 PR 157 FS:=
 Yxj Xf Xg Proofs.Tryz.f157 h0 .no (G:=G) (show GOk PR G from .cons Xaw.ok .nil) (L:=mkL []) (l:=[]) hT
  (fun x=>by simp only[Xhi,mC,mB,mS,mO,mN];kernel_rfl)
end Xhi
def Xb0.B (v:Fs_) (v3:Fs_) (v2:Int) (v4:Fs_):Option ((Int×Fs_)⊕Fs_):=
 cond (decide (v2<(v.1.length:Int))) (cond (inB v2 v.1.length) ((Xhi (v.1.getD v2.toNat Xa)).bind fun v5=>(some (v4.1++([(v5.1,v5.2.1,v5.2.2.1,v5.2.2.2.1,v5.2.2.2.2.1,v5.2.2.2.2.2)]))).bind fun v6=>cond (decide (v6.length≤2147483648)) (some (.inl (w64 (v2+1),(v6,v4.2)))) none) none) (some (.inr v4))
def Xb0 (v:Fs_) (v3:Fs_):(Int×Fs_)→Option Fs_:=
 Y9 fun s=>Xb0.B v v3 s.1 s.2
def Xbw.B (v:Fs_) (v9:Fs_) (v8:Int) (v10:Fs_):Option ((Int×Fs_)⊕Fs_):=
 cond (decide (v8<(v.2.1.length:Int))) (cond (inB v8 v.2.1.length) (cond (decide (([]++(v.2.1.getD v8.toNat [])).length≤2147483648)) (cond (decide ((v10.2.1++([[]++(v.2.1.getD v8.toNat [])])).length≤2147483648)) (some (.inl (w64 (v8+1),(v10.1,v10.2.1++([[]++(v.2.1.getD v8.toNat [])]),v10.2.2)))) none) none) none) (some (.inr v10))
def Xbw (v:Fs_) (v9:Fs_):(Int×Fs_)→Option Fs_:=
 Y9 fun s=>Xbw.B v v9 s.1 s.2
def Xa1 (v:Fs_):Option Fs_:=
 (Xb0 v ([],[],()) (0,([],[],()))).bind fun v7=>(Xbw v ([],[],()) (0,v7)).bind fun v11=>some (v11.1,v11.2.1,v11.2.2)
namespace Xa1
def G:Gam:=mkG [(157,Xhi.FS)]
theorem Gok:GOk PR G:=.cons Xhi.ok .nil
end Xa1
namespace Xb0
def c:=Yaq (Yah Proofs.Tryz.f80) [1,1,0,1,0,0]
def sp:SP:=⟨[(1,.pt Xj),(2,.loc 2 []),(3,.loc 3 []),(4,.cs I64)],[(2,.mem,.cd Xj),(3,.mem,.cd Xj)]⟩
def fr:=Yi4 sp (fun x s=>Xb0.B x.1.1 x.2.1 s.1 s.2) (fun x=>(x.1.2.2.2.1,x.2.2.1)) fun x (bb0:Fs_) _ kk0=>kk0 (.ex 0) ⟨[(1,.pt Xj x.1.1),(2,.loc 2 []),(3,.loc 3 [])],[(2,some ⟨.mem,.cd Xj x.2.1⟩),(3,some ⟨.mem,.cd Xj bb0⟩)]⟩
theorem ok:Ya4 PR 45 1 (.loop c) fr:=
 Yxk Xf Xg ⟨[1],[],[],0⟩ (G:=Xa1.G) Xa1.Gok [(0,([1,2,3],[2,3]))] (fun x s=>((x.1.1,x.1.2.1,x.1.2.2.1,s.1,x.1.2.2.2.2),(x.2.1,s.2,x.2.2.2)))
  (fun x s=>by simp only[B,mC,mB,mS,mO,mN];kernel_rfl)
end Xb0
namespace Xbw
def c:=Yaq (Yah Proofs.Tryz.f80) [1,1,1,0,1,0,0]
def sp:SP:=⟨[(1,.pt Xj),(2,.loc 2 []),(3,.loc 3 []),(5,.cs I64)],[(2,.mem,.cd Xj),(3,.mem,.cd Xj)]⟩
def fr:=Yi4 sp (fun x s=>Xbw.B x.1.1 x.2.1 s.1 s.2) (fun x=>(x.1.2.2.2.1,x.2.2.1)) fun x (bb0:Fs_) _ kk0=>kk0 (.ex 2) ⟨[(2,.loc 2 []),(3,.loc 3 [])],[(2,some ⟨.mem,.cd Xj x.2.1⟩),(3,some ⟨.mem,.cd Xj bb0⟩)]⟩
theorem ok:Ya4 PR 45 1 (.loop c) fr:=
 Yxk Xf Xg ⟨[1],[],[],0⟩ (G:=Xa1.G) Xa1.Gok [(2,([2,3],[2,3]))] (fun x s=>((x.1.1,x.1.2.1,x.1.2.2.1,s.1,x.1.2.2.2.2),(x.2.1,s.2,x.2.2.2)))
  (fun x s=>by simp only[B,mC,mB,mS,mO,mN];kernel_rfl)
end Xbw
namespace Xa1
def pts:List PT:=[.cs Xj]
def FS:FS:=Ybr [.sh] pts (fun x=>Xa1 x.1) fun t=>⟨[.cd Xj t],[]⟩
theorem ok:Yb5 PR 80 FS:=
 Yxj Xf Xg Proofs.Tryz.f80 ⟨[1],[],[],0⟩ (.R (.R (.two (.R (.one (.fr 0))) (.L (.R (.one (.fr 1))))))) (G:=G) Gok (L:=mkL [(0,Xb0.fr),(1,Xbw.fr)]) (l:=[(0,.loop Xb0.c),(1,.loop Xbw.c)]) ⟨Lam.cons Xb0.ok,Lam.skip rfl (Lam.cons Xbw.ok),trivial⟩
  (fun x=>by simp only[Xa1,mC,mB,mS,mO,mN];kernel_rfl)
end Xa1
def Xii (v:Xd):Option Xff:=
 (Xmk v).bind fun v2=>cond (v2.1 != 0) (some (v2.1,(0,0,0,[],[],([],[],()),()),(([],[],()),([],[],()),([],[],()),()),())) ((Xgr v [] true).bind fun v3=>(Xll (v3.1,v3.2.1,v3.2.2) v2.2.1).bind fun v4=>cond (v4.1 != 0) (some (v4.1,(0,0,0,[],[],([],[],()),()),(([],[],()),([],[],()),([],[],()),()),())) ((Xil (v4.2.1.1,v4.2.1.2.1,v4.2.1.2.2)).bind fun v5=>cond (v5.1 != 0) (some (v5.1,(0,0,0,[],[],([],[],()),()),(([],[],()),([],[],()),([],[],()),()),())) ((Xa1 (v5.2.1.1,v5.2.1.2.1,v5.2.1.2.2)).bind fun v6=>some (0,(0,0,0,[],[],([],[],()),()),((v4.2.1.1,v4.2.1.2.1,v4.2.1.2.2),(v5.2.1.1,v5.2.1.2.1,v5.2.1.2.2),(v6.1,v6.2.1,v6.2.2),()),()))))
namespace Xii
def G:Gam:=mkG [(129,Xmk.FS),(130,Xgr.FS),(79,Xll.FS),(131,Xil.FS),(80,Xa1.FS)]
def pts:List PT:=[.cs Xh]
def FS:FS:=Ybr [.sh] pts (fun x=>Xii x.1) fun t=>⟨[.cd Xal t],[]⟩
theorem ok:Yb5 PR 67 FS:=
 Yxj Xf Xg Proofs.Tryz.f67 ⟨[1],[],[],0⟩ .no (G:=G) (show GOk PR G from .cons Xmk.ok (.cons Xgr.ok (.cons Xll.ok (.cons Xil.ok (.cons Xa1.ok .nil))))) (L:=mkL []) (l:=[]) hT
  (fun x=>by simp only[Xii,mC,mB,mS,mO,mN];kernel_rfl)
end Xii
def Xgu (v:Fs_):Option Int:=
 (Xgs v.1).bind fun v2=>cond (v2 != 0) (some v2) (cond (cond (!((v.1.length:Int) == 0)) (inB 0 v.1.length) true) ((some (cond ((v.1.length:Int) == 0) true ((v.1.getD (0:Int).toNat Xa).1 != 2))).bind fun v3=>cond (cond v3 true ((v.2.1.length:Int) != 20)) (some 1) (some 0)) none)
namespace Xgu
def G:Gam:=mkG [(169,Xgs.FS)]
def pts:List PT:=[.pt Xj]
def FS:FS:=Ybr [.sh] pts (fun x=>Xgu x.1) fun t=>⟨[.cs I64 t],[]⟩
theorem ok:Yb5 PR 132 FS:=
 Yxj Xf Xg Proofs.Tryz.f132 h0 .no (G:=G) (show GOk PR G from .cons Xgs.ok .nil) (L:=mkL []) (l:=[]) hT
  (fun x=>by simp only[Xgu,mC,mB,mS,mO,mN];kernel_rfl)
end Xgu
def Xik (v:Fs_) (v2:Int):Option Bool:=
 (Xae v2 0 (w64 ((v.1.length:Int)-1))).bind fun v3=>some v3
namespace Xik
def G:Gam:=mkG [(144,Xae.FS)]
def pts:List PT:=[.pt Xj,.cs I64]
def FS:FS:=Ybr [.sh,.sh] pts (fun x=>Xik x.1 x.2.1) fun t=>⟨[.cs .bool t],[]⟩
theorem ok:Yb5 PR 229 FS:=
 Yxj Xf Xg Proofs.Tryz.f229 h0 .no (G:=G) (show GOk PR G from .cons Xae.ok .nil) (L:=mkL []) (l:=[]) hT
  (fun x=>by simp only[Xik,mC,mB,mS,mO,mN];kernel_rfl)
end Xik
def Xc8.B (v:Fs_) (v12:Int) (v10:List Xc) (v5:Fs_) (v6:Fs_) (v11:Int) (v13:Int) (v14:List Bool) (v15:List Int) (v16:List Xc):Option ((Int×Int×(List Bool)×(List Int)×List Xc)⊕(Int×(List Bool)×(List Int)×List Xc)):=
 cond (decide (v13<(v10.length:Int))) (cond (inB v13 v10.length) ((Xik v (v10.getD v13.toNat Xk).2.1).bind fun v17=>cond (cond (!(!v17)) (inB (v10.getD v13.toNat Xk).2.1 v.1.length) true) ((some (cond (!v17) true ((v.1.getD (v10.getD v13.toNat Xk).2.1.toNat Xa).1 == 0))).bind fun v18=>cond (cond (!v18) (inB (v10.getD v13.toNat Xk).2.1 v.1.length) true) (cond (cond ((!v18)&&((v.1.getD (v10.getD v13.toNat Xk).2.1.toNat Xa).1 == 2)) (inB (v10.getD v13.toNat Xk).2.1 v14.length) true) ((some (cond v18 true (cond ((v.1.getD (v10.getD v13.toNat Xk).2.1.toNat Xa).1 == 2) (v14.getD ((v10.getD v13.toNat Xk).2.1.toNat) false) false))).bind fun v19=>cond v19 (some (.inl (w64 (v11+1),w64 (v13+1),v14,v15,v16))) (cond (inB (v10.getD v13.toNat Xk).2.1 v.1.length) ((some (v.1.getD (v10.getD v13.toNat Xk).2.1.toNat Xa).1).bind fun v20=>cond (v20 == 2) (cond (decide ((v15++([(v10.getD v13.toNat Xk).2.1])).length≤2147483648)) (cond (inB (v10.getD v13.toNat Xk).2.1 v14.length) ((some (v14.set ((v10.getD v13.toNat Xk).2.1.toNat) true)).bind fun v21=>cond (inB v13 v10.length) (cond (decide ((v16++([v10.getD v13.toNat Xk])).length≤2147483648)) (some (.inl (v11,w64 (v13+1),v21,v15++([(v10.getD v13.toNat Xk).2.1]),v16++([v10.getD v13.toNat Xk])))) none) none) none) none) (cond (inB (v10.getD v13.toNat Xk).2.1 v14.length) ((some (v14.set ((v10.getD v13.toNat Xk).2.1.toNat) true)).bind fun v22=>cond (inB v13 v10.length) (cond (decide ((v16++([v10.getD v13.toNat Xk])).length≤2147483648)) (some (.inl (v11,w64 (v13+1),v22,v15,v16++([v10.getD v13.toNat Xk])))) none) none) none)) none)) none) none) none) none) (some (.inr (v11,v14,v15,v16)))
def Xc8 (v:Fs_) (v12:Int) (v10:List Xc) (v5:Fs_) (v6:Fs_):(Int×Int×(List Bool)×(List Int)×List Xc)→Option (Int×(List Bool)×(List Int)×List Xc):=
 Y9 fun s=>Xc8.B v v12 v10 v5 v6 s.1 s.2.1 s.2.2.1 s.2.2.2.1 s.2.2.2.2
def Xdo.B (v:Fs_) (v5:Fs_) (v4:Int) (v6:Fs_) (v7:List Bool) (v8:List Int):Option ((Int×Fs_×(List Bool)×List Int)⊕(Int×Fs_×List Bool)):=
 cond (decide ((v8.length:Int)>0)) (cond (inB 0 v8.length) (cond (decide ((0:Int)≤(1:Int))&&decide ((1:Int)≤(v8.length:Int))) ((some ((v8.drop ((1:Int).toNat)).take (v8.length-((1:Int).toNat)))).bind fun v9=>cond (inB (v8.getD ((0:Int).toNat) 0) v.1.length) ((some (v.1.getD (v8.getD ((0:Int).toNat) 0).toNat Xa).2.2.2.2.1).bind fun v10=>(Xc8 v (v8.getD ((0:Int).toNat) 0) v10 v5 v6 (v4,0,v7,v9,[])).bind fun v23=>cond (inB (v8.getD ((0:Int).toNat) 0) v6.1.length) ((some (v6.1.set ((v8.getD ((0:Int).toNat) 0).toNat) ((v6.1.getD ((v8.getD ((0:Int).toNat) 0).toNat) Xa).1,(v6.1.getD ((v8.getD ((0:Int).toNat) 0).toNat) Xa).2.1,(v6.1.getD ((v8.getD ((0:Int).toNat) 0).toNat) Xa).2.2.1,(v6.1.getD ((v8.getD ((0:Int).toNat) 0).toNat) Xa).2.2.2.1,v23.2.2.2,(v6.1.getD ((v8.getD ((0:Int).toNat) 0).toNat) Xa).2.2.2.2.2))).bind fun v24=>some (.inl (v23.1,(v24,v6.2),v23.2.1,v23.2.2.1))) none) none) none) none) (some (.inr (v4,v6,v7)))
def Xdo (v:Fs_) (v5:Fs_):(Int×Fs_×(List Bool)×List Int)→Option (Int×Fs_×List Bool):=
 Y9 fun s=>Xdo.B v v5 s.1 s.2.1 s.2.2.1 s.2.2.2
def Xcv (v:Fs_):Option (Fs_×(List Bool)×Int):=
 (Xa1 v).bind fun v2=>cond (decide ((0:Int)≤(v.1.length:Int))&&(decide ((v.1.length:Int)≤(v.1.length:Int))&&decide ((v.1.length:Int)≤2147483648))) (cond (inB 0 ((List.replicate (v.1.length:Int).toNat false).length)) ((some ((List.replicate (v.1.length:Int).toNat false).set ((0:Int).toNat) true)).bind fun v3=>(Xdo v ([],[],()) (0,(v2.1,v2.2.1,v2.2.2),v3,[0])).bind fun v25=>some ((v25.2.1.1,v25.2.1.2.1,v25.2.1.2.2),v25.2.2,v25.1)) none) none
namespace Xcv
def G:Gam:=mkG [(80,Xa1.FS),(229,Xik.FS)]
theorem Gok:GOk PR G:=.cons Xa1.ok (.cons Xik.ok .nil)
end Xcv
namespace Xc8
def c:=Yaq (Yah Proofs.Tryz.f196) [1,1,1,1,1,1,0,0,0,1,0,1,1,1,1,0,1,0,0]
def sp:SP:=⟨[(0,.pt Xj),(2,.loc 2 []),(5,.loc 5 []),(6,.seg 6 []),(7,.cs I64),(8,.seg 8 []),(9,.cs I64),(10,.seg 10 []),(11,.cs (.sl Xm)),(12,.cs I64)],[(2,.mem,.cd Xj),(5,.mem,.cd Xj),(6,.reg,.cd (.sl .bool)),(8,.reg,.cd SI),(10,.reg,.cd (.sl Xm))]⟩
def fr:=Yi4 sp (fun x s=>Xc8.B x.1.1 x.1.2.2.2.2.2.2.1 x.1.2.2.2.2.2.2.2.2.1 x.2.1 x.2.2.1 s.1 s.2.1 s.2.2.1 s.2.2.2.1 s.2.2.2.2) (fun x=>(x.1.2.2.2.2.1,x.1.2.2.2.2.2.2.2.2.2.1,x.2.2.2.1,x.2.2.2.2.1,x.2.2.2.2.2.1)) fun x (bb0:Int×(List Bool)×(List Int)×List Xc) _ kk0=>kk0 (.ex 2) ⟨[(0,.pt Xj x.1.1),(2,.loc 2 []),(5,.loc 5 []),(6,.seg 6 []),(7,.cs I64 bb0.1),(8,.seg 8 []),(9,.cs I64 x.1.2.2.2.2.2.2.1),(10,.seg 10 [])],[(2,some ⟨.mem,.cd Xj x.2.1⟩),(5,some ⟨.mem,.cd Xj x.2.2.1⟩),sr 6 (.cd (.sl .bool) bb0.2.1),sr 8 (.cd SI bb0.2.2.1),sr 10 (.cd (.sl Xm) bb0.2.2.2)]⟩
theorem ok:Ya4 PR 123 1 (.loop c) fr:=
 Yxk Xf Xg h0 (G:=Xcv.G) Xcv.Gok [(2,([0,2,5,6,7,8,9,10],[2,5,6,8,10]))] (fun x s=>((x.1.1,x.1.2.1,x.1.2.2.1,x.1.2.2.2.1,s.1,x.1.2.2.2.2.2.1,x.1.2.2.2.2.2.2.1,x.1.2.2.2.2.2.2.2.1,x.1.2.2.2.2.2.2.2.2.1,s.2.1,x.1.2.2.2.2.2.2.2.2.2.2),(x.2.1,x.2.2.1,s.2.2.1,s.2.2.2.1,s.2.2.2.2,x.2.2.2.2.2.2)))
  (fun x s=>by simp only[B,mC,mB,mS,mO,mN];kernel_rfl)
end Xc8
namespace Xdo
def c:=Yaq (Yah Proofs.Tryz.f196) [1,1,1,1,1,1,0,0,0]
def sp:SP:=⟨[(0,.pt Xj),(2,.loc 2 []),(5,.loc 5 []),(6,.seg 6 []),(7,.cs I64),(8,.seg 8 [])],[(2,.mem,.cd Xj),(5,.mem,.cd Xj),(6,.reg,.cd (.sl .bool)),(8,.reg,.cd SI)]⟩
def fr:=Yi4 sp (fun x s=>Xdo.B x.1.1 x.2.1 s.1 s.2.1 s.2.2.1 s.2.2.2) (fun x=>(x.1.2.2.2.2.1,x.2.2.1,x.2.2.2.1,x.2.2.2.2.1)) fun x (bb0:Int×Fs_×List Bool) _ kk0=>kk0 (.ex 0) ⟨[(2,.loc 2 []),(5,.loc 5 []),(6,.seg 6 []),(7,.cs I64 bb0.1)],[(2,some ⟨.mem,.cd Xj x.2.1⟩),(5,some ⟨.mem,.cd Xj bb0.2.1⟩),sr 6 (.cd (.sl .bool) bb0.2.2)]⟩
theorem ok:Ya4 PR 123 1 (.loop c) fr:=
 Yxp Xf Xg h0 (.R (.one (.R (.R (.R (.R (.L (.R (.one (.fr 1)))))))))) (G:=Xcv.G) Xcv.Gok (L:=mkL [(1,Xc8.fr)]) (l:=[(1,.loop Xc8.c)]) ⟨Lam.cons Xc8.ok,trivial⟩ [(0,([2,5,6,7],[2,5,6]))] (fun x s=>((x.1.1,x.1.2.1,x.1.2.2.1,x.1.2.2.2.1,s.1,x.1.2.2.2.2.2),(x.2.1,s.2.1,s.2.2.1,s.2.2.2,x.2.2.2.2.2)))
  (fun x s=>by simp only[B,mC,mB,mS,mO,mN];kernel_rfl)
end Xdo
namespace Xcv
def pts:List PT:=[.pt Xj]
def FS:FS:=Ybr [.sh] pts (fun x=>Xcv x.1) fun t=>⟨[.cd Xj t.1,.cd (.sl .bool) t.2.1,.cs I64 t.2.2],[]⟩
theorem ok:Yb5 PR 196 FS:=
 Yxj Xf Xg Proofs.Tryz.f196 h0 (.R (.R (.R (.R (.R (.R (.L (.one (.fr 0))))))))) (G:=G) Gok (L:=mkL [(1,Xc8.fr),(0,Xdo.fr)]) (l:=[(0,.loop Xdo.c)]) ⟨Lam.skip rfl (Lam.cons Xdo.ok),trivial⟩
  (fun x=>by simp only[Xcv,mC,mB,mS,mO,mN];kernel_rfl)
end Xcv
def Xem.B (v2:List Bool) (v4:Int) (v5:Int) (v3:Int) (v6:Int) (v7:Fs_):Option ((Int×Int×Fs_)⊕(Int×Fs_)):=
 cond (decide (v6<(v7.1.length:Int))) (cond (inB v6 v2.length) (cond (cond (!(v2.getD v6.toNat false)) (inB v6 v7.1.length) true) ((some (cond (!(v2.getD v6.toNat false)) ((v7.1.getD v6.toNat Xa).1 != 0) false)).bind fun v8=>cond v8 (cond (inB v6 v7.1.length) (some (.inl (w64 (v3+1),w64 (v6+1),(v7.1.set v6.toNat (0,0,0,[],[],()),v7.2)))) none) (some (.inl (v3,w64 (v6+1),v7)))) none) none) (some (.inr (v3,v7)))
def Xem (v2:List Bool) (v4:Int) (v5:Int):(Int×Int×Fs_)→Option (Int×Fs_):=
 Y9 fun s=>Xem.B v2 v4 v5 s.1 s.2.1 s.2.2
def Xcj.B (v10:Int) (v11:Int) (v12:Int) (v13:Int) (v15:Nat) (v14:Fs_) (v16:Int):Option (Int⊕Int):=
 (some ((v14.1.getD v15 Xa).2.2.2.1.length:Int)).bind fun v17=>cond (decide (v16<v17)) (cond (decide ((0:Int)≤v13)&&decide (v13≤(v14.1.length:Int))) (cond (inB v16 ((v14.1.getD v15 Xa).2.2.2.1.length)) ((some ((v14.1.getD v15 Xa).2.2.2.1.getD v16.toNat 0)).bind fun v18=>(Xkp ((v14.1.drop 0).take (v13.toNat-0)) v18).bind fun v19=>cond (v19 == 0) (some (.inl (w64 (v16+1)))) (some (.inr v16))) none) none) (some (.inr v16))
def Xcj (v10:Int) (v11:Int) (v12:Int) (v13:Int) (v15:Nat) (v14:Fs_):Int→Option Int:=
 Y9 fun s=>Xcj.B v10 v11 v12 v13 v15 v14 s
def Xev.B (v10:Int) (v11:Int) (v12:Int) (v13:Int) (v14:Fs_):Option ((Int×Int×Int×Fs_)⊕(Int×Int×Fs_)):=
 cond (decide (v13<(v14.1.length:Int))) (cond (inB v13 v14.1.length) (cond ((v14.1.getD v13.toNat Xa).1 != 1) (some (.inl (v11,v12,w64 (v13+1),v14))) ((Xcj v10 v11 v12 v13 v13.toNat v14 0).bind fun v20=>(some ((v14.1.getD v13.toNat Xa).2.2.2.1.length:Int)).bind fun v21=>cond (decide ((0:Int)≤v20)&&decide (v20≤((v14.1.getD v13.toNat Xa).2.2.2.1.length:Int))) (cond (Nat.beq v13.toNat v13.toNat&&true) ((some (((v14.1.getD v13.toNat Xa).2.2.2.1.drop 0).take (v20.toNat-0))).bind fun v22=>(some (v14.1.set v13.toNat ((v14.1.getD v13.toNat Xa).1,(v14.1.getD v13.toNat Xa).2.1,(v14.1.getD v13.toNat Xa).2.2.1,v22,(v14.1.getD v13.toNat Xa).2.2.2.2))).bind fun v23=>(Xf2 (v23.getD v13.toNat Xa).2.2.1 (w64 (v20*8))).bind fun v24=>(some (v23.set v13.toNat ((v23.getD v13.toNat Xa).1,(v23.getD v13.toNat Xa).2.1,v24,(v23.getD v13.toNat Xa).2.2.2))).bind fun v25=>(Xjd v25 v13).bind fun v26=>cond ((v25.getD v13.toNat Xa).2.1 != v26) ((some (v25.set v13.toNat ((v25.getD v13.toNat Xa).1,v26,(v25.getD v13.toNat Xa).2.2))).bind fun v27=>some (.inl (w64 (v11+(w64 (v21-v20))),w64 (v12+1),w64 (v13+1),(v27,v14.2)))) (some (.inl (w64 (v11+(w64 (v21-v20))),v12,w64 (v13+1),(v25,v14.2))))) none) none)) none) (some (.inr (v11,v12,v14)))
def Xev (v10:Int):(Int×Int×Int×Fs_)→Option (Int×Int×Fs_):=
 Y9 fun s=>Xev.B v10 s.1 s.2.1 s.2.2.1 s.2.2.2
def Xbx (v:Fs_) (v2:List Bool):Option (Int×Int×Int×Fs_):=
 (Xem v2 0 0 (0,0,v)).bind fun v9=>(Xev v9.1 (0,0,0,v9.2)).bind fun v28=>some (v9.1,v28.1,v28.2.1,v28.2.2)
namespace Xbx
def G:Gam:=mkG [(206,Xkp.FS),(174,Xf2.FS),(172,Xjd.FS)]
theorem Gok:GOk PR G:=.cons Xkp.ok (.cons Xf2.ok (.cons Xjd.ok .nil))
end Xbx
namespace Xem
def c:=Yaq (Yah Proofs.Tryz.f197) [1,1,1,1,0,1,0,0]
def sp:SP:=⟨[(0,.loc 0 []),(1,.cs (.sl .bool)),(7,.cs I64),(8,.cs I64),(9,.cs I64),(10,.cs I64)],[(0,.mem,.cd Xj)]⟩
def fr:=Yi4 sp (fun x s=>Xem.B x.1.2.1 x.1.2.2.2.1 x.1.2.2.2.2.1 s.1 s.2.1 s.2.2) (fun x=>(x.1.2.2.1,x.1.2.2.2.2.2.1,x.2.1)) fun x (bb0:Int×Fs_) _ kk0=>kk0 (.ex 0) ⟨[(0,.loc 0 []),(7,.cs I64 bb0.1),(8,.cs I64 x.1.2.2.2.1),(9,.cs I64 x.1.2.2.2.2.1)],[(0,some ⟨.mem,.cd Xj bb0.2⟩)]⟩
theorem ok:Ya4 PR 144 2 (.loop c) fr:=
 Yxk Xf Xg h0 (G:=Xbx.G) Xbx.Gok [(0,([0,7,8,9],[0]))] (fun x s=>((x.1.1,x.1.2.1,s.1,x.1.2.2.2.1,x.1.2.2.2.2.1,s.2.1,x.1.2.2.2.2.2.2),(s.2.2,x.2.2)))
  (fun x s=>by simp only[B,mC,mB,mS,mO,mN];kernel_rfl)
end Xem
namespace Xcj
def c:=Yaq (Yah Proofs.Tryz.f197) [1,1,1,1,1,0,1,0,0,1,0,0,1,1,1,0,0,0]
def sp:SP:=⟨[(0,.loc 0 []),(7,.cs I64),(8,.cs I64),(9,.cs I64),(11,.cs I64),(12,.loc 0 [.f1,.el]),(13,.cs I64)],[(0,.mem,.cd Xj)]⟩
def fr:=Yi4 sp (fun x s=>Xcj.B x.1.2.1 x.1.2.2.1 x.1.2.2.2.1 x.1.2.2.2.2.1 x.1.2.2.2.2.2.1.1 x.2.1 s) (fun x=>x.1.2.2.2.2.2.2.1) fun x (bb0:Int) _ kk0=>kk0 (.ex 4) ⟨[(0,.loc 0 []),(7,.cs I64 x.1.2.1),(8,.cs I64 x.1.2.2.1),(9,.cs I64 x.1.2.2.2.1),(11,.cs I64 x.1.2.2.2.2.1),(12,.loc 0 [.f1,.el x.1.2.2.2.2.2.1.1]),(13,.cs I64 bb0)],[(0,some ⟨.mem,.cd Xj x.2.1⟩)]⟩
theorem ok:Ya4 PR 144 2 (.loop c) fr:=
 Yxk Xf Xg h0 (G:=Xbx.G) Xbx.Gok [(4,([0,7,8,9,11,12,13],[0]))] (fun x s=>((x.1.1,x.1.2.1,x.1.2.2.1,x.1.2.2.2.1,x.1.2.2.2.2.1,x.1.2.2.2.2.2.1,s,x.1.2.2.2.2.2.2.2),x.2))
  (fun x s=>by simp only[B,mC,mB,mS,mO,mN];kernel_rfl)
end Xcj
namespace Xev
def c:=Yaq (Yah Proofs.Tryz.f197) [1,1,1,1,1,0,1,0,0]
def sp:SP:=⟨[(0,.loc 0 []),(7,.cs I64),(8,.cs I64),(9,.cs I64),(11,.cs I64)],[(0,.mem,.cd Xj)]⟩
def fr:=Yi4 sp (fun x s=>Xev.B x.1.2.1 s.1 s.2.1 s.2.2.1 s.2.2.2) (fun x=>(x.1.2.2.1,x.1.2.2.2.1,x.1.2.2.2.2.1,x.2.1)) fun x (bb0:Int×Int×Fs_) _ kk0=>kk0 (.ex 2) ⟨[(7,.cs I64 x.1.2.1),(8,.cs I64 bb0.1),(9,.cs I64 bb0.2.1)],[(0,some ⟨.mem,.cd Xj bb0.2.2⟩)]⟩
theorem ok:Ya4 PR 144 2 (.loop c) fr:=
 Yxp Xf Xg h0 (.R (.L (.one (.R (.R (.R (.L (.one (.fr 2))))))))) (G:=Xbx.G) Xbx.Gok (L:=mkL [(2,Xcj.fr)]) (l:=[(2,.loop Xcj.c)]) ⟨Lam.cons Xcj.ok,trivial⟩ [(2,([7,8,9],[0]))] (fun x s=>((x.1.1,x.1.2.1,s.1,s.2.1,s.2.2.1,x.1.2.2.2.2.2),(s.2.2.2,x.2.2)))
  (fun x s=>by simp only[B,mC,mB,mS,mO,mN];kernel_rfl)
end Xev
namespace Xbx
def pts:List PT:=[.op (.cd Xj),.cs (.sl .bool)]
def FS:FS:=Ybr [.mu,.sh] pts (fun x=>Xbx x.1 x.2.1) fun t=>⟨[.cs I64 t.1,.cs I64 t.2.1,.cs I64 t.2.2.1],[.op (.cd Xj t.2.2.2)]⟩
theorem ok:Yb5 PR 197 FS:=
 Yxj Xf Xg Proofs.Tryz.f197 h0 (.R (.R (.R (.R (.two (.R (.one (.fr 0))) (.L (.R (.one (.fr 1))))))))) (G:=G) Gok (L:=mkL [(0,Xem.fr),(2,Xcj.fr),(1,Xev.fr)]) (l:=[(0,.loop Xem.c),(1,.loop Xev.c)]) ⟨Lam.cons Xem.ok,Lam.skip rfl (Lam.skip rfl (Lam.cons Xev.ok)),trivial⟩
  (fun x=>by simp only[Xbx,mC,mB,mS,mO,mN];kernel_rfl)
end Xbx
def Xc4.B (v2:Int) (v4:Nat) (v:Fs_) (v5:Int) (v6:List Int):Option ((Int×List Int)⊕(List Int)):=
 (some ((v.1.getD v4 Xa).2.2.2.1.length:Int)).bind fun v7=>cond (decide (v5<v7)) (cond (inB v5 ((v.1.getD v4 Xa).2.2.2.1.length)) ((some ((v.1.getD v4 Xa).2.2.2.1.getD v5.toNat 0)).bind fun v8=>(some (w64 ((v.1.getD v4 Xa).2.2.1-(w64 (v5*8))))).bind fun v9=>(Xf2 8 v9).bind fun v10=>cond (inB v8 v6.length) (some (.inl (w64 (v5+1),v6.set v8.toNat v10))) none) none) (some (.inr v6))
def Xc4 (v2:Int) (v4:Nat) (v:Fs_):(Int×List Int)→Option (List Int):=
 Y9 fun s=>Xc4.B v2 v4 v s.1 s.2
def Xd6.B (v:Fs_) (v2:Int) (v3:List Int):Option ((Int×List Int)⊕(List Int)):=
 cond (decide (v2<(v.1.length:Int))) (cond (inB v2 v.1.length) ((Xc4 v2 v2.toNat v (0,v3)).bind fun v11=>some (.inl (w64 (v2+1),v11))) none) (some (.inr v3))
def Xd6 (v:Fs_):(Int×List Int)→Option (List Int):=
 Y9 fun s=>Xd6.B v s.1 s.2
def Xbk.B (v17:Int) (v14:Int) (v12:List Int) (v18:Fs_):Option (Fs_⊕Fs_):=
 cond (inB v14 v18.2.1.length) (cond (inB v14 v12.length) ((some (decide (((v18.2.1.getD v14.toNat []).length:Int)<(v12.getD v14.toNat 0)))).bind fun v19=>cond v19 (cond (inB v14 v18.2.1.length) (cond (decide (((v18.2.1.getD v14.toNat [])++([0])).length≤2147483648)) (cond (inB v14 v18.2.1.length) (cond (Nat.beq v14.toNat v14.toNat&&true) ((some (v18.2.1.set v14.toNat ((v18.2.1.getD v14.toNat [])++([0])))).bind fun v20=>some (.inl (v18.1,v20,v18.2.2))) none) none) none) none) (some (.inr v18))) none) none
def Xbk (v17:Int) (v14:Int) (v12:List Int):Fs_→Option Fs_:=
 Y9 fun s=>Xbk.B v17 v14 v12 s
def Xee.B (v12:List Int) (v13:Int) (v14:Int) (v15:Fs_):Option ((Int×Int×Fs_)⊕(Int×Fs_)):=
 cond (decide (v14<(v15.2.1.length:Int))) (cond (inB v14 v15.2.1.length) (cond (inB v14 v12.length) ((some (((v15.2.1.getD v14.toNat []).length:Int) != (v12.getD v14.toNat 0))).bind fun v16=>cond v16 ((Xbk (w64 (v13+1)) v14 v12 v15).bind fun v21=>cond (inB v14 v21.2.1.length) (cond (inB v14 v12.length) (cond (decide ((0:Int)≤(v12.getD v14.toNat 0))&&decide ((v12.getD v14.toNat 0)≤((v21.2.1.getD v14.toNat []).length:Int))) (cond (inB v14 v21.2.1.length) (cond (Nat.beq v14.toNat v14.toNat&&true) ((some (((v21.2.1.getD v14.toNat []).drop 0).take (((v12.getD v14.toNat 0).toNat)-0))).bind fun v22=>some (.inl (w64 (v13+1),w64 (v14+1),(v21.1,v21.2.1.set v14.toNat v22,v21.2.2)))) none) none) none) none) none) ((Xbk v13 v14 v12 v15).bind fun v23=>cond (inB v14 v23.2.1.length) (cond (inB v14 v12.length) (cond (decide ((0:Int)≤(v12.getD v14.toNat 0))&&decide ((v12.getD v14.toNat 0)≤((v23.2.1.getD v14.toNat []).length:Int))) (cond (inB v14 v23.2.1.length) (cond (Nat.beq v14.toNat v14.toNat&&true) ((some (((v23.2.1.getD v14.toNat []).drop 0).take (((v12.getD v14.toNat 0).toNat)-0))).bind fun v24=>some (.inl (v13,w64 (v14+1),(v23.1,v23.2.1.set v14.toNat v24,v23.2.2)))) none) none) none) none) none)) none) none) (some (.inr (v13,v15)))
def Xee (v12:List Int):(Int×Int×Fs_)→Option (Int×Fs_):=
 Y9 fun s=>Xee.B v12 s.1 s.2.1 s.2.2
def Xbg (v:Fs_):Option (Int×Fs_):=
 cond (decide ((0:Int)≤(20:Int))&&(decide ((20:Int)≤(20:Int))&&decide ((20:Int)≤2147483648))) ((Xd6 v (0,List.replicate (20:Int).toNat 0)).bind fun v12=>(Xee v12 (0,0,v)).bind fun v25=>some (v25.1,v25.2)) none
namespace Xbg
def G:Gam:=mkG [(174,Xf2.FS)]
theorem Gok:GOk PR G:=.cons Xf2.ok .nil
end Xbg
namespace Xc4
def c:=Yaq (Yah Proofs.Tryz.f198) [1,1,0,1,0,0,1,0,0,1,1,0,0]
def sp:SP:=⟨[(0,.loc 0 []),(3,.seg 3 []),(4,.cs I64),(5,.loc 0 [.f1,.el]),(6,.cs I64)],[(0,.mem,.cd Xj),(3,.reg,.cd SI)]⟩
def fr:=Yi4 sp (fun x s=>Xc4.B x.1.2.2.1 x.1.2.2.2.1.1 x.2.1 s.1 s.2) (fun x=>(x.1.2.2.2.2.1,x.2.2.1)) fun x (bb0:List Int) _ kk0=>kk0 (.ex 2) ⟨[(0,.loc 0 []),(3,.seg 3 []),(4,.cs I64 x.1.2.2.1)],[(0,some ⟨.mem,.cd Xj x.2.1⟩),sr 3 (.cd SI bb0)]⟩
theorem ok:Ya4 PR 122 1 (.loop c) fr:=
 Yxk Xf Xg h0 (G:=Xbg.G) Xbg.Gok [(2,([0,3,4],[0,3]))] (fun x s=>((x.1.1,x.1.2.1,x.1.2.2.1,x.1.2.2.2.1,s.1,x.1.2.2.2.2.2),(x.2.1,s.2,x.2.2.2)))
  (fun x s=>by simp only[B,mC,mB,mS,mO,mN];kernel_rfl)
end Xc4
namespace Xd6
def c:=Yaq (Yah Proofs.Tryz.f198) [1,1,0,1,0,0]
def sp:SP:=⟨[(0,.loc 0 []),(3,.seg 3 []),(4,.cs I64)],[(0,.mem,.cd Xj),(3,.reg,.cd SI)]⟩
def fr:=Yi4 sp (fun x s=>Xd6.B x.2.1 s.1 s.2) (fun x=>(x.1.2.2.1,x.2.2.1)) fun x (bb0:List Int) _ kk0=>kk0 (.ex 0) ⟨[(0,.loc 0 []),(3,.seg 3 [])],[(0,some ⟨.mem,.cd Xj x.2.1⟩),sr 3 (.cd SI bb0)]⟩
theorem ok:Ya4 PR 122 1 (.loop c) fr:=
 Yxp Xf Xg h0 (.R (.L (.one (.R (.R (.one (.fr 1))))))) (G:=Xbg.G) Xbg.Gok (L:=mkL [(1,Xc4.fr)]) (l:=[(1,.loop Xc4.c)]) ⟨Lam.cons Xc4.ok,trivial⟩ [(0,([0,3],[0,3]))] (fun x s=>((x.1.1,x.1.2.1,s.1,x.1.2.2.2),(x.2.1,s.2,x.2.2.2)))
  (fun x s=>by simp only[B,mC,mB,mS,mO,mN];kernel_rfl)
end Xd6
namespace Xbk
def c:=Yaq (Yah Proofs.Tryz.f198) [1,1,1,1,0,1,0,0,1,0,0,1,0,0,0]
def sp:SP:=⟨[(0,.loc 0 []),(3,.seg 3 []),(7,.cs I64),(8,.cs I64)],[(0,.mem,.cd Xj),(3,.reg,.cd SI)]⟩
def fr:=Yi4 sp (fun x s=>Xbk.B x.1.2.2.1 x.1.2.2.2.1 x.2.2.1 s) (fun x=>x.2.1) fun x (bb0:Fs_) _ kk0=>kk0 (.ex 6) ⟨[(0,.loc 0 []),(3,.seg 3 []),(7,.cs I64 x.1.2.2.1),(8,.cs I64 x.1.2.2.2.1)],[(0,some ⟨.mem,.cd Xj bb0⟩),sr 3 (.cd SI x.2.2.1)]⟩
theorem ok:Ya4 PR 122 1 (.loop c) fr:=
 Yxk Xf Xg h0 (G:=Xbg.G) Xbg.Gok [(6,([0,3,7,8],[0,3]))] (fun x s=>(x.1,(s,x.2.2)))
  (fun x s=>by simp only[B,mC,mB,mS,mO,mN];kernel_rfl)
end Xbk
namespace Xee
def c:=Yaq (Yah Proofs.Tryz.f198) [1,1,1,1,0,1,0,0]
def sp:SP:=⟨[(0,.loc 0 []),(3,.seg 3 []),(7,.cs I64),(8,.cs I64)],[(0,.mem,.cd Xj),(3,.reg,.cd SI)]⟩
def fr:=Yi4 sp (fun x s=>Xee.B x.2.2.1 s.1 s.2.1 s.2.2) (fun x=>(x.1.2.2.1,x.1.2.2.2.1,x.2.1)) fun x (bb0:Int×Fs_) _ kk0=>kk0 (.ex 4) ⟨[(7,.cs I64 bb0.1)],[(0,some ⟨.mem,.cd Xj bb0.2⟩)]⟩
theorem ok:Ya4 PR 122 1 (.loop c) fr:=
 Yxp Xf Xg h0 (.R (.L (.one (.R (.L (.one (.fr 3))))))) (G:=Xbg.G) Xbg.Gok (L:=mkL [(3,Xbk.fr)]) (l:=[(3,.loop Xbk.c)]) ⟨Lam.cons Xbk.ok,trivial⟩ [(4,([7],[0]))] (fun x s=>((x.1.1,x.1.2.1,s.1,s.2.1,x.1.2.2.2.2),(s.2.2,x.2.2)))
  (fun x s=>by simp only[B,mC,mB,mS,mO,mN];kernel_rfl)
end Xee
namespace Xbg
def pts:List PT:=[.op (.cd Xj)]
def FS:FS:=Ybr [.mu] pts (fun x=>Xbg x.1) fun t=>⟨[.cs I64 t.1],[.op (.cd Xj t.2)]⟩
theorem ok:Yb5 PR 198 FS:=
 Yxj Xf Xg Proofs.Tryz.f198 h0 (.R (.R (.two (.R (.one (.fr 0))) (.R (.L (.R (.one (.fr 2)))))))) (G:=G) Gok (L:=mkL [(1,Xc4.fr),(0,Xd6.fr),(3,Xbk.fr),(2,Xee.fr)]) (l:=[(0,.loop Xd6.c),(2,.loop Xee.c)]) ⟨Lam.skip rfl (Lam.cons Xd6.ok),Lam.skip rfl (Lam.skip rfl (Lam.skip rfl (Lam.cons Xee.ok))),trivial⟩
  (fun x=>by simp only[Xbg,mC,mB,mS,mO,mN];kernel_rfl)
end Xbg
def Xg0 (v:Fs_):Option (Fs_×List Int):=
 (Xcv v).bind fun v2=>(Xbx (v2.1.1,v2.1.2.1,v2.1.2.2) v2.2.1).bind fun v3=>(Xbg v3.2.2.2).bind fun v4=>some ((v4.2.1,v4.2.2.1,v4.2.2.2),[v2.2.2,v3.1,v3.2.1,v3.2.2.1,v4.1])
namespace Xg0
def G:Gam:=mkG [(196,Xcv.FS),(197,Xbx.FS),(198,Xbg.FS)]
def pts:List PT:=[.pt Xj]
def FS:FS:=Ybr [.sh] pts (fun x=>Xg0 x.1) fun t=>⟨[.cd Xj t.1,.cd SI t.2],[]⟩
theorem ok:Yb5 PR 133 FS:=
 Yxj Xf Xg Proofs.Tryz.f133 h0 .no (G:=G) (show GOk PR G from .cons Xcv.ok (.cons Xbx.ok (.cons Xbg.ok .nil))) (L:=mkL []) (l:=[]) hT
  (fun x=>by simp only[Xg0,mC,mB,mS,mO,mN];kernel_rfl)
end Xg0
def Xjz (v:Fs_):Option Xo:=
 (Xgu v).bind fun v2=>cond (v2 != 0) (some (v2,[],())) ((Xg0 v).bind fun v3=>some (0,v3.2,()))
namespace Xjz
def G:Gam:=mkG [(132,Xgu.FS),(133,Xg0.FS)]
def pts:List PT:=[.cs Xj]
def FS:FS:=Ybr [.sh] pts (fun x=>Xjz x.1) fun t=>⟨[.cd Xl t],[]⟩
theorem ok:Yb5 PR 68 FS:=
 Yxj Xf Xg Proofs.Tryz.f68 ⟨[1],[],[],0⟩ .no (G:=G) (show GOk PR G from .cons Xgu.ok (.cons Xg0.ok .nil)) (L:=mkL []) (l:=[]) hT
  (fun x=>by simp only[Xjz,mC,mB,mS,mO,mN];kernel_rfl)
end Xjz
def Xg1 (v:Xd):Option Xo:=
 (Xii v).bind fun v2=>cond (v2.1 != 0) (some (v2.1,[],())) ((Xjz (v2.2.2.1.2.1.1,v2.2.2.1.2.1.2.1,v2.2.2.1.2.1.2.2)).bind fun v3=>some (v3.1,v3.2.1,v3.2.2))
namespace Xg1
def G:Gam:=mkG [(67,Xii.FS),(68,Xjz.FS)]
def pts:List PT:=[.cs Xh]
def FS:FS:=Ybr [.sh] pts (fun x=>Xg1 x.1) fun t=>⟨[.cd Xl t],[]⟩
theorem ok:Yb5 PR 20 FS:=
 Yxj Xf Xg Proofs.Tryz.f20 ⟨[1],[],[],0⟩ .no (G:=G) (show GOk PR G from .cons Xii.ok (.cons Xjz.ok .nil)) (L:=mkL []) (l:=[]) hT
  (fun x=>by simp only[Xg1,mC,mB,mS,mO,mN];kernel_rfl)
end Xg1
def X3 (v:Int) (v2:Int) (v3:Int):Option Bool:=
 some (cond (decide (v≥v2)) (decide (v≤v3)) false)
namespace X3
def pts:List PT:=[.cs I64,.cs I64,.cs I64]
def FS:FS:=Ybr [.sh,.sh,.sh] pts (fun x=>X3 x.1 x.2.1 x.2.2.1) fun t=>⟨[.cs .bool t],[]⟩
theorem ok:Yb5 PR 150 FS:=
 Yxj Xf Xg Proofs.Tryz.f150 h0 .no (G:=(mkG [])) .nil (L:=mkL []) (l:=[]) hT
  (fun x=>by simp only[X3,mC,mB,mS,mO,mN];kernel_rfl)
end X3
def Xj9 (v:Int):Option Bool:=
 (X3 v 0 65535).bind fun v2=>some (!v2)
namespace Xj9
def G:Gam:=mkG [(150,X3.FS)]
def pts:List PT:=[.cs I64]
def FS:FS:=Ybr [.sh] pts (fun x=>Xj9 x.1) fun t=>⟨[.cs .bool t],[]⟩
theorem ok:Yb5 PR 222 FS:=
 Yxj Xf Xg Proofs.Tryz.f222 h0 .no (G:=G) (show GOk PR G from .cons X3.ok .nil) (L:=mkL []) (l:=[]) hT
  (fun x=>by simp only[Xj9,mC,mB,mS,mO,mN];kernel_rfl)
end Xj9
def Xel.B (v:List Int) (v2:Unit) (v3:Int) (v4:Int):Option (Int⊕((Int⊕Unit))):=
 cond (decide (v4<v3)) (cond (inB v4 v.length) ((Xj9 (v.getD v4.toNat 0)).bind fun v5=>cond v5 (some (.inr (.inl v4))) (some (.inl (w64 (v4+1))))) none) (some (.inr (.inr ())))
def Xel (v:List Int) (v2:Unit) (v3:Int):Int→Option ((Int⊕Unit)):=
 Y9 fun s=>Xel.B v v2 v3 s
def Xfg (v:List Int) (v2:Unit):Option Int:=
 (Xel v v2 (v.length:Int) 0).bind fun v6=>sel v6 (fun v7=>some v7) (fun v8=>some (-1))
namespace Xfg
def G:Gam:=mkG [(222,Xj9.FS)]
theorem Gok:GOk PR G:=.cons Xj9.ok .nil
end Xfg
namespace Xel
def c:=Yaq (Yah Proofs.Tryz.f233) [1,0,1,0,0]
def sp:SP:=⟨[(0,.cs SI),(1,.clo 222 (.cs .unit)),(7,.cs I64),(8,.cs I64)],[]⟩
def fr:=Yi4 sp (fun x s=>Xel.B x.1.1 x.1.2.1 x.1.2.2.1 s) (fun x=>x.1.2.2.2.1) fun x (oo0:(Int⊕Unit)) _ kk0=>sel oo0 (fun bb0=>kk0 (.rt) ⟨[(4,.cs I64 bb0)],[]⟩) (fun cc0=>kk0 (.ex 0) ⟨[],[]⟩)
theorem ok:Ya4 PR 19 2 (.loop c) fr:=
 Ytd Xf Xg h0 .no (G:=Xfg.G) Xfg.Gok (L:=mkL []) (l:=[]) hT [(0,([],[]))] ([4],[]) (fun x s=>((x.1.1,x.1.2.1,x.1.2.2.1,s,x.1.2.2.2.2),x.2))
  (fun x s=>by simp only[B,mC,mB,mS,mO,mN];kernel_rfl)
end Xel
namespace Xfg
def pts:List PT:=[.cs SI,.clo 222 (.cs .unit)]
def FS:FS:=Ybr [.sh,.sh] pts (fun x=>Xfg x.1 x.2.1) fun t=>⟨[.cs I64 t],[]⟩
theorem ok:Yb5 PR 233 FS:=
 Yxj Xf Xg Proofs.Tryz.f233 h0 (.R (.L (.R (.one (.fr 0))))) (G:=G) Gok (L:=mkL [(0,Xel.fr)]) (l:=[(0,.loop Xel.c)]) ⟨Lam.cons Xel.ok,trivial⟩
  (fun x=>by simp only[Xfg,mC,mB,mS,mO,mN];kernel_rfl)
end Xfg
def Xju (v:List Int) (v2:Unit):Option Bool:=
 (Xfg v v2).bind fun v3=>some (decide (v3≥0))
namespace Xju
def G:Gam:=mkG [(233,Xfg.FS)]
def pts:List PT:=[.cs SI,.clo 222 (.cs .unit)]
def FS:FS:=Ybr [.sh,.sh] pts (fun x=>Xju x.1 x.2.1) fun t=>⟨[.cs .bool t],[]⟩
theorem ok:Yb5 PR 201 FS:=
 Yxj Xf Xg Proofs.Tryz.f201 h0 .no (G:=G) (show GOk PR G from .cons Xfg.ok .nil) (L:=mkL []) (l:=[]) hT
  (fun x=>by simp only[Xju,mC,mB,mS,mO,mN];kernel_rfl)
end Xju
def Xec (v:List Int):Option Int:=
 cond (decide ((v.length:Int)>64)) (some 2) ((Xju v ()).bind fun v2=>cond v2 (some 3) (some 0))
namespace Xec
def G:Gam:=mkG [(201,Xju.FS)]
def pts:List PT:=[.cs SI]
def FS:FS:=Ybr [.sh] pts (fun x=>Xec x.1) fun t=>⟨[.cs I64 t],[]⟩
theorem ok:Yb5 PR 178 FS:=
 Yxj Xf Xg Proofs.Tryz.f178 h0 .no (G:=G) (show GOk PR G from .cons Xju.ok .nil) (L:=mkL []) (l:=[]) hT
  (fun x=>by simp only[Xec,mC,mB,mS,mO,mN];kernel_rfl)
end Xec
def Xjr (v:List (List Int)):Option Int:=
 some (v.length:Int)
namespace Xjr
def pts:List PT:=[.cs (.sl SI)]
def FS:FS:=Ybr [.sh] pts (fun x=>Xjr x.1) fun t=>⟨[.cs I64 t],[]⟩
theorem ok:Yb5 PR 179 FS:=
 Yxj Xf Xg Proofs.Tryz.f179 h0 .no (G:=(mkG [])) .nil (L:=mkL []) (l:=[]) hT
  (fun x=>by simp only[Xjr,mC,mB,mS,mO,mN];kernel_rfl)
end Xjr
def Xfu.B (v:Xd) (v3:List (List Int)) (v4:Int) (v5:Int):Option (Int⊕((Int⊕Unit))):=
 cond (decide (v5<v4)) (cond (inB v5 v3.length) ((Xec (v3.getD v5.toNat [])).bind fun v6=>cond (v6 != 0) (some (.inr (.inl v6))) (some (.inl (w64 (v5+1))))) none) (some (.inr (.inr ())))
def Xfu (v:Xd) (v3:List (List Int)) (v4:Int):Int→Option ((Int⊕Unit)):=
 Y9 fun s=>Xfu.B v v3 v4 s
def Xft.B (v:Xd) (v10:List Xo) (v11:Int) (v12:Int):Option (Int⊕((Int⊕Unit))):=
 cond (decide (v12<v11)) (cond (inB v12 v10.length) ((Xjr v.1).bind fun v13=>(X3 (v10.getD v12.toNat Xab).1 0 (w64 (v13-1))).bind fun v14=>cond (!v14) (some (.inr (.inl 3))) ((Xec (v10.getD v12.toNat Xab).2.1).bind fun v15=>cond (v15 != 0) (some (.inr (.inl v15))) (some (.inl (w64 (v12+1)))))) none) (some (.inr (.inr ())))
def Xft (v:Xd) (v10:List Xo) (v11:Int):Int→Option ((Int⊕Unit)):=
 Y9 fun s=>Xft.B v v10 v11 s
def Xck (v:Xd):Option Int:=
 (some (cond (decide ((v.1.length:Int)>60)) true (decide ((v.2.1.length:Int)>200)))).bind fun v2=>cond v2 (some 2) ((Xfu v v.1 (v.1.length:Int) 0).bind fun v7=>sel v7 (fun v8=>some v8) (fun v9=>(Xft v v.2.1 (v.2.1.length:Int) 0).bind fun v16=>sel v16 (fun v17=>some v17) (fun v18=>some 0)))
namespace Xck
def G:Gam:=mkG [(178,Xec.FS),(179,Xjr.FS),(150,X3.FS)]
theorem Gok:GOk PR G:=.cons Xec.ok (.cons Xjr.ok (.cons X3.ok .nil))
end Xck
namespace Xfu
def c:=Yaq (Yah Proofs.Tryz.f109) [1,1,0,1,0,0]
def sp:SP:=⟨[(1,.pt Xh),(20,.cs (.sl SI)),(21,.cs I64),(22,.cs I64)],[]⟩
def fr:=Yi4 sp (fun x s=>Xfu.B x.1.1 x.1.2.1 x.1.2.2.1 s) (fun x=>x.1.2.2.2.1) fun x (oo0:(Int⊕Unit)) _ kk0=>sel oo0 (fun bb0=>kk0 (.rt) ⟨[(2,.cs I64 bb0)],[]⟩) (fun cc0=>kk0 (.ex 0) ⟨[(1,.pt Xh x.1.1)],[]⟩)
theorem ok:Ya4 PR 54 1 (.loop c) fr:=
 Ytd Xf Xg ⟨[1],[],[],0⟩ .no (G:=Xck.G) Xck.Gok (L:=mkL []) (l:=[]) hT [(0,([1],[]))] ([2],[]) (fun x s=>((x.1.1,x.1.2.1,x.1.2.2.1,s,x.1.2.2.2.2),x.2))
  (fun x s=>by simp only[B,mC,mB,mS,mO,mN];kernel_rfl)
end Xfu
namespace Xft
def c:=Yaq (Yah Proofs.Tryz.f109) [1,1,1,0,1,0,0]
def sp:SP:=⟨[(1,.pt Xh),(33,.cs (.sl Xl)),(34,.cs I64),(35,.cs I64)],[]⟩
def fr:=Yi4 sp (fun x s=>Xft.B x.1.1 x.1.2.1 x.1.2.2.1 s) (fun x=>x.1.2.2.2.1) fun x (oo0:(Int⊕Unit)) _ kk0=>sel oo0 (fun bb0=>kk0 (.rt) ⟨[(2,.cs I64 bb0)],[]⟩) (fun cc0=>kk0 (.ex 2) ⟨[],[]⟩)
theorem ok:Ya4 PR 54 1 (.loop c) fr:=
 Ytd Xf Xg ⟨[1],[],[],0⟩ .no (G:=Xck.G) Xck.Gok (L:=mkL []) (l:=[]) hT [(2,([],[]))] ([2],[]) (fun x s=>((x.1.1,x.1.2.1,x.1.2.2.1,s,x.1.2.2.2.2),x.2))
  (fun x s=>by simp only[B,mC,mB,mS,mO,mN];kernel_rfl)
end Xft
namespace Xck
def pts:List PT:=[.cs Xh]
def FS:FS:=Ybr [.sh] pts (fun x=>Xck x.1) fun t=>⟨[.cs I64 t],[]⟩
theorem ok:Yb5 PR 109 FS:=
 Yxj Xf Xg Proofs.Tryz.f109 ⟨[1],[],[],0⟩ (.R (.R (.two (.R (.one (.fr 0))) (.L (.R (.one (.fr 1))))))) (G:=G) Gok (L:=mkL [(0,Xfu.fr),(1,Xft.fr)]) (l:=[(0,.loop Xfu.c),(1,.loop Xft.c)]) ⟨Lam.cons Xfu.ok,Lam.skip rfl (Lam.cons Xft.ok),trivial⟩
  (fun x=>by simp only[Xck,mC,mB,mS,mO,mN];kernel_rfl)
end Xck
noncomputable def Xb8 (d:Xd) (at_:Int):Option (List Int):=Yli d at_
def Xb8.FS:FS:=Ybr [.sh,.sh] [.pt Yq,.cl .sh (.int .i64)] (fun x=>Yli x.1 x.2.1) fun y=>⟨[.cl .sh (.sl (.int .i64)) y],[]⟩
theorem Xb8.ok:Yb5 Go.Proofs.Tryz.prog 110 Xb8.FS:=
 Yv9 ⟨Go.Proofs.Tryz.f110,by kernel_rfl,by kernel_rfl,by kernel_rfl⟩ (fun bd od at_ A C nB cB nC cC hd w v h1 h2 h3 h4 h5 h6=>callsIn_wide.1 (Go.Proofs.Bk.block_in Fence.wide 3 trivial trivial trivial rfl (by omega) bd od at_ A C nB cB nC cC hd w v h1 h2 h3 h4 h5 h6))
def Xj2 (v:Int):Option Bool:=
 (X3 v 1 60000).bind fun v2=>some v2
namespace Xj2
def G:Gam:=mkG [(150,X3.FS)]
def pts:List PT:=[.cs I64]
def FS:FS:=Ybr [.sh] pts (fun x=>Xj2 x.1) fun t=>⟨[.cs .bool t],[]⟩
theorem ok:Yb5 PR 111 FS:=
 Yxj Xf Xg Proofs.Tryz.f111 h0 .no (G:=G) (show GOk PR G from .cons X3.ok .nil) (L:=mkL []) (l:=[]) hT
  (fun x=>by simp only[Xj2,mC,mB,mS,mO,mN];kernel_rfl)
end Xj2
def Xig (v:Xd):Option (Int×Int):=
 (Xck v).bind fun v2=>cond (v2 != 0) (some (0,v2)) (cond ((v.1.length:Int) != 47) (some (0,1)) ((Xb8 v 0).bind fun v3=>cond (cond (!((v3.length:Int) != 2)) (inB 0 v3.length) true) ((some (cond ((v3.length:Int) != 2) true ((v3.getD (0:Int).toNat 0) != 7))).bind fun v4=>cond v4 (some (0,5)) (cond (inB 1 v3.length) ((Xj2 (v3.getD (1:Int).toNat 0)).bind fun v5=>cond (!v5) (some (0,5)) (cond (inB 1 v3.length) (some (v3.getD (1:Int).toNat 0,0)) none)) none)) none))
namespace Xig
def G:Gam:=mkG [(109,Xck.FS),(110,Xb8.FS),(111,Xj2.FS)]
def pts:List PT:=[.cs Xh]
def FS:FS:=Ybr [.sh] pts (fun x=>Xig x.1) fun t=>⟨[.cs I64 t.1,.cs I64 t.2],[]⟩
theorem ok:Yb5 PR 53 FS:=
 Yxj Xf Xg Proofs.Tryz.f53 ⟨[1],[],[],0⟩ .no (G:=G) (show GOk PR G from .cons Xck.ok (.cons Xb8.ok (.cons Xj2.ok .nil))) (L:=mkL []) (l:=[]) hT
  (fun x=>by simp only[Xig,mC,mB,mS,mO,mN];kernel_rfl)
end Xig
def Xap (v:List Int):Option Int:=
 some (v.length:Int)
namespace Xap
def pts:List PT:=[.cs SI]
def FS:FS:=Ybr [.sh] pts (fun x=>Xap x.1) fun t=>⟨[.cs I64 t],[]⟩
theorem ok:Yb5 PR 138 FS:=
 Yxj Xf Xg Proofs.Tryz.f138 h0 .no (G:=(mkG [])) .nil (L:=mkL []) (l:=[]) hT
  (fun x=>by simp only[Xap,mC,mB,mS,mO,mN];kernel_rfl)
end Xap
def Xj3 (v:Int):Option Bool:=
 (X3 v 17 26).bind fun v2=>some (!v2)
namespace Xj3
def G:Gam:=mkG [(150,X3.FS)]
def pts:List PT:=[.cs I64]
def FS:FS:=Ybr [.sh] pts (fun x=>Xj3 x.1) fun t=>⟨[.cs .bool t],[]⟩
theorem ok:Yb5 PR 230 FS:=
 Yxj Xf Xg Proofs.Tryz.f230 h0 .no (G:=G) (show GOk PR G from .cons X3.ok .nil) (L:=mkL []) (l:=[]) hT
  (fun x=>by simp only[Xj3,mC,mB,mS,mO,mN];kernel_rfl)
end Xj3
def Xc9.B (v:List Int) (v2:Unit) (v3:Int) (v4:Int):Option (Int⊕((Int⊕Unit))):=
 cond (decide (v4<v3)) (cond (inB v4 v.length) ((Xj3 (v.getD v4.toNat 0)).bind fun v5=>cond v5 (some (.inr (.inl v4))) (some (.inl (w64 (v4+1))))) none) (some (.inr (.inr ())))
def Xc9 (v:List Int) (v2:Unit) (v3:Int):Int→Option ((Int⊕Unit)):=
 Y9 fun s=>Xc9.B v v2 v3 s
def Xfq (v:List Int) (v2:Unit):Option Int:=
 (Xc9 v v2 (v.length:Int) 0).bind fun v6=>sel v6 (fun v7=>some v7) (fun v8=>some (-1))
namespace Xfq
def G:Gam:=mkG [(230,Xj3.FS)]
theorem Gok:GOk PR G:=.cons Xj3.ok .nil
end Xfq
namespace Xc9
def c:=Yaq (Yah Proofs.Tryz.f233) [1,0,1,0,0]
def sp:SP:=⟨[(0,.cs SI),(1,.clo 230 (.cs .unit)),(7,.cs I64),(8,.cs I64)],[]⟩
def fr:=Yi4 sp (fun x s=>Xc9.B x.1.1 x.1.2.1 x.1.2.2.1 s) (fun x=>x.1.2.2.2.1) fun x (oo0:(Int⊕Unit)) _ kk0=>sel oo0 (fun bb0=>kk0 (.rt) ⟨[(4,.cs I64 bb0)],[]⟩) (fun cc0=>kk0 (.ex 0) ⟨[],[]⟩)
theorem ok:Ya4 PR 19 2 (.loop c) fr:=
 Ytd Xf Xg h0 .no (G:=Xfq.G) Xfq.Gok (L:=mkL []) (l:=[]) hT [(0,([],[]))] ([4],[]) (fun x s=>((x.1.1,x.1.2.1,x.1.2.2.1,s,x.1.2.2.2.2),x.2))
  (fun x s=>by simp only[B,mC,mB,mS,mO,mN];kernel_rfl)
end Xc9
namespace Xfq
def pts:List PT:=[.cs SI,.clo 230 (.cs .unit)]
def FS:FS:=Ybr [.sh,.sh] pts (fun x=>Xfq x.1 x.2.1) fun t=>⟨[.cs I64 t],[]⟩
theorem ok:Yb5 PR 233 FS:=
 Yxj Xf Xg Proofs.Tryz.f233 h0 (.R (.L (.R (.one (.fr 0))))) (G:=G) Gok (L:=mkL [(0,Xc9.fr)]) (l:=[(0,.loop Xc9.c)]) ⟨Lam.cons Xc9.ok,trivial⟩
  (fun x=>by simp only[Xfq,mC,mB,mS,mO,mN];kernel_rfl)
end Xfq
def Xie (v:List Int) (v2:Unit):Option Bool:=
 (Xfq v v2).bind fun v3=>some (decide (v3≥0))
namespace Xie
def G:Gam:=mkG [(233,Xfq.FS)]
def pts:List PT:=[.cs SI,.clo 230 (.cs .unit)]
def FS:FS:=Ybr [.sh,.sh] pts (fun x=>Xie x.1 x.2.1) fun t=>⟨[.cs .bool t],[]⟩
theorem ok:Yb5 PR 201 FS:=
 Yxj Xf Xg Proofs.Tryz.f201 h0 .no (G:=G) (show GOk PR G from .cons Xfq.ok .nil) (L:=mkL []) (l:=[]) hT
  (fun x=>by simp only[Xie,mC,mB,mS,mO,mN];kernel_rfl)
end Xie
def Xdv.B (v:List Int) (v2:List Int) (v3:Int) (v4:Int):Option (Int⊕((Bool⊕Unit))):=
 cond (decide (v4<v3)) (cond (inB v4 v.length) (cond (inB v4 v2.length) (cond ((v.getD v4.toNat 0) != (v2.getD v4.toNat 0)) (some (.inr (.inl false))) (some (.inl (w64 (v4+1))))) none) none) (some (.inr (.inr ())))
def Xdv (v:List Int) (v2:List Int) (v3:Int):Int→Option ((Bool⊕Unit)):=
 Y9 fun s=>Xdv.B v v2 v3 s
def Xfh (v:List Int) (v2:List Int):Option Bool:=
 cond ((v.length:Int) != (v2.length:Int)) (some false) ((Xdv v v2 (v.length:Int) 0).bind fun v5=>sel v5 (fun v6=>some v6) (fun v7=>some true))
namespace Xdv
def c:=Yaq (Yah Proofs.Tryz.f187) [1,1,0,1,0,0]
def sp:SP:=⟨[(0,.cs SI),(1,.cs SI),(12,.cs I64),(13,.cs I64)],[]⟩
def fr:=Yi4 sp (fun x s=>Xdv.B x.1.1 x.1.2.1 x.1.2.2.1 s) (fun x=>x.1.2.2.2.1) fun x (oo0:(Bool⊕Unit)) _ kk0=>sel oo0 (fun bb0=>kk0 (.rt) ⟨[(4,.cs .bool bb0)],[]⟩) (fun cc0=>kk0 (.ex 0) ⟨[],[]⟩)
theorem ok:Ya4 PR 26 2 (.loop c) fr:=
 Ytd Xf Xg h0 .no (G:=(mkG [])) .nil (L:=mkL []) (l:=[]) hT [(0,([],[]))] ([4],[]) (fun x s=>((x.1.1,x.1.2.1,x.1.2.2.1,s,x.1.2.2.2.2),x.2))
  (fun x s=>by simp only[B,mC,mB,mS,mO,mN];kernel_rfl)
end Xdv
namespace Xfh
def pts:List PT:=[.cs SI,.cs SI]
def FS:FS:=Ybr [.sh,.sh] pts (fun x=>Xfh x.1 x.2.1) fun t=>⟨[.cs .bool t],[]⟩
theorem ok:Yb5 PR 187 FS:=
 Yxj Xf Xg Proofs.Tryz.f187 h0 (.R (.R (.L (.R (.one (.fr 0)))))) (G:=(mkG [])) .nil (L:=mkL [(0,Xdv.fr)]) (l:=[(0,.loop Xdv.c)]) ⟨Lam.cons Xdv.ok,trivial⟩
  (fun x=>by simp only[Xfh,mC,mB,mS,mO,mN];kernel_rfl)
end Xfh
def Xc5.B (v:Xd) (v12:List Int) (v11:Int) (v13:Int) (v14:List Xo):Option ((Int×List Xo)⊕(List Xo)):=
 cond (decide (v13<v11)) (cond (inB v13 v12.length) ((Xb8 v (w64 ((2:Int)+v13))).bind fun v15=>cond (decide ((v14++([(v12.getD v13.toNat 0,v15,())])).length≤2147483648)) (some (.inl (w64 (v13+1),v14++([(v12.getD v13.toNat 0,v15,())])))) none) none) (some (.inr v14))
def Xc5 (v:Xd) (v12:List Int) (v11:Int):(Int×List Xo)→Option (List Xo):=
 Y9 fun s=>Xc5.B v v12 v11 s.1 s.2
def Xd9 (v:Xd) (v2:Int):Option ((List Xo)×Bool):=
 (Xb8 v 1).bind fun v3=>cond (cond (!(decide ((v3.length:Int)<3))) (inB 0 v3.length) true) ((some (cond (decide ((v3.length:Int)<3)) true ((v3.getD (0:Int).toNat 0) != 1))).bind fun v4=>cond (cond (!v4) (inB 1 v3.length) true) (cond (cond v4 true ((v3.getD (1:Int).toNat 0) != v2)) (some ([],false)) (cond (inB 2 v3.length) ((X3 (v3.getD (2:Int).toNat 0) 0 10).bind fun v5=>cond (!v5) (some ([],false)) ((Xap v3).bind fun v6=>cond (inB 2 v3.length) ((some (v6 != (w64 ((3:Int)+(v3.getD (2:Int).toNat 0))))).bind fun v7=>cond v7 (some ([],false)) (cond (inB 2 v3.length) (cond (decide ((0:Int)≤(3:Int))&&decide ((3:Int)≤(v3.length:Int))) ((Xie ((v3.take v3.length).drop ((3:Int).toNat)) ()).bind fun v8=>cond v8 (some ([],false)) ((Xb8 v (w64 ((2:Int)+(v3.getD (2:Int).toNat 0)))).bind fun v9=>(Xfh v9 ([2,v2,v3.getD (2:Int).toNat 0])).bind fun v10=>cond (!v10) (some ([],false)) (cond (decide ((0:Int)≤(3:Int))&&decide ((3:Int)≤(v3.length:Int))) ((some (((v3.take v3.length).drop ((3:Int).toNat)).length:Int)).bind fun v11=>(Xc5 v ((v3.take v3.length).drop ((3:Int).toNat)) v11 (0,[])).bind fun v16=>some (v16,true)) none))) none) none)) none)) none)) none) none
namespace Xd9
def G:Gam:=mkG [(110,Xb8.FS),(150,X3.FS),(138,Xap.FS),(201,Xie.FS),(187,Xfh.FS)]
theorem Gok:GOk PR G:=.cons Xb8.ok (.cons X3.ok (.cons Xap.ok (.cons Xie.ok (.cons Xfh.ok .nil))))
end Xd9
namespace Xc5
def c:=Yaq (Yah Proofs.Tryz.f199) [1,1,1,1,1,1,0,1,0,0]
def sp:SP:=⟨[(2,.pt Xh),(8,.seg 8 []),(61,.cs SI),(62,.cs I64),(63,.cs I64)],[(8,.reg,.cl .top (.sl Xl))]⟩
def fr:=Yi4 sp (fun x s=>Xc5.B x.1.1 x.1.2.2.1 x.1.2.2.2.1 s.1 s.2) (fun x=>(x.1.2.2.2.2.1,x.2.1)) fun x (bb0:List Xo) _ kk0=>kk0 (.ex 0) ⟨[(8,.seg 8 [])],[(8,some ⟨.reg,.cl .top (.sl Xl) bb0⟩)]⟩
theorem ok:Ya4 PR 78 2 (.loop c) fr:=
 Yxk Xf Xg ⟨[2],[8],[],1⟩ (G:=Xd9.G) Xd9.Gok [(0,([8],[8]))] (fun x s=>((x.1.1,x.1.2.1,x.1.2.2.1,x.1.2.2.2.1,s.1,x.1.2.2.2.2.2),(s.2,x.2.2)))
  (fun x s=>by simp only[B,mC,mB,mS,mO,mN];kernel_rfl)
end Xc5
namespace Xd9
def pts:List PT:=[.cs Xh,.cs I64]
def FS:FS:=Ybr [.sh,.sh] pts (fun x=>Xd9 x.1 x.2.1) fun t=>⟨[.cl .top (.sl Xl) t.1,.cs .bool t.2],[]⟩
theorem ok:Yb5 PR 199 FS:=
 Yxj Xf Xg Proofs.Tryz.f199 ⟨[2],[8],[],1⟩ (.R (.R (.R (.R (.R (.R (.L (.R (.one (.fr 0)))))))))) (G:=G) Gok (L:=mkL [(0,Xc5.fr)]) (l:=[(0,.loop Xc5.c)]) ⟨Lam.cons Xc5.ok,trivial⟩
  (fun x=>by simp only[Xd9,mC,mB,mS,mO,mN];kernel_rfl)
end Xd9
noncomputable def Xge (l:List Xo):Option (List Xu):=Yg3 l
noncomputable def Xge.FS:FS:=Ybr [.sh] [.cl .sh (.sl Ybb)] (fun x=>Yg3 x.1) fun y=>⟨[.cl .deep (.sl Yia) y],[]⟩
theorem Xge.okA:Yb5 Go.Proofs.Tryz.prog 215 (Ybr [.sh] [.cl .sh (.sl Ybb)] (fun x=>Yle x.1) fun y=>⟨[.cl .top (.sl Ybb) y],[]⟩):=
 Yvn (hn:=⟨[],[],[],1⟩) Xf Xg (fn:=Go.Proofs.Tryz.f215) (by kernel_rfl) (Ygr (by kernel_rfl)) (by kernel_rfl) (by kernel_rfl) .top Xl 36 36 148 (by kernel_rfl) (by kernel_rfl) (by kernel_rfl) (by kernel_rfl) (by kernel_rfl) (by kernel_rfl) (by kernel_rfl) (by kernel_rfl) (fun xs=>by kernel_rfl) (fun xs=>by kernel_rfl) (fun xs=>by kernel_rfl) (fun xs=>by kernel_rfl)
theorem Xge.okB:Yb5 Go.Proofs.Tryz.prog 118 (Ybr [.sh] [.cl .sh (.sl (.int .i64))] (fun x=>Yle x.1) fun y=>⟨[.cl .deep (.sl (.int .i64)) y],[]⟩):=
 Yvn (hn:=⟨[],[],[],0⟩) Xf Xg (fn:=Go.Proofs.Tryz.f118) (by kernel_rfl) (Ygr (by kernel_rfl)) (by kernel_rfl) (by kernel_rfl) .deep (.int .i64) 51 51 2 (by kernel_rfl) (by kernel_rfl) (by kernel_rfl) (by kernel_rfl) (by kernel_rfl) (by kernel_rfl) (by kernel_rfl) (by kernel_rfl) (fun xs=>by kernel_rfl) (fun xs=>by kernel_rfl) (fun xs=>by kernel_rfl) (fun xs=>by kernel_rfl)
theorem Xge.ok:Yb5 Go.Proofs.Tryz.prog 121 Xge.FS:=
 Yt9 ⟨Go.Proofs.Tryz.f121,by kernel_rfl,by kernel_rfl,by kernel_rfl⟩ (fun w A c l hr hl hls=>callsIn_wide.1 (Go.Proofs.Ps.putSteps_in Fence.wide 1 trivial trivial (Nat.le_refl _) rfl (fun m w A c l hr hl hls=>callsIn_wide.2 (callsIn_wide.1 (Go.Proofs.Cp.clonePuts_in Fence.wide 1 trivial trivial trivial (Nat.le_refl _) rfl (fun m w A c xs hr hl=>callsIn_wide.2 (Yub Xge.okA (by decide) Yws w A c xs hr hl)) (fun m w A c xs hr hl=>callsIn_wide.2 (Yub Xge.okB (by decide) Ywu w A c xs hr hl)) w A c l hr hl hls))) (by kernel_rfl) w A c l hr hl hls))
def Xj5 (v:Int):Option (List Int):=
 some ([7,v])
namespace Xj5
def pts:List PT:=[.cs I64]
def FS:FS:=Ybr [.sh] pts (fun x=>Xj5 x.1) fun t=>⟨[.cd SI t],[]⟩
theorem ok:Yb5 PR 119 FS:=
 Yxj Xf Xg Proofs.Tryz.f119 h0 .no (G:=(mkG [])) .nil (L:=mkL []) (l:=[]) hT
  (fun x=>by simp only[Xj5,mC,mB,mS,mO,mN];kernel_rfl)
end Xj5
def Xh7 (v:Xd) (v2:Int):Option (List Xu):=
 (Xd9 v v2).bind fun v3=>cond (cond (!v3.2) true (v2 == 60000)) (some []) ((Xge v3.1).bind fun v4=>(Xj5 (w64 (v2+1))).bind fun v5=>(some (v4++([(true,0,[],()),(false,0,v5,()),(true,0,[],())]))).bind fun v6=>cond (decide (v6.length≤2147483648)) (some v6) none)
namespace Xh7
def G:Gam:=mkG [(199,Xd9.FS),(121,Xge.FS),(119,Xj5.FS)]
def pts:List PT:=[.cs Xh,.cs I64]
def FS:FS:=Ybr [.sh,.sh] pts (fun x=>Xh7 x.1 x.2.1) fun t=>⟨[.cd (.sl Xam) t],[]⟩
theorem ok:Yb5 PR 134 FS:=
 Yxj Xf Xg Proofs.Tryz.f134 ⟨[2],[],[7],0⟩ .no (G:=G) (show GOk PR G from .cons Xd9.ok (.cons Xge.ok (.cons Xj5.ok .nil))) (L:=mkL []) (l:=[]) hT
  (fun x=>by simp only[Xh7,mC,mB,mS,mO,mN];kernel_rfl)
end Xh7
noncomputable def Xan (s:List Int):Option (List Int):=Yle s
noncomputable def Xan.FS:FS:=Ybr [.sh] [.cl .sh (.sl (.int .i64))] (fun x=>Xan x.1) fun y=>⟨[.cl .deep (.sl (.int .i64)) y],[]⟩
theorem Xan.ok:Yb5 Go.Proofs.Tryz.prog 118 Xan.FS:=
 Yvn (hn:=⟨[],[],[],0⟩) Xf Xg (fn:=Go.Proofs.Tryz.f118) (by kernel_rfl) (Ygr (by kernel_rfl)) (by kernel_rfl) (by kernel_rfl) .deep (.int .i64) 51 51 2 (by kernel_rfl) (by kernel_rfl) (by kernel_rfl) (by kernel_rfl) (by kernel_rfl) (by kernel_rfl) (by kernel_rfl) (by kernel_rfl) (fun xs=>by kernel_rfl) (fun xs=>by kernel_rfl) (fun xs=>by kernel_rfl) (fun xs=>by kernel_rfl)
noncomputable def Xgb (l:List Xo):Option (List Xo):=Yfj l
noncomputable def Xgb.FS:FS:=Ybr [.sh] [.cl .sh (.sl Ybb)] (fun x=>Yfj x.1) fun y=>⟨[.cl .deep (.sl Ybb) y],[]⟩
theorem Xgb.okA:Yb5 Go.Proofs.Tryz.prog 215 (Ybr [.sh] [.cl .sh (.sl Ybb)] (fun x=>Yle x.1) fun y=>⟨[.cl .top (.sl Ybb) y],[]⟩):=
 Yvn (hn:=⟨[],[],[],1⟩) Xf Xg (fn:=Go.Proofs.Tryz.f215) (by kernel_rfl) (Ygr (by kernel_rfl)) (by kernel_rfl) (by kernel_rfl) .top Xl 36 36 148 (by kernel_rfl) (by kernel_rfl) (by kernel_rfl) (by kernel_rfl) (by kernel_rfl) (by kernel_rfl) (by kernel_rfl) (by kernel_rfl) (fun xs=>by kernel_rfl) (fun xs=>by kernel_rfl) (fun xs=>by kernel_rfl) (fun xs=>by kernel_rfl)
theorem Xgb.okB:Yb5 Go.Proofs.Tryz.prog 118 (Ybr [.sh] [.cl .sh (.sl (.int .i64))] (fun x=>Yle x.1) fun y=>⟨[.cl .deep (.sl (.int .i64)) y],[]⟩):=
 Yvn (hn:=⟨[],[],[],0⟩) Xf Xg (fn:=Go.Proofs.Tryz.f118) (by kernel_rfl) (Ygr (by kernel_rfl)) (by kernel_rfl) (by kernel_rfl) .deep (.int .i64) 51 51 2 (by kernel_rfl) (by kernel_rfl) (by kernel_rfl) (by kernel_rfl) (by kernel_rfl) (by kernel_rfl) (by kernel_rfl) (by kernel_rfl) (fun xs=>by kernel_rfl) (fun xs=>by kernel_rfl) (fun xs=>by kernel_rfl) (fun xs=>by kernel_rfl)
theorem Xgb.ok:Yb5 Go.Proofs.Tryz.prog 158 Xgb.FS:=
 Yty ⟨Go.Proofs.Tryz.f158,by kernel_rfl,by kernel_rfl,by kernel_rfl⟩ (fun w A c l hr hl hls=>callsIn_wide.1 (Go.Proofs.Cp.clonePuts_in Fence.wide 1 trivial trivial trivial (Nat.le_refl _) rfl (fun m w A c xs hr hl=>callsIn_wide.2 (Yub Xgb.okA (by decide) Yws w A c xs hr hl)) (fun m w A c xs hr hl=>callsIn_wide.2 (Yub Xgb.okB (by decide) Ywu w A c xs hr hl)) w A c l hr hl hls))
def Xdu.B (v:Xd) (v2:List (List Int)) (v3:Int) (v5:Xd) (v4:Int) (v6:Xd):Option ((Int×Xd)⊕Xd):=
 cond (decide (v4<v3)) (cond (inB v4 v2.length) ((Xan (v2.getD v4.toNat [])).bind fun v7=>cond (decide ((v6.1++([v7])).length≤2147483648)) (some (.inl (w64 (v4+1),(v6.1++([v7]),v6.2)))) none) none) (some (.inr v6))
def Xdu (v:Xd) (v2:List (List Int)) (v3:Int) (v5:Xd):(Int×Xd)→Option Xd:=
 Y9 fun s=>Xdu.B v v2 v3 v5 s.1 s.2
def Xep (v:Xd):Option Xd:=
 (Xdu v v.1 (v.1.length:Int) ([],[],()) (0,([],[],()))).bind fun v8=>(Xgb v.2.1).bind fun v9=>some (v8.1,v9,())
namespace Xep
def G:Gam:=mkG [(118,Xan.FS),(158,Xgb.FS)]
theorem Gok:GOk PR G:=.cons Xan.ok (.cons Xgb.ok .nil)
end Xep
namespace Xdu
def c:=Yaq (Yah Proofs.Tryz.f82) [1,1,0,1,0,0]
def sp:SP:=⟨[(1,.pt Xh),(2,.loc 2 []),(3,.loc 3 []),(7,.cs (.sl SI)),(8,.cs I64),(9,.cs I64)],[(2,.mem,.cd Xh),(3,.mem,.cd Xh)]⟩
def fr:=Yi4 sp (fun x s=>Xdu.B x.1.1 x.1.2.2.2.1 x.1.2.2.2.2.1 x.2.1 s.1 s.2) (fun x=>(x.1.2.2.2.2.2.1,x.2.2.1)) fun x (bb0:Xd) _ kk0=>kk0 (.ex 0) ⟨[(1,.pt Xh x.1.1),(2,.loc 2 []),(3,.loc 3 [])],[(2,some ⟨.mem,.cd Xh x.2.1⟩),(3,some ⟨.mem,.cd Xh bb0⟩)]⟩
theorem ok:Ya4 PR 27 1 (.loop c) fr:=
 Yxk Xf Xg ⟨[1],[],[],0⟩ (G:=Xep.G) Xep.Gok [(0,([1,2,3],[2,3]))] (fun x s=>((x.1.1,x.1.2.1,x.1.2.2.1,x.1.2.2.2.1,x.1.2.2.2.2.1,s.1,x.1.2.2.2.2.2.2),(x.2.1,s.2,x.2.2.2)))
  (fun x s=>by simp only[B,mC,mB,mS,mO,mN];kernel_rfl)
end Xdu
namespace Xep
def pts:List PT:=[.cs Xh]
def FS:FS:=Ybr [.sh] pts (fun x=>Xep x.1) fun t=>⟨[.cd Xh t],[]⟩
theorem ok:Yb5 PR 82 FS:=
 Yxj Xf Xg Proofs.Tryz.f82 ⟨[1],[],[],0⟩ (.R (.R (.L (.R (.one (.fr 0)))))) (G:=G) Gok (L:=mkL [(0,Xdu.fr)]) (l:=[(0,.loop Xdu.c)]) ⟨Lam.cons Xdu.ok,trivial⟩
  (fun x=>by simp only[Xep,mC,mB,mS,mO,mN];kernel_rfl)
end Xep
noncomputable def Xf7 (d:Xd):Option Xd:=Yld d
noncomputable def Xf7.FS:FS:=Ybr [.mu] [.op (.cl .deep Yq)] (fun x=>Yld x.1) fun y=>⟨[],[.op (.cl .deep Yq y)]⟩
theorem Xf7.ok:Yb5 Go.Proofs.Tryz.prog 135 Xf7.FS:=
 Yvt ⟨Go.Proofs.Tryz.f135,by kernel_rfl,by kernel_rfl,by kernel_rfl⟩ (fun w A C bd od bB oB bC oC nB cB nC cC at_ hc hb h1 h2 h3 h4 h5 h6 h7 h8 h9=>Go.Proofs.Fl.flush_in w A C bd od bB oB bC oC nB cB nC cC at_ hc hb h1 h2 h3 h4 h5 h6 h7 h8 h9)
def Xjq (v:Xd) (v2:Int) (v3:List Int):Option Xd:=
 (Xan v3).bind fun v4=>cond (decide ((v.2.1++([(v2,v4,())])).length≤2147483648)) (some (v.1,v.2.1++([(v2,v4,())]),v.2.2)) none
namespace Xjq
def G:Gam:=mkG [(118,Xan.FS)]
def pts:List PT:=[.op (.cd Xh),.cs I64,.cs SI]
def FS:FS:=Ybr [.mu,.sh,.sh] pts (fun x=>Xjq x.1 x.2.1 x.2.2.1) fun t=>⟨[],[.op (.cd Xh t)]⟩
theorem ok:Yb5 PR 159 FS:=
 Yxj Xf Xg Proofs.Tryz.f159 h0 .no (G:=G) (show GOk PR G from .cons Xan.ok .nil) (L:=mkL []) (l:=[]) hT
  (fun x=>by simp only[Xjq,mC,mB,mS,mO,mN];kernel_rfl)
end Xjq
def Xa0.B (v2:List Xu) (v3:Int) (v4:Int) (v5:Xd):Option ((Int×Xd)⊕(((Int×Xd)⊕Xd))):=
 cond (decide (v4<v3)) (cond (inB v4 v2.length) (cond (v2.getD v4.toNat Xg5).1 ((Xf7 v5).bind fun v6=>some (.inl (w64 (v4+1),v6))) (cond ((v5.2.1.length:Int) == 200) (some (.inr (.inl (2,v5)))) ((Xjq v5 (v2.getD v4.toNat Xg5).2.1 (v2.getD v4.toNat Xg5).2.2.1).bind fun v7=>some (.inl (w64 (v4+1),v7))))) none) (some (.inr (.inr v5)))
def Xa0 (v2:List Xu) (v3:Int):(Int×Xd)→Option (((Int×Xd)⊕Xd)):=
 Y9 fun s=>Xa0.B v2 v3 s.1 s.2
def Xfv (v:Xd) (v2:List Xu):Option (Int×Xd):=
 (Xa0 v2 (v2.length:Int) (0,v)).bind fun v8=>sel v8 (fun v9=>some (v9.1,v9.2)) (fun v10=>some (0,v10))
namespace Xfv
def G:Gam:=mkG [(135,Xf7.FS),(159,Xjq.FS)]
theorem Gok:GOk PR G:=.cons Xf7.ok (.cons Xjq.ok .nil)
end Xfv
namespace Xa0
def c:=Yaq (Yah Proofs.Tryz.f83) [1,0,1,0,0]
def sp:SP:=⟨[(0,.loc 0 []),(7,.cs (.sl Xam)),(8,.cs I64),(9,.cs I64)],[(0,.mem,.cd Xh)]⟩
def fr:=Yi4 sp (fun x s=>Xa0.B x.1.2.1 x.1.2.2.1 s.1 s.2) (fun x=>(x.1.2.2.2.1,x.2.1)) fun x (oo0:((Int×Xd)⊕Xd)) _ kk0=>sel oo0 (fun bb0=>kk0 (.rt) ⟨[(4,.cs I64 bb0.1)],[(0,some ⟨.mem,.cd Xh bb0.2⟩)]⟩) (fun cc0=>kk0 (.ex 0) ⟨[],[(0,some ⟨.mem,.cd Xh cc0⟩)]⟩)
theorem ok:Ya4 PR 32 2 (.loop c) fr:=
 Ytd Xf Xg h0 .no (G:=Xfv.G) Xfv.Gok (L:=mkL []) (l:=[]) hT [(0,([],[0]))] ([4],[0]) (fun x s=>((x.1.1,x.1.2.1,x.1.2.2.1,s.1,x.1.2.2.2.2),(s.2,x.2.2)))
  (fun x s=>by simp only[B,mC,mB,mS,mO,mN];kernel_rfl)
end Xa0
namespace Xfv
def pts:List PT:=[.op (.cd Xh),.cs (.sl Xam)]
def FS:FS:=Ybr [.mu,.sh] pts (fun x=>Xfv x.1 x.2.1) fun t=>⟨[.cs I64 t.1],[.op (.cd Xh t.2)]⟩
theorem ok:Yb5 PR 83 FS:=
 Yxj Xf Xg Proofs.Tryz.f83 h0 (.R (.L (.R (.one (.fr 0))))) (G:=G) Gok (L:=mkL [(0,Xa0.fr)]) (l:=[(0,.loop Xa0.c)]) ⟨Lam.cons Xa0.ok,trivial⟩
  (fun x=>by simp only[Xfv,mC,mB,mS,mO,mN];kernel_rfl)
end Xfv
def Xc6.B (v5:List Int) (v11:Int) (v12:List Int) (v13:Int) (v14:Int) (v15:List Int) (v8:Int) (v16:Int) (v9:Bool) (v10:List Int) (v17:Int) (v6:Xb) (v7:Xb) (v18:Int) (v19:Xc):Option ((Int×Xc)⊕(((Bool×Xb)⊕Xc))):=
 cond (decide (v18<v17)) (cond (inB v18 v10.length) (cond (decide ((v10.getD v18.toNat 0)>255)) (some (.inr (.inl (false,(0,0,0,[],[],()))))) ((some (([IntKind.u8.wrap (v10.getD v18.toNat 0)]).map fun n=>UInt8.ofNat n.toNat)).bind fun v20=>cond (decide (v19.1.length+v20.length≤2147483648)) (some (.inl (w64 (v18+1),(v19.1++v20,v19.2)))) none)) none) (some (.inr (.inr v19)))
def Xc6 (v5:List Int) (v11:Int) (v12:List Int) (v13:Int) (v14:Int) (v15:List Int) (v8:Int) (v16:Int) (v9:Bool) (v10:List Int) (v17:Int) (v6:Xb) (v7:Xb):(Int×Xc)→Option (((Bool×Xb)⊕Xc)):=
 Y9 fun s=>Xc6.B v5 v11 v12 v13 v14 v15 v8 v16 v9 v10 v17 v6 v7 s.1 s.2
def Xbj.B (v6:Xb) (v5:List Int) (v7:Xb):Option (((List Int)×Xb)⊕(((Bool×Xb)⊕Xb))):=
 cond (decide ((v5.length:Int)>0)) (cond (decide ((v5.length:Int)<2)) (some (.inr (.inl (false,(0,0,0,[],[],()))))) (cond (inB 1 v5.length) ((Xap v5).bind fun v8=>(some (decide ((v5.getD (1:Int).toNat 0)>(w64 (v8-2))))).bind fun v9=>cond v9 (some (.inr (.inl (false,(0,0,0,[],[],()))))) (cond (inB 1 v5.length) (cond (inB 0 v5.length) (cond (decide ((0:Int)≤(w64 ((2:Int)+(v5.getD (1:Int).toNat 0))))&&decide ((w64 ((2:Int)+(v5.getD (1:Int).toNat 0)))≤(v5.length:Int))&&(decide ((0:Int)≤(2:Int))&&decide ((2:Int)≤(w64 ((2:Int)+(v5.getD (1:Int).toNat 0)))))) ((some ((v5.take ((w64 ((2:Int)+(v5.getD (1:Int).toNat 0))).toNat)).drop ((2:Int).toNat))).bind fun v10=>(Xc6 v5 (w64 ((2:Int)+(v5.getD (1:Int).toNat 0))) v5 (v5.getD (1:Int).toNat 0) (v5.getD (1:Int).toNat 0) v5 v8 (w64 (v8-2)) v9 v10 (v10.length:Int) v6 v7 (0,([],v5.getD (0:Int).toNat 0,()))).bind fun v21=>sel v21 (fun v22=>some (.inr (.inl (v22.1,v22.2)))) (fun v23=>cond (decide ((v7.2.2.2.2.1++([v23])).length≤2147483648)) (cond (decide ((0:Int)≤(w64 ((2:Int)+(v5.getD (1:Int).toNat 0))))&&decide ((w64 ((2:Int)+(v5.getD (1:Int).toNat 0)))≤(v5.length:Int))) ((some ((v5.take v5.length).drop ((w64 ((2:Int)+(v5.getD (1:Int).toNat 0))).toNat))).bind fun v24=>some (.inl (v24,(v7.1,v7.2.1,v7.2.2.1,v7.2.2.2.1,v7.2.2.2.2.1++([v23]),v7.2.2.2.2.2)))) none) none)) none) none) none)) none)) (some (.inr (.inr v7)))
def Xbj (v6:Xb):((List Int)×Xb)→Option (((Bool×Xb)⊕Xb)):=
 Y9 fun s=>Xbj.B v6 s.1 s.2
def Xcb (v:List Int):Option (Xb×Bool):=
 cond (decide ((v.length:Int)<3)) (some ((0,0,0,[],[],()),false)) (cond (inB 0 v.length) (cond (inB 1 v.length) (cond (inB 2 v.length) (cond (decide ((0:Int)≤(3:Int))&&decide ((3:Int)≤(v.length:Int))) (cond ((v.getD (0:Int).toNat 0) != 2) ((Xan ((v.take v.length).drop ((3:Int).toNat))).bind fun v2=>some ((v.getD (0:Int).toNat 0,v.getD (1:Int).toNat 0,v.getD (2:Int).toNat 0,v2,[],()),true)) ((some (((v.take v.length).drop ((3:Int).toNat)).length:Int)).bind fun v3=>cond (v3 == 0) (some ((0,0,0,[],[],()),false)) (cond (decide ((0:Int)≤(1:Int))&&decide ((1:Int)≤(((v.take v.length).drop ((3:Int).toNat)).length:Int))) ((some ((((v.take v.length).drop ((3:Int).toNat)).take (((v.take v.length).drop ((3:Int).toNat)).length)).drop ((1:Int).toNat))).bind fun v4=>(Xbj (0,0,0,[],[],()) (v4,(v.getD (0:Int).toNat 0,v.getD (1:Int).toNat 0,v.getD (2:Int).toNat 0,[],[],()))).bind fun v25=>sel v25 (fun v26=>some ((v26.2.1,v26.2.2.1,v26.2.2.2.1,v26.2.2.2.2.1,v26.2.2.2.2.2.1,v26.2.2.2.2.2.2),v26.1)) (fun v27=>some ((v27.1,v27.2.1,v27.2.2.1,v27.2.2.2.1,v27.2.2.2.2.1,v27.2.2.2.2.2),true))) none))) none) none) none) none)
namespace Xcb
def G:Gam:=mkG [(118,Xan.FS),(138,Xap.FS)]
theorem Gok:GOk PR G:=.cons Xan.ok (.cons Xap.ok .nil)
end Xcb
namespace Xc6
def c:=Yaq (Yah Proofs.Tryz.f231) [1,1,1,1,1,1,0,1,0,0,1,0,1,1,1,0,1,0,0]
def sp:SP:=⟨[(0,.cs SI),(2,.loc 2 []),(4,.loc 4 []),(5,.cs I64),(6,.loc 6 []),(45,.cs SI),(46,.pt I64),(47,.cs I64),(48,.cs SI),(49,.cs I64),(50,.cs I64),(51,.cs .bool),(64,.cs SI),(65,.cs I64),(66,.cs I64)],[(2,.mem,.cd Xe),(4,.mem,.cd Xe),(6,.mem,.cd Xm)]⟩
def fr:=Yi4 sp (fun x s=>Xc6.B x.1.1 x.1.2.2.2.1 x.1.2.2.2.2.2.1 x.1.2.2.2.2.2.2.1 x.1.2.2.2.2.2.2.2.1 x.1.2.2.2.2.2.2.2.2.1 x.1.2.2.2.2.2.2.2.2.2.1 x.1.2.2.2.2.2.2.2.2.2.2.1 x.1.2.2.2.2.2.2.2.2.2.2.2.1 x.1.2.2.2.2.2.2.2.2.2.2.2.2.1 x.1.2.2.2.2.2.2.2.2.2.2.2.2.2.1 x.2.1 x.2.2.1 s.1 s.2) (fun x=>(x.1.2.2.2.2.2.2.2.2.2.2.2.2.2.2.1,x.2.2.2.1)) fun x (oo0:((Bool×Xb)⊕Xc)) _ kk0=>sel oo0 (fun bb0=>kk0 (.rt) ⟨[(2,.loc 2 []),(3,.cs .bool bb0.1)],[(2,some ⟨.mem,.cd Xe bb0.2⟩)]⟩) (fun cc0=>kk0 (.ex 2) ⟨[(0,.cs SI x.1.1),(2,.loc 2 []),(4,.loc 4 []),(5,.cs I64 x.1.2.2.2.1),(6,.loc 6 []),(45,.cs SI x.1.2.2.2.2.2.1),(46,.pt I64 x.1.2.2.2.2.2.2.1),(47,.cs I64 x.1.2.2.2.2.2.2.2.1),(48,.cs SI x.1.2.2.2.2.2.2.2.2.1),(49,.cs I64 x.1.2.2.2.2.2.2.2.2.2.1),(50,.cs I64 x.1.2.2.2.2.2.2.2.2.2.2.1),(51,.cs .bool x.1.2.2.2.2.2.2.2.2.2.2.2.1)],[(2,some ⟨.mem,.cd Xe x.2.1⟩),(4,some ⟨.mem,.cd Xe x.2.2.1⟩),(6,some ⟨.mem,.cd Xm cc0⟩)]⟩)
theorem ok:Ya4 PR 92 1 (.loop c) fr:=
 Ywh Xf Xg h0 .no (G:=Xcb.G) Xcb.Gok (L:=mkL []) (l:=[]) hT [0,2,4,5,6,45,46,47,48,49,50,51,64,65,66] [2,4,6] [(2,([0,2,4,5,6,45,46,47,48,49,50,51],[2,4,6]))] ([2,3],[2]) (fun x s=>B x.1.1 x.1.2.2.2.1 x.1.2.2.2.2.2.1 x.1.2.2.2.2.2.2.1 x.1.2.2.2.2.2.2.2.1 x.1.2.2.2.2.2.2.2.2.1 x.1.2.2.2.2.2.2.2.2.2.1 x.1.2.2.2.2.2.2.2.2.2.2.1 x.1.2.2.2.2.2.2.2.2.2.2.2.1 x.1.2.2.2.2.2.2.2.2.2.2.2.2.1 x.1.2.2.2.2.2.2.2.2.2.2.2.2.2.1 x.2.1 x.2.2.1 s.1 s.2) (fun x s=>⟨[(0,.cs SI x.1.1),(2,.loc 2 []),(4,.loc 4 []),(5,.cs I64 x.1.2.2.2.1),(6,.loc 6 []),(45,.cs SI x.1.2.2.2.2.2.1),(46,.pt I64 x.1.2.2.2.2.2.2.1),(47,.cs I64 x.1.2.2.2.2.2.2.2.1),(48,.cs SI x.1.2.2.2.2.2.2.2.2.1),(49,.cs I64 x.1.2.2.2.2.2.2.2.2.2.1),(50,.cs I64 x.1.2.2.2.2.2.2.2.2.2.2.1),(51,.cs .bool x.1.2.2.2.2.2.2.2.2.2.2.2.1),(64,.cs SI x.1.2.2.2.2.2.2.2.2.2.2.2.2.1),(65,.cs I64 x.1.2.2.2.2.2.2.2.2.2.2.2.2.2.1),(66,.cs I64 s.1)],[(2,some ⟨.mem,.cd Xe x.2.1⟩),(4,some ⟨.mem,.cd Xe x.2.2.1⟩),(6,some ⟨.mem,.cd Xm s.2⟩)]⟩) (fun x=>(x.1.2.2.2.2.2.2.2.2.2.2.2.2.2.2.1,x.2.2.2.1))
  (fun x s=>by simp only[B,mC,mB,mS,mO,mN];kernel_rfl)
end Xc6
namespace Xbj
def c:=Yaq (Yah Proofs.Tryz.f231) [1,1,1,1,1,1,0,1,0,0]
def sp:SP:=⟨[(0,.cs SI),(2,.loc 2 []),(4,.loc 4 [])],[(2,.mem,.cd Xe),(4,.mem,.cd Xe)]⟩
def fr:=Yi4 sp (fun x s=>Xbj.B x.2.1 s.1 s.2) (fun x=>(x.1.1,x.2.2.1)) fun x (oo0:((Bool×Xb)⊕Xb)) _ kk0=>sel oo0 (fun bb0=>kk0 (.rt) ⟨[(2,.loc 2 []),(3,.cs .bool bb0.1)],[(2,some ⟨.mem,.cd Xe bb0.2⟩)]⟩) (fun cc0=>kk0 (.ex 0) ⟨[(2,.loc 2 []),(4,.loc 4 [])],[(2,some ⟨.mem,.cd Xe x.2.1⟩),(4,some ⟨.mem,.cd Xe cc0⟩)]⟩)
theorem ok:Ya4 PR 92 1 (.loop c) fr:=
 Ytd Xf Xg h0 (.R (.one (.R (.R (.R (.L (.R (.one (.fr 1))))))))) (G:=Xcb.G) Xcb.Gok (L:=mkL [(1,Xc6.fr)]) (l:=[(1,.loop Xc6.c)]) ⟨Lam.cons Xc6.ok,trivial⟩ [(0,([2,4],[2,4]))] ([2,3],[2]) (fun x s=>((s.1,x.1.2),(x.2.1,s.2,x.2.2.2)))
  (fun x s=>by simp only[B,mC,mB,mS,mO,mN];kernel_rfl)
end Xbj
namespace Xcb
def pts:List PT:=[.cs SI]
def FS:FS:=Ybr [.sh] pts (fun x=>Xcb x.1) fun t=>⟨[.cd Xe t.1,.cs .bool t.2],[]⟩
theorem ok:Yb5 PR 231 FS:=
 Yxj Xf Xg Proofs.Tryz.f231 h0 (.R (.R (.R (.R (.R (.R (.L (.R (.one (.fr 0)))))))))) (G:=G) Gok (L:=mkL [(1,Xc6.fr),(0,Xbj.fr)]) (l:=[(0,.loop Xbj.c)]) ⟨Lam.skip rfl (Lam.cons Xbj.ok),trivial⟩
  (fun x=>by simp only[Xcb,mC,mB,mS,mO,mN];kernel_rfl)
end Xcb
def Xj0 (v:Int):Option Int:=
 cond (!((8:Int) == 0)) (some (w64 ((w64 ((w64 (v+8))-1)).tdiv 8))) none
namespace Xj0
def pts:List PT:=[.cs I64]
def FS:FS:=Ybr [.sh] pts (fun x=>Xj0 x.1) fun t=>⟨[.cs I64 t],[]⟩
theorem ok:Yb5 PR 257 FS:=
 Yxj Xf Xg Proofs.Tryz.f257 h0 .no (G:=(mkG [])) .nil (L:=mkL []) (l:=[]) hT
  (fun x=>by simp only[Xj0,mC,mB,mS,mO,mN];kernel_rfl)
end Xj0
def Xj6 (v:Int):Option Bool:=
 (X3 v 0 19).bind fun v2=>some (!v2)
namespace Xj6
def G:Gam:=mkG [(150,X3.FS)]
def pts:List PT:=[.cs I64]
def FS:FS:=Ybr [.sh] pts (fun x=>Xj6 x.1) fun t=>⟨[.cs .bool t],[]⟩
theorem ok:Yb5 PR 258 FS:=
 Yxj Xf Xg Proofs.Tryz.f258 h0 .no (G:=G) (show GOk PR G from .cons X3.ok .nil) (L:=mkL []) (l:=[]) hT
  (fun x=>by simp only[Xj6,mC,mB,mS,mO,mN];kernel_rfl)
end Xj6
def Xfy.B (v:List Int) (v2:Unit) (v3:Int) (v4:Int):Option (Int⊕((Int⊕Unit))):=
 cond (decide (v4<v3)) (cond (inB v4 v.length) ((Xj6 (v.getD v4.toNat 0)).bind fun v5=>cond v5 (some (.inr (.inl v4))) (some (.inl (w64 (v4+1))))) none) (some (.inr (.inr ())))
def Xfy (v:List Int) (v2:Unit) (v3:Int):Int→Option ((Int⊕Unit)):=
 Y9 fun s=>Xfy.B v v2 v3 s
def Xfs (v:List Int) (v2:Unit):Option Int:=
 (Xfy v v2 (v.length:Int) 0).bind fun v6=>sel v6 (fun v7=>some v7) (fun v8=>some (-1))
namespace Xfs
def G:Gam:=mkG [(258,Xj6.FS)]
theorem Gok:GOk PR G:=.cons Xj6.ok .nil
end Xfs
namespace Xfy
def c:=Yaq (Yah Proofs.Tryz.f233) [1,0,1,0,0]
def sp:SP:=⟨[(0,.cs SI),(1,.clo 258 (.cs .unit)),(7,.cs I64),(8,.cs I64)],[]⟩
def fr:=Yi4 sp (fun x s=>Xfy.B x.1.1 x.1.2.1 x.1.2.2.1 s) (fun x=>x.1.2.2.2.1) fun x (oo0:(Int⊕Unit)) _ kk0=>sel oo0 (fun bb0=>kk0 (.rt) ⟨[(4,.cs I64 bb0)],[]⟩) (fun cc0=>kk0 (.ex 0) ⟨[],[]⟩)
theorem ok:Ya4 PR 19 2 (.loop c) fr:=
 Ytd Xf Xg h0 .no (G:=Xfs.G) Xfs.Gok (L:=mkL []) (l:=[]) hT [(0,([],[]))] ([4],[]) (fun x s=>((x.1.1,x.1.2.1,x.1.2.2.1,s,x.1.2.2.2.2),x.2))
  (fun x s=>by simp only[B,mC,mB,mS,mO,mN];kernel_rfl)
end Xfy
namespace Xfs
def pts:List PT:=[.cs SI,.clo 258 (.cs .unit)]
def FS:FS:=Ybr [.sh,.sh] pts (fun x=>Xfs x.1 x.2.1) fun t=>⟨[.cs I64 t],[]⟩
theorem ok:Yb5 PR 233 FS:=
 Yxj Xf Xg Proofs.Tryz.f233 h0 (.R (.L (.R (.one (.fr 0))))) (G:=G) Gok (L:=mkL [(0,Xfy.fr)]) (l:=[(0,.loop Xfy.c)]) ⟨Lam.cons Xfy.ok,trivial⟩
  (fun x=>by simp only[Xfs,mC,mB,mS,mO,mN];kernel_rfl)
end Xfs
def Xh5 (v:List Int) (v2:Unit):Option Bool:=
 (Xfs v v2).bind fun v3=>some (decide (v3≥0))
namespace Xh5
def G:Gam:=mkG [(233,Xfs.FS)]
def pts:List PT:=[.cs SI,.clo 258 (.cs .unit)]
def FS:FS:=Ybr [.sh,.sh] pts (fun x=>Xh5 x.1 x.2.1) fun t=>⟨[.cs .bool t],[]⟩
theorem ok:Yb5 PR 201 FS:=
 Yxj Xf Xg Proofs.Tryz.f201 h0 .no (G:=G) (show GOk PR G from .cons Xfs.ok .nil) (L:=mkL []) (l:=[]) hT
  (fun x=>by simp only[Xh5,mC,mB,mS,mO,mN];kernel_rfl)
end Xh5
def Xfp.B (v:List Int) (v2:Int) (v3:Int) (v4:Int):Option (Int⊕((Int⊕Unit))):=
 cond (decide (v4<v3)) (cond (inB v4 v.length) (cond (v2 == (v.getD v4.toNat 0)) (some (.inr (.inl v4))) (some (.inl (w64 (v4+1))))) none) (some (.inr (.inr ())))
def Xfp (v:List Int) (v2:Int) (v3:Int):Int→Option ((Int⊕Unit)):=
 Y9 fun s=>Xfp.B v v2 v3 s
def Xjx (v:List Int) (v2:Int):Option Int:=
 (Xfp v v2 (v.length:Int) 0).bind fun v5=>sel v5 (fun v6=>some v6) (fun v7=>some (-1))
namespace Xfp
def c:=Yaq (Yah Proofs.Tryz.f212) [1,0,1,0,0]
def sp:SP:=⟨[(0,.cs SI),(1,.cs I64),(7,.cs I64),(8,.cs I64)],[]⟩
def fr:=Yi4 sp (fun x s=>Xfp.B x.1.1 x.1.2.1 x.1.2.2.1 s) (fun x=>x.1.2.2.2.1) fun x (oo0:(Int⊕Unit)) _ kk0=>sel oo0 (fun bb0=>kk0 (.rt) ⟨[(4,.cs I64 bb0)],[]⟩) (fun cc0=>kk0 (.ex 0) ⟨[],[]⟩)
theorem ok:Ya4 PR 19 2 (.loop c) fr:=
 Ytd Xf Xg h0 .no (G:=(mkG [])) .nil (L:=mkL []) (l:=[]) hT [(0,([],[]))] ([4],[]) (fun x s=>((x.1.1,x.1.2.1,x.1.2.2.1,s,x.1.2.2.2.2),x.2))
  (fun x s=>by simp only[B,mC,mB,mS,mO,mN];kernel_rfl)
end Xfp
namespace Xjx
def pts:List PT:=[.cs SI,.cs I64]
def FS:FS:=Ybr [.sh,.sh] pts (fun x=>Xjx x.1 x.2.1) fun t=>⟨[.cs I64 t],[]⟩
theorem ok:Yb5 PR 212 FS:=
 Yxj Xf Xg Proofs.Tryz.f212 h0 (.R (.L (.R (.one (.fr 0))))) (G:=(mkG [])) .nil (L:=mkL [(0,Xfp.fr)]) (l:=[(0,.loop Xfp.c)]) ⟨Lam.cons Xfp.ok,trivial⟩
  (fun x=>by simp only[Xjx,mC,mB,mS,mO,mN];kernel_rfl)
end Xjx
def Xb6 (v:List Int) (v2:Int):Option Bool:=
 (Xjx v v2).bind fun v3=>some (decide (v3≥0))
namespace Xb6
def G:Gam:=mkG [(212,Xjx.FS)]
def pts:List PT:=[.cs SI,.cs I64]
def FS:FS:=Ybr [.sh,.sh] pts (fun x=>Xb6 x.1 x.2.1) fun t=>⟨[.cs .bool t],[]⟩
theorem ok:Yb5 PR 148 FS:=
 Yxj Xf Xg Proofs.Tryz.f148 h0 .no (G:=G) (show GOk PR G from .cons Xjx.ok .nil) (L:=mkL []) (l:=[]) hT
  (fun x=>by simp only[Xb6,mC,mB,mS,mO,mN];kernel_rfl)
end Xb6
def Xdp.B (v:Xb) (v7:List Int) (v8:Int) (v9:Int):Option (Int⊕((Int⊕Unit))):=
 cond (decide (v9<v8)) (cond (inB v9 v7.length) (cond (decide ((0:Int)≤v9)&&decide (v9≤(v.2.2.2.1.length:Int))) ((Xb6 ((v.2.2.2.1.take v9.toNat).drop 0) (v7.getD v9.toNat 0)).bind fun v10=>cond v10 (some (.inr (.inl 7))) (some (.inl (w64 (v9+1))))) none) none) (some (.inr (.inr ())))
def Xdp (v:Xb) (v7:List Int) (v8:Int):Int→Option ((Int⊕Unit)):=
 Y9 fun s=>Xdp.B v v7 v8 s
def Xe6 (v:Xb):Option Int:=
 (X3 v.2.1 1 60).bind fun v2=>cond (!v2) (some 3) ((X3 v.2.2.1 0 32).bind fun v3=>cond (!v3) (some 3) ((Xap v.2.2.2.1).bind fun v4=>(Xj0 v.2.2.1).bind fun v5=>cond (v4 != v5) (some 1) ((Xh5 v.2.2.2.1 ()).bind fun v6=>cond v6 (some 3) ((Xdp v v.2.2.2.1 (v.2.2.2.1.length:Int) 0).bind fun v11=>sel v11 (fun v12=>some v12) (fun v13=>some 0)))))
namespace Xe6
def G:Gam:=mkG [(150,X3.FS),(138,Xap.FS),(257,Xj0.FS),(201,Xh5.FS),(148,Xb6.FS)]
theorem Gok:GOk PR G:=.cons X3.ok (.cons Xap.ok (.cons Xj0.ok (.cons Xh5.ok (.cons Xb6.ok .nil))))
end Xe6
namespace Xdp
def c:=Yaq (Yah Proofs.Tryz.f241) [1,1,0,1,0,0]
def sp:SP:=⟨[(1,.pt Xe),(29,.cs SI),(30,.cs I64),(31,.cs I64)],[]⟩
def fr:=Yi4 sp (fun x s=>Xdp.B x.1.1 x.1.2.1 x.1.2.2.1 s) (fun x=>x.1.2.2.2.1) fun x (oo0:(Int⊕Unit)) _ kk0=>sel oo0 (fun bb0=>kk0 (.rt) ⟨[(2,.cs I64 bb0)],[]⟩) (fun cc0=>kk0 (.ex 1) ⟨[],[]⟩)
theorem ok:Ya4 PR 43 1 (.loop c) fr:=
 Ytd Xf Xg ⟨[1],[],[],0⟩ .no (G:=Xe6.G) Xe6.Gok (L:=mkL []) (l:=[]) hT [(1,([],[]))] ([2],[]) (fun x s=>((x.1.1,x.1.2.1,x.1.2.2.1,s,x.1.2.2.2.2),x.2))
  (fun x s=>by simp only[B,mC,mB,mS,mO,mN];kernel_rfl)
end Xdp
namespace Xe6
def pts:List PT:=[.cs Xe]
def FS:FS:=Ybr [.sh] pts (fun x=>Xe6 x.1) fun t=>⟨[.cs I64 t],[]⟩
theorem ok:Yb5 PR 241 FS:=
 Yxj Xf Xg Proofs.Tryz.f241 ⟨[1],[],[],0⟩ (.R (.R (.L (.R (.one (.fr 0)))))) (G:=G) Gok (L:=mkL [(0,Xdp.fr)]) (l:=[(0,.loop Xdp.c)]) ⟨Lam.cons Xdp.ok,trivial⟩
  (fun x=>by simp only[Xe6,mC,mB,mS,mO,mN];kernel_rfl)
end Xe6
def Xfi.B (v:List UInt8) (v2:Int) (v3:Int):Option (Int⊕((Int⊕Unit))):=
 cond (decide (v3<v2)) (cond (inB v3 v.length) (cond (cond (!(decide (((v.getD v3.toNat 0).toNat:Int)<97))) (inB v3 v.length) true) ((some (cond (decide (((v.getD v3.toNat 0).toNat:Int)<97)) true (decide (((v.getD v3.toNat 0).toNat:Int)>122)))).bind fun v4=>cond v4 (some (.inr (.inl 5))) (some (.inl (w64 (v3+1))))) none) none) (some (.inr (.inr ())))
def Xfi (v:List UInt8) (v2:Int):Int→Option ((Int⊕Unit)):=
 Y9 fun s=>Xfi.B v v2 s
def Xhl (v:List UInt8):Option Int:=
 cond (v == ([]:List UInt8)) (some 5) ((Xfi v (v.length:Int) 0).bind fun v5=>sel v5 (fun v6=>some v6) (fun v7=>cond (decide ((v.length:Int)>4)) (some 2) (some 0)))
namespace Xfi
def c:=Yaq (Yah Proofs.Tryz.f259) [1,1,0,1,0,0]
def sp:SP:=⟨[(0,.cs .str),(7,.cs I64),(8,.cs I64)],[]⟩
def fr:=Yi4 sp (fun x s=>Xfi.B x.1.1 x.1.2.1 s) (fun x=>x.1.2.2.1) fun x (oo0:(Int⊕Unit)) _ kk0=>sel oo0 (fun bb0=>kk0 (.rt) ⟨[(2,.cs I64 bb0)],[]⟩) (fun cc0=>kk0 (.ex 0) ⟨[(0,.cs .str x.1.1)],[]⟩)
theorem ok:Ya4 PR 25 1 (.loop c) fr:=
 Ytd Xf Xg h0 .no (G:=(mkG [])) .nil (L:=mkL []) (l:=[]) hT [(0,([0],[]))] ([2],[]) (fun x s=>((x.1.1,x.1.2.1,s,x.1.2.2.2),x.2))
  (fun x s=>by simp only[B,mC,mB,mS,mO,mN];kernel_rfl)
end Xfi
namespace Xhl
def pts:List PT:=[.cs .str]
def FS:FS:=Ybr [.sh] pts (fun x=>Xhl x.1) fun t=>⟨[.cs I64 t],[]⟩
theorem ok:Yb5 PR 259 FS:=
 Yxj Xf Xg Proofs.Tryz.f259 h0 (.R (.R (.L (.R (.one (.fr 0)))))) (G:=(mkG [])) .nil (L:=mkL [(0,Xfi.fr)]) (l:=[(0,.loop Xfi.c)]) ⟨Lam.cons Xfi.ok,trivial⟩
  (fun x=>by simp only[Xhl,mC,mB,mS,mO,mN];kernel_rfl)
end Xhl
def Xdw.B (v:Xb) (v2:List Xc) (v3:Int) (v4:Int):Option (Int⊕((Int⊕Unit))):=
 cond (decide (v4<v3)) (cond (inB v4 v2.length) ((Xhl (v2.getD v4.toNat Xk).1).bind fun v5=>cond (v5 != 0) (some (.inr (.inl v5))) ((X3 (v2.getD v4.toNat Xk).2.1 0 9).bind fun v6=>cond (!v6) (some (.inr (.inl 3))) (cond (cond (decide (v4>0)) (inB (w64 (v4-1)) v.2.2.2.2.1.length) true) ((some (cond (decide (v4>0)) (!leB (v.2.2.2.2.1.getD (w64 (v4-1)).toNat Xk).1 (v2.getD v4.toNat Xk).1) false)).bind fun v7=>cond v7 (some (.inr (.inl 1))) (some (.inl (w64 (v4+1))))) none))) none) (some (.inr (.inr ())))
def Xdw (v:Xb) (v2:List Xc) (v3:Int):Int→Option ((Int⊕Unit)):=
 Y9 fun s=>Xdw.B v v2 v3 s
def Xe4 (v:Xb):Option Int:=
 cond (decide ((v.2.2.2.2.1.length:Int)>6)) (some 2) ((Xdw v v.2.2.2.2.1 (v.2.2.2.2.1.length:Int) 0).bind fun v8=>sel v8 (fun v9=>some v9) (fun v10=>some 0))
namespace Xe4
def G:Gam:=mkG [(259,Xhl.FS),(150,X3.FS)]
theorem Gok:GOk PR G:=.cons Xhl.ok (.cons X3.ok .nil)
end Xe4
namespace Xdw
def c:=Yaq (Yah Proofs.Tryz.f242) [1,1,0,1,0,0]
def sp:SP:=⟨[(1,.pt Xe),(11,.cs (.sl Xm)),(12,.cs I64),(13,.cs I64)],[]⟩
def fr:=Yi4 sp (fun x s=>Xdw.B x.1.1 x.1.2.1 x.1.2.2.1 s) (fun x=>x.1.2.2.2.1) fun x (oo0:(Int⊕Unit)) _ kk0=>sel oo0 (fun bb0=>kk0 (.rt) ⟨[(2,.cs I64 bb0)],[]⟩) (fun cc0=>kk0 (.ex 0) ⟨[],[]⟩)
theorem ok:Ya4 PR 43 1 (.loop c) fr:=
 Ytd Xf Xg ⟨[1],[],[],0⟩ .no (G:=Xe4.G) Xe4.Gok (L:=mkL []) (l:=[]) hT [(0,([],[]))] ([2],[]) (fun x s=>((x.1.1,x.1.2.1,x.1.2.2.1,s,x.1.2.2.2.2),x.2))
  (fun x s=>by simp only[B,mC,mB,mS,mO,mN];kernel_rfl)
end Xdw
namespace Xe4
def pts:List PT:=[.cs Xe]
def FS:FS:=Ybr [.sh] pts (fun x=>Xe4 x.1) fun t=>⟨[.cs I64 t],[]⟩
theorem ok:Yb5 PR 242 FS:=
 Yxj Xf Xg Proofs.Tryz.f242 ⟨[1],[],[],0⟩ (.R (.R (.L (.R (.one (.fr 0)))))) (G:=G) Gok (L:=mkL [(0,Xdw.fr)]) (l:=[(0,.loop Xdw.c)]) ⟨Lam.cons Xdw.ok,trivial⟩
  (fun x=>by simp only[Xe4,mC,mB,mS,mO,mN];kernel_rfl)
end Xe4
def Xd8 (v:Xb):Option Int:=
 (some (cond (cond (v.2.1 == 0) (v.2.2.1 == 0) false) ((v.2.2.2.1.length:Int) == 0) false)).bind fun v2=>(X3 v.1 0 2).bind fun v3=>cond (!v3) (some 1) (cond (cond (v.1 != 1) (!v2) false) (some 1) ((some (cond (v.1 != 2) (!((v.2.2.2.2.1.length:Int) == 0)) false)).bind fun v4=>cond v4 (some 1) (cond (v.1 == 1) ((Xe6 v).bind fun v5=>some v5) ((Xe4 v).bind fun v6=>some v6))))
namespace Xd8
def G:Gam:=mkG [(150,X3.FS),(241,Xe6.FS),(242,Xe4.FS)]
def pts:List PT:=[.cs Xe]
def FS:FS:=Ybr [.sh] pts (fun x=>Xd8 x.1) fun t=>⟨[.cs I64 t],[]⟩
theorem ok:Yb5 PR 232 FS:=
 Yxj Xf Xg Proofs.Tryz.f232 ⟨[1],[],[],0⟩ .no (G:=G) (show GOk PR G from .cons X3.ok (.cons Xe6.ok (.cons Xe4.ok .nil))) (L:=mkL []) (l:=[]) hT
  (fun x=>by simp only[Xd8,mC,mB,mS,mO,mN];kernel_rfl)
end Xd8
def Xjy (v:List Xc):Option Int:=
 some (v.length:Int)
namespace Xjy
def pts:List PT:=[.cs (.sl Xm)]
def FS:FS:=Ybr [.sh] pts (fun x=>Xjy x.1) fun t=>⟨[.cs I64 t],[]⟩
theorem ok:Yb5 PR 226 FS:=
 Yxj Xf Xg Proofs.Tryz.f226 h0 .no (G:=(mkG [])) .nil (L:=mkL []) (l:=[]) hT
  (fun x=>by simp only[Xjy,mC,mB,mS,mO,mN];kernel_rfl)
end Xjy
def Xc2.B (v3:List Xc) (v4:Int) (v5:Int) (v8:Int) (v11:Xc) (v9:Int) (v10:List Int):Option ((Int×List Int)⊕(List Int)):=
 cond (decide (v9<v8)) (cond (inB v9 v11.1.length) ((some (v10++([w64 (((v11.1.getD v9.toNat 0).toNat:Int))]))).bind fun v12=>cond (decide (v12.length≤2147483648)) (some (.inl (w64 (v9+1),v12))) none) none) (some (.inr v10))
def Xc2 (v3:List Xc) (v4:Int) (v5:Int) (v8:Int) (v11:Xc):(Int×List Int)→Option (List Int):=
 Y9 fun s=>Xc2.B v3 v4 v5 v8 v11 s.1 s.2
def Xe2.B (v3:List Xc) (v4:Int) (v5:Int) (v6:List Int):Option ((Int×List Int)⊕(List Int)):=
 cond (decide (v5<v4)) (cond (inB v5 v3.length) ((some (v6++([(v3.getD v5.toNat Xk).2.1,((v3.getD v5.toNat Xk).1.length:Int)]))).bind fun v7=>cond (decide (v7.length≤2147483648)) ((Xc2 v3 v4 v5 ((v3.getD v5.toNat Xk).1.length:Int) (v3.getD v5.toNat Xk) (0,v7)).bind fun v13=>some (.inl (w64 (v5+1),v13))) none) none) (some (.inr v6))
def Xe2 (v3:List Xc) (v4:Int):(Int×List Int)→Option (List Int):=
 Y9 fun s=>Xe2.B v3 v4 s.1 s.2
def Xb7 (v:Xb):Option (List Int):=
 cond (decide ((([v.1,v.2.1,v.2.2.1])++v.2.2.2.1).length≤2147483648)) (cond (v.1 != 2) (some (([v.1,v.2.1,v.2.2.1])++v.2.2.2.1)) ((Xjy v.2.2.2.2.1).bind fun v2=>cond (decide (((([v.1,v.2.1,v.2.2.1])++v.2.2.2.1)++([v2])).length≤2147483648)) ((Xe2 v.2.2.2.2.1 (v.2.2.2.2.1.length:Int) (0,(([v.1,v.2.1,v.2.2.1])++v.2.2.2.1)++([v2]))).bind fun v14=>some v14) none)) none
namespace Xb7
def G:Gam:=mkG [(226,Xjy.FS)]
theorem Gok:GOk PR G:=.cons Xjy.ok .nil
end Xb7
namespace Xc2
def c:=Yaq (Yah Proofs.Tryz.f188) [1,1,1,1,0,1,0,0,1,1,0,0,1,1,1,0,0]
def sp:SP:=⟨[(3,.seg 3 []),(5,.loc 5 []),(28,.cs (.sl Xm)),(29,.cs I64),(30,.cs I64),(44,.cs I64),(45,.cs I64)],[(3,.reg,.cd SI),(5,.mem,.cd Xm)]⟩
def fr:=Yi4 sp (fun x s=>Xc2.B x.1.2.2.1 x.1.2.2.2.1 x.1.2.2.2.2.1 x.1.2.2.2.2.2.1 x.2.2.1 s.1 s.2) (fun x=>(x.1.2.2.2.2.2.2.1,x.2.1)) fun x (bb0:List Int) _ kk0=>kk0 (.ex 2) ⟨[(3,.seg 3 []),(28,.cs (.sl Xm) x.1.2.2.1),(29,.cs I64 x.1.2.2.2.1),(30,.cs I64 x.1.2.2.2.2.1)],[sr 3 (.cd SI bb0)]⟩
theorem ok:Ya4 PR 59 1 (.loop c) fr:=
 Yxk Xf Xg ⟨[1],[],[],0⟩ (G:=Xb7.G) Xb7.Gok [(2,([3,28,29,30],[3]))] (fun x s=>((x.1.1,x.1.2.1,x.1.2.2.1,x.1.2.2.2.1,x.1.2.2.2.2.1,x.1.2.2.2.2.2.1,s.1,x.1.2.2.2.2.2.2.2),(s.2,x.2.2)))
  (fun x s=>by simp only[B,mC,mB,mS,mO,mN];kernel_rfl)
end Xc2
namespace Xe2
def c:=Yaq (Yah Proofs.Tryz.f188) [1,1,1,1,0,1,0,0]
def sp:SP:=⟨[(3,.seg 3 []),(28,.cs (.sl Xm)),(29,.cs I64),(30,.cs I64)],[(3,.reg,.cd SI)]⟩
def fr:=Yi4 sp (fun x s=>Xe2.B x.1.2.1 x.1.2.2.1 s.1 s.2) (fun x=>(x.1.2.2.2.1,x.2.1)) fun x (bb0:List Int) _ kk0=>kk0 (.ex 0) ⟨[(3,.seg 3 [])],[sr 3 (.cd SI bb0)]⟩
theorem ok:Ya4 PR 59 1 (.loop c) fr:=
 Yxp Xf Xg ⟨[1],[],[],0⟩ (.R (.R (.L (.one (.R (.R (.R (.one (.fr 1))))))))) (G:=Xb7.G) Xb7.Gok (L:=mkL [(1,Xc2.fr)]) (l:=[(1,.loop Xc2.c)]) ⟨Lam.cons Xc2.ok,trivial⟩ [(0,([3],[3]))] (fun x s=>((x.1.1,x.1.2.1,x.1.2.2.1,s.1,x.1.2.2.2.2),(s.2,x.2.2)))
  (fun x s=>by simp only[B,mC,mB,mS,mO,mN];kernel_rfl)
end Xe2
namespace Xb7
def pts:List PT:=[.cs Xe]
def FS:FS:=Ybr [.sh] pts (fun x=>Xb7 x.1) fun t=>⟨[.cd SI t],[]⟩
theorem ok:Yb5 PR 188 FS:=
 Yxj Xf Xg Proofs.Tryz.f188 ⟨[1],[],[],0⟩ (.R (.R (.R (.R (.L (.R (.one (.fr 0)))))))) (G:=G) Gok (L:=mkL [(1,Xc2.fr),(0,Xe2.fr)]) (l:=[(0,.loop Xe2.c)]) ⟨Lam.skip rfl (Lam.cons Xe2.ok),trivial⟩
  (fun x=>by simp only[Xb7,mC,mB,mS,mO,mN];kernel_rfl)
end Xb7
def Xh3 (v:List Int):Option (Xb×Int):=
 (Xec v).bind fun v2=>cond (cond (v2 != 0) true ((v.length:Int) == 0)) (some ((0,0,0,[],[],()),v2)) ((Xcb v).bind fun v3=>cond (!v3.2) (some ((0,0,0,[],[],()),5)) ((Xd8 (v3.1.1,v3.1.2.1,v3.1.2.2.1,v3.1.2.2.2.1,v3.1.2.2.2.2.1,v3.1.2.2.2.2.2)).bind fun v4=>cond (v4 != 0) (some ((0,0,0,[],[],()),5)) ((Xb7 (v3.1.1,v3.1.2.1,v3.1.2.2.1,v3.1.2.2.2.1,v3.1.2.2.2.2.1,v3.1.2.2.2.2.2)).bind fun v5=>(Xfh v5 v).bind fun v6=>cond (!v6) (some ((0,0,0,[],[],()),5)) (some ((v3.1.1,v3.1.2.1,v3.1.2.2.1,v3.1.2.2.2.1,v3.1.2.2.2.2.1,v3.1.2.2.2.2.2),0)))))
namespace Xh3
def G:Gam:=mkG [(178,Xec.FS),(231,Xcb.FS),(232,Xd8.FS),(188,Xb7.FS),(187,Xfh.FS)]
def pts:List PT:=[.cs SI]
def FS:FS:=Ybr [.sh] pts (fun x=>Xh3 x.1) fun t=>⟨[.cd Xe t.1,.cs I64 t.2],[]⟩
theorem ok:Yb5 PR 200 FS:=
 Yxj Xf Xg Proofs.Tryz.f200 h0 .no (G:=G) (show GOk PR G from .cons Xec.ok (.cons Xcb.ok (.cons Xd8.ok (.cons Xb7.ok (.cons Xfh.ok .nil))))) (L:=mkL []) (l:=[]) hT
  (fun x=>by simp only[Xh3,mC,mB,mS,mO,mN];kernel_rfl)
end Xh3
def Xfk.B (v:List Xb) (v2:Int) (v3:Int):Option (Int⊕((Int⊕Unit))):=
 cond (decide (v3<v2)) (cond (inB v3 v.length) ((Xd8 (v.getD v3.toNat Xa)).bind fun v4=>cond (v4 != 0) (some (.inr (.inl v4))) (some (.inl (w64 (v3+1))))) none) (some (.inr (.inr ())))
def Xfk (v:List Xb) (v2:Int):Int→Option ((Int⊕Unit)):=
 Y9 fun s=>Xfk.B v v2 s
def Xd2 (v:List Xb):Option Int:=
 cond (decide ((v.length:Int)>10)) (some 2) ((Xfk v (v.length:Int) 0).bind fun v5=>sel v5 (fun v6=>some v6) (fun v7=>some 0))
namespace Xd2
def G:Gam:=mkG [(232,Xd8.FS)]
theorem Gok:GOk PR G:=.cons Xd8.ok .nil
end Xd2
namespace Xfk
def c:=Yaq (Yah Proofs.Tryz.f224) [1,1,0,1,0,0]
def sp:SP:=⟨[(9,.cs (.sl Xe)),(10,.cs I64),(11,.cs I64)],[]⟩
def fr:=Yi4 sp (fun x s=>Xfk.B x.1.1 x.1.2.1 s) (fun x=>x.1.2.2.1) fun x (oo0:(Int⊕Unit)) _ kk0=>sel oo0 (fun bb0=>kk0 (.rt) ⟨[(2,.cs I64 bb0)],[]⟩) (fun cc0=>kk0 (.ex 0) ⟨[],[]⟩)
theorem ok:Ya4 PR 21 1 (.loop c) fr:=
 Ytd Xf Xg h0 .no (G:=Xd2.G) Xd2.Gok (L:=mkL []) (l:=[]) hT [(0,([],[]))] ([2],[]) (fun x s=>((x.1.1,x.1.2.1,s,x.1.2.2.2),x.2))
  (fun x s=>by simp only[B,mC,mB,mS,mO,mN];kernel_rfl)
end Xfk
namespace Xd2
def pts:List PT:=[.cs (.sl Xe)]
def FS:FS:=Ybr [.sh] pts (fun x=>Xd2 x.1) fun t=>⟨[.cs I64 t],[]⟩
theorem ok:Yb5 PR 224 FS:=
 Yxj Xf Xg Proofs.Tryz.f224 h0 (.R (.R (.L (.R (.one (.fr 0)))))) (G:=G) Gok (L:=mkL [(0,Xfk.fr)]) (l:=[(0,.loop Xfk.c)]) ⟨Lam.cons Xfk.ok,trivial⟩
  (fun x=>by simp only[Xd2,mC,mB,mS,mO,mN];kernel_rfl)
end Xd2
def Xhk (v:Fs_):Option Int:=
 (Xd2 v.1).bind fun v2=>cond (v2 != 0) (some v2) (cond (cond (!((v.1.length:Int) == 0)) (inB 0 v.1.length) true) ((some (cond ((v.1.length:Int) == 0) true ((v.1.getD (0:Int).toNat Xa).1 != 2))).bind fun v3=>cond (cond v3 true ((v.2.1.length:Int) != 20)) (some 1) (some 0)) none)
namespace Xhk
def G:Gam:=mkG [(224,Xd2.FS)]
def pts:List PT:=[.cs Xj]
def FS:FS:=Ybr [.sh] pts (fun x=>Xhk x.1) fun t=>⟨[.cs I64 t],[]⟩
theorem ok:Yb5 PR 181 FS:=
 Yxj Xf Xg Proofs.Tryz.f181 ⟨[1],[],[],0⟩ .no (G:=G) (show GOk PR G from .cons Xd2.ok .nil) (L:=mkL []) (l:=[]) hT
  (fun x=>by simp only[Xhk,mC,mB,mS,mO,mN];kernel_rfl)
end Xhk
def Xjt (v:List Int):Option Bool:=
 some (decide ((v.length:Int)>8))
namespace Xjt
def pts:List PT:=[.cs SB]
def FS:FS:=Ybr [.sh] pts (fun x=>Xjt x.1) fun t=>⟨[.cs .bool t],[]⟩
theorem ok:Yb5 PR 183 FS:=
 Yxj Xf Xg Proofs.Tryz.f183 h0 .no (G:=(mkG [])) .nil (L:=mkL []) (l:=[]) hT
  (fun x=>by simp only[Xjt,mC,mB,mS,mO,mN];kernel_rfl)
end Xjt
def Xf1.B (v:List (List Int)) (v2:Unit) (v3:Int) (v4:Int):Option (Int⊕((Int⊕Unit))):=
 cond (decide (v4<v3)) (cond (inB v4 v.length) ((Xjt (v.getD v4.toNat [])).bind fun v5=>cond v5 (some (.inr (.inl v4))) (some (.inl (w64 (v4+1))))) none) (some (.inr (.inr ())))
def Xf1 (v:List (List Int)) (v2:Unit) (v3:Int):Int→Option ((Int⊕Unit)):=
 Y9 fun s=>Xf1.B v v2 v3 s
def Xfj (v:List (List Int)) (v2:Unit):Option Int:=
 (Xf1 v v2 (v.length:Int) 0).bind fun v6=>sel v6 (fun v7=>some v7) (fun v8=>some (-1))
namespace Xfj
def G:Gam:=mkG [(183,Xjt.FS)]
theorem Gok:GOk PR G:=.cons Xjt.ok .nil
end Xfj
namespace Xf1
def c:=Yaq (Yah Proofs.Tryz.f225) [1,0,1,0,0]
def sp:SP:=⟨[(0,.cs (.sl SB)),(1,.clo 183 (.cs .unit)),(7,.cs I64),(8,.cs I64)],[]⟩
def fr:=Yi4 sp (fun x s=>Xf1.B x.1.1 x.1.2.1 x.1.2.2.1 s) (fun x=>x.1.2.2.2.1) fun x (oo0:(Int⊕Unit)) _ kk0=>sel oo0 (fun bb0=>kk0 (.rt) ⟨[(4,.cs I64 bb0)],[]⟩) (fun cc0=>kk0 (.ex 0) ⟨[],[]⟩)
theorem ok:Ya4 PR 19 2 (.loop c) fr:=
 Ytd Xf Xg h0 .no (G:=Xfj.G) Xfj.Gok (L:=mkL []) (l:=[]) hT [(0,([],[]))] ([4],[]) (fun x s=>((x.1.1,x.1.2.1,x.1.2.2.1,s,x.1.2.2.2.2),x.2))
  (fun x s=>by simp only[B,mC,mB,mS,mO,mN];kernel_rfl)
end Xf1
namespace Xfj
def pts:List PT:=[.cs (.sl SB),.clo 183 (.cs .unit)]
def FS:FS:=Ybr [.sh,.sh] pts (fun x=>Xfj x.1 x.2.1) fun t=>⟨[.cs I64 t],[]⟩
theorem ok:Yb5 PR 225 FS:=
 Yxj Xf Xg Proofs.Tryz.f225 h0 (.R (.L (.R (.one (.fr 0))))) (G:=G) Gok (L:=mkL [(0,Xf1.fr)]) (l:=[(0,.loop Xf1.c)]) ⟨Lam.cons Xf1.ok,trivial⟩
  (fun x=>by simp only[Xfj,mC,mB,mS,mO,mN];kernel_rfl)
end Xfj
def Xis (v:List (List Int)) (v2:Unit):Option Bool:=
 (Xfj v v2).bind fun v3=>some (decide (v3≥0))
namespace Xis
def G:Gam:=mkG [(225,Xfj.FS)]
def pts:List PT:=[.cs (.sl SB),.clo 183 (.cs .unit)]
def FS:FS:=Ybr [.sh,.sh] pts (fun x=>Xis x.1 x.2.1) fun t=>⟨[.cs .bool t],[]⟩
theorem ok:Yb5 PR 182 FS:=
 Yxj Xf Xg Proofs.Tryz.f182 h0 .no (G:=G) (show GOk PR G from .cons Xfj.ok .nil) (L:=mkL []) (l:=[]) hT
  (fun x=>by simp only[Xis,mC,mB,mS,mO,mN];kernel_rfl)
end Xis
noncomputable def Xjv (s:List Int):Option (List Int):=Yuc s
def Xjv.FS:FS:=Ybr [.mu] [.cl .deep (.sl (.int .i64))] (fun x=>Xjv x.1) fun y=>⟨[],[.cl .deep (.sl (.int .i64)) y]⟩
theorem Xjv.ok:Yb5 Go.Proofs.Tryz.prog 210 Xjv.FS:=
 Ywv ⟨Go.Proofs.Tryz.f210,by kernel_rfl,by kernel_rfl,by kernel_rfl⟩ (fun blk off cap zs w h1 h2 h3=>Go.Proofs.AnyM.slices_Sort_int Go.Proofs.Tryz.Xom blk off cap zs w h1 h2 h3) (fun p cap w=>Go.Proofs.AnyM.slices_Sort_int_none Go.Proofs.Tryz.Xom p cap w)
def Xb9.B (v5:Nat) (v6:Nat) (v4:Int) (v7:Int) (v8:List Int):Option ((Int×Int×List Int)⊕(Int×List Int)):=
 cond (decide (v7<(v6:Int))) (cond (inB v7 v6) (cond (inB (w64 (v7-1)) v6) ((some ((v8.getD (v5+v7.toNat) 0) != (v8.getD (v5+(w64 (v7-1)).toNat) 0))).bind fun v9=>cond v9 (cond (inB v7 v6) (cond (inB v4 v8.length) (some (.inl (w64 (v4+1),w64 (v7+1),v8.set v4.toNat (v8.getD (v5+v7.toNat) 0)))) none) none) (some (.inl (v4,w64 (v7+1),v8)))) none) none) (some (.inr (v4,v8)))
def Xb9 (v5:Nat) (v6:Nat):(Int×Int×List Int)→Option (Int×List Int):=
 Y9 fun s=>Xb9.B v5 v6 s.1 s.2.1 s.2.2
def Xbe.B (v:List Int) (v2:Int):Option (Int⊕(((Nat×Nat×List Int)⊕Unit))):=
 cond (decide (v2<(v.length:Int))) (cond (inB v2 v.length) (cond (inB (w64 (v2-1)) v.length) ((some ((v.getD v2.toNat 0) == (v.getD ((w64 (v2-1)).toNat) 0))).bind fun v3=>cond v3 (cond (decide ((0:Int)≤v2)&&decide (v2≤(v.length:Int))) ((Xb9 v2.toNat (v.length-v2.toNat) (v2,1,v)).bind fun v10=>cond (decide ((0:Int)≤v10.1)&&decide (v10.1≤(v10.2.length:Int))) ((some (splice v10.2 v10.1.toNat (List.replicate (v10.2.length-v10.1.toNat) 0))).bind fun v11=>cond (decide ((0:Int)≤v10.1)&&decide (v10.1≤(v11.length:Int))) (some (.inr (.inl (0,v10.1.toNat-0,v11)))) none) none) none) (some (.inl (w64 (v2+1))))) none) none) (some (.inr (.inr ())))
def Xbe (v:List Int):Int→Option (((Nat×Nat×List Int)⊕Unit)):=
 Y9 fun s=>Xbe.B v s
def Xif (v:List Int):Option (List Int):=
 cond (decide ((v.length:Int)<2)) (some v) ((Xbe v 1).bind fun v12=>sel v12 (fun v13=>some ((v13.2.2.drop v13.1).take v13.2.1)) (fun v14=>some v))
namespace Xb9
def c:=Yaq (Yah Proofs.Tryz.f211) [1,1,0,1,0,0,1,0,0,1,0,1,0,1,0,0]
def sp:SP:=⟨[(0,.seg 0 []),(3,.cs I64),(4,.sub 0 []),(5,.cs I64)],[(0,.reg,.cd SI)]⟩
def fr:=Yi4 sp (fun x s=>Xb9.B x.1.2.2.1.2.1 x.1.2.2.1.2.2 s.1 s.2.1 s.2.2) (fun x=>(x.1.2.1,x.1.2.2.2.1,x.2.1)) fun x (bb0:Int×List Int) _ kk0=>kk0 (.ex 2) ⟨[(0,.seg 0 []),(3,.cs I64 bb0.1)],[sr 0 (.cd SI bb0.2)]⟩
theorem ok:Ya4 PR 61 1 (.loop c) fr:=
 Yw6 Xf Xg h0 [(2,([0,3],[0]))] (fun x s=>((x.1.1,s.1,x.1.2.2.1,s.2.1,x.1.2.2.2.2),(s.2.2,x.2.2)))
  (fun x s=>by simp only[B,mC,mB,mS,mO,mN];kernel_rfl)
end Xb9
namespace Xbe
def c:=Yaq (Yah Proofs.Tryz.f211) [1,1,0,1,0,0]
def sp:SP:=⟨[(0,.seg 0 []),(3,.cs I64)],[(0,.reg,.cd SI)]⟩
def fr:=Yi4 sp (fun x s=>Xbe.B x.2.1 s) (fun x=>x.1.2.1) fun x (oo0:((Nat×Nat×List Int)⊕Unit)) _ kk0=>sel oo0 (fun bb0=>kk0 (.rt) ⟨[(2,.sub 0 [] bb0.1 bb0.2.1)],[sr 0 (.cd SI bb0.2.2)]⟩) (fun cc0=>kk0 (.ex 0) ⟨[(0,.seg 0 [])],[sr 0 (.cd SI x.2.1)]⟩)
theorem ok:Ya4 PR 61 1 (.loop c) fr:=
 Ytd Xf Xg h0 (.R (.L (.one (.R (.L (.R (.L (.R (.one (.fr 1)))))))))) (G:=(mkG [])) .nil (L:=mkL [(1,Xb9.fr)]) (l:=[(1,.loop Xb9.c)]) ⟨Lam.cons Xb9.ok,trivial⟩ [(0,([0],[0]))] ([2],[0]) (fun x s=>((x.1.1,s,x.1.2.2),x.2))
  (fun x s=>by simp only[B,mC,mB,mS,mO,mN];kernel_rfl)
end Xbe
namespace Xif
def pts:List PT:=[.cd SI]
def FS:FS:=Ybr [.mv] pts (fun x=>Xif x.1) fun t=>⟨[.cd SI t],[]⟩
theorem ok:Yb5 PR 211 FS:=
 Yxj Xf Xg Proofs.Tryz.f211 h0 (.R (.R (.L (.R (.one (.fr 0)))))) (G:=(mkG [])) .nil (L:=mkL [(1,Xb9.fr),(0,Xbe.fr)]) (l:=[(0,.loop Xbe.c)]) ⟨Lam.skip rfl (Lam.cons Xbe.ok),trivial⟩
  (fun x=>by simp only[Xif,mC,mB,mS,mO,mN];kernel_rfl)
end Xif
def Xez.B (v:List Xb) (v2:Int) (v3:Int) (v4:List Int):Option ((Int×List Int)⊕(List Int)):=
 cond (decide (v3<v2)) (cond (inB v3 v.length) (cond (decide ((v4++(v.getD v3.toNat Xa).2.2.2.1).length≤2147483648)) (some (.inl (w64 (v3+1),v4++(v.getD v3.toNat Xa).2.2.2.1))) none) none) (some (.inr v4))
def Xez (v:List Xb) (v2:Int):(Int×List Int)→Option (List Int):=
 Y9 fun s=>Xez.B v v2 s.1 s.2
def Xd7 (v:List Xb):Option ((List Int)×Bool):=
 (Xez v (v.length:Int) (0,[])).bind fun v5=>(Xjv v5).bind fun v6=>(Xan v6).bind fun v7=>(Xif v7).bind fun v8=>some (v6,(v8.length:Int) == (v6.length:Int))
namespace Xd7
def G:Gam:=mkG [(210,Xjv.FS),(118,Xan.FS),(211,Xif.FS)]
theorem Gok:GOk PR G:=.cons Xjv.ok (.cons Xan.ok (.cons Xif.ok .nil))
end Xd7
namespace Xez
def c:=Yaq (Yah Proofs.Tryz.f147) [1,1,0,1,0,0]
def sp:SP:=⟨[(4,.seg 4 []),(7,.cs (.sl Xe)),(8,.cs I64),(9,.cs I64)],[(4,.reg,.cd SI)]⟩
def fr:=Yi4 sp (fun x s=>Xez.B x.1.2.1 x.1.2.2.1 s.1 s.2) (fun x=>(x.1.2.2.2.1,x.2.1)) fun x (bb0:List Int) _ kk0=>kk0 (.ex 0) ⟨[(4,.seg 4 [])],[sr 4 (.cd SI bb0)]⟩
theorem ok:Ya4 PR 28 1 (.loop c) fr:=
 Yxk Xf Xg h0 (G:=Xd7.G) Xd7.Gok [(0,([4],[4]))] (fun x s=>((x.1.1,x.1.2.1,x.1.2.2.1,s.1,x.1.2.2.2.2),(s.2,x.2.2)))
  (fun x s=>by simp only[B,mC,mB,mS,mO,mN];kernel_rfl)
end Xez
namespace Xd7
def pts:List PT:=[.cs (.sl Xe)]
def FS:FS:=Ybr [.sh] pts (fun x=>Xd7 x.1) fun t=>⟨[.cd SI t.1,.cs .bool t.2],[]⟩
theorem ok:Yb5 PR 147 FS:=
 Yxj Xf Xg Proofs.Tryz.f147 h0 (.R (.R (.L (.R (.one (.fr 0)))))) (G:=G) Gok (L:=mkL [(0,Xez.fr)]) (l:=[(0,.loop Xez.c)]) ⟨Lam.cons Xez.ok,trivial⟩
  (fun x=>by simp only[Xd7,mC,mB,mS,mO,mN];kernel_rfl)
end Xd7
def Xfo (v:List Xb):Option Int:=
 some (v.length:Int)
namespace Xfo
def pts:List PT:=[.cs (.sl Xe)]
def FS:FS:=Ybr [.sh] pts (fun x=>Xfo x.1) fun t=>⟨[.cs I64 t],[]⟩
theorem ok:Yb5 PR 184 FS:=
 Yxj Xf Xg Proofs.Tryz.f184 h0 .no (G:=(mkG [])) .nil (L:=mkL []) (l:=[]) hT
  (fun x=>by simp only[Xfo,mC,mB,mS,mO,mN];kernel_rfl)
end Xfo
end Mf
