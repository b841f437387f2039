import Derived.Test.YthaonimonnheeaaGreatCrashSyncH
import Derived.Test.YthaonimonnheeaaGreatCrashSyncJ
import Derived.Test.YthaonimonnheeaaGreatProg
import Derived.KernelRfl
import Derived.Shelf.SortM.Plain
import Derived.Shelf.SortM.SortNone
import Derived.Shelf.SlGeneric
import Derived.Ground.SlgmProg
namespace Go.Proofs
open Go.Shelf
def Tryz.Xnc:Go.Shelf.Ren:=⟨fun | 5=>210 | 8=>236 | 7=>235 | 19=>252 | 20=>253 | 10=>243 | 11=>244 | 12=>245 | 13=>246 | 14=>247 | 15=>248 | 16=>249 | 17=>250 | 18=>251 | 30=>260 | 31=>261 | 32=>262 | 33=>263 | 34=>264 | 35=>265 | 40=>266 | n=>n,fun | 23=>51 | 25=>2 | 3=>3 | 32=>258 | 22=>51 | 0=>0 | 44=>270 | 46=>272 | 4=>4 | 36=>262 | 35=>261 | 41=>267 | 5=>5 | 9=>9 | 53=>275 | 57=>279 | 63=>281 | 64=>282 | n=>n,fun | n=>n⟩
theorem Tryz.Xoa:Go.Proofs.SlLaysM.n5 Tryz.prog Tryz.Xnc:={
 mixed:=by kernel_rfl
 f5:=⟨Tryz.f210.name,by decide,Tryz.func210.trans (congrArg some (by kernel_rfl))⟩
 f7:=⟨Tryz.f235.name,by decide,Tryz.func235.trans (congrArg some (by kernel_rfl))⟩
 f8:=Tryz.func236.trans (congrArg some (by kernel_rfl))
 f10:=⟨Tryz.f243.name,by decide,Tryz.func243.trans (congrArg some (by kernel_rfl))⟩
 f11:=⟨Tryz.f244.name,by decide,Tryz.func244.trans (congrArg some (by kernel_rfl))⟩
 f12:=⟨Tryz.f245.name,by decide,Tryz.func245.trans (congrArg some (by kernel_rfl))⟩
 f13:=⟨Tryz.f246.name,by decide,Tryz.func246.trans (congrArg some (by kernel_rfl))⟩
 f14:=⟨Tryz.f247.name,by decide,Tryz.func247.trans (congrArg some (by kernel_rfl))⟩
 f15:=⟨Tryz.f248.name,by decide,Tryz.func248.trans (congrArg some (by kernel_rfl))⟩
 f16:=⟨Tryz.f249.name,by decide,Tryz.func249.trans (congrArg some (by kernel_rfl))⟩
 f17:=⟨Tryz.f250.name,by decide,Tryz.func250.trans (congrArg some (by kernel_rfl))⟩
 f18:=⟨Tryz.f251.name,by decide,Tryz.func251.trans (congrArg some (by kernel_rfl))⟩
 f19:=Tryz.func252.trans (congrArg some (by kernel_rfl))
 f20:=Tryz.func253.trans (congrArg some (by kernel_rfl))
 f30:=⟨Tryz.f260.name,by decide,Tryz.func260.trans (congrArg some (by kernel_rfl))⟩
 f31:=Tryz.func261.trans (congrArg some (by kernel_rfl))
 f32:=Tryz.func262.trans (congrArg some (by kernel_rfl))
 f33:=⟨Tryz.f263.name,by decide,Tryz.func263.trans (congrArg some (by kernel_rfl))⟩
 f34:=⟨Tryz.f264.name,by decide,Tryz.func264.trans (congrArg some (by kernel_rfl))⟩
 f35:=⟨Tryz.f265.name,by decide,Tryz.func265.trans (congrArg some (by kernel_rfl))⟩
 f40:=⟨Tryz.f266.name,by decide,Tryz.func266.trans (congrArg some (by kernel_rfl))⟩
 t0:=Tryz.underlying0
 a0:=Tryz.isAgg0
 z0:=Tryz.sizeOf0
 v0:=Tryz.zeroValue0
 t3:=Tryz.underlying3
 a3:=Tryz.isAgg3
 z3:=Tryz.sizeOf3
 v3:=Tryz.zeroValue3
 t4:=Tryz.underlying4
 a4:=Tryz.isAgg4
 z4:=Tryz.sizeOf4
 v4:=Tryz.zeroValue4
 t5:=Tryz.underlying5
 a5:=Tryz.isAgg5
 z5:=Tryz.sizeOf5
 v5:=Tryz.zeroValue5
 t9:=Tryz.underlying9
 a9:=Tryz.isAgg9
 z9:=Tryz.sizeOf9
 v9:=Tryz.zeroValue9
 t22:=Tryz.underlying51
 a22:=Tryz.isAgg51
 z22:=Tryz.sizeOf51
 v22:=Tryz.zeroValue51
 t23:=Tryz.underlying51
 a23:=Tryz.isAgg51
 z23:=Tryz.sizeOf51
 v23:=Tryz.zeroValue51
 t25:=Tryz.underlying2
 a25:=Tryz.isAgg2
 z25:=Tryz.sizeOf2
 v25:=Tryz.zeroValue2
 t32:=Tryz.underlying258
 a32:=Tryz.isAgg258
 z32:=Tryz.sizeOf258
 v32:=Tryz.zeroValue258
 t35:=Tryz.underlying261
 a35:=Tryz.isAgg261
 z35:=Tryz.sizeOf261
 v35:=Tryz.zeroValue261
 t36:=Tryz.underlying262
 a36:=Tryz.isAgg262
 z36:=Tryz.sizeOf262
 v36:=Tryz.zeroValue262
 t41:=Tryz.underlying267
 a41:=Tryz.isAgg267
 z41:=Tryz.sizeOf267
 v41:=Tryz.zeroValue267
 t44:=Tryz.underlying270
 a44:=Tryz.isAgg270
 z44:=Tryz.sizeOf270
 v44:=Tryz.zeroValue270
 t46:=Tryz.underlying272
 a46:=Tryz.isAgg272
 z46:=Tryz.sizeOf272
 v46:=Tryz.zeroValue272
 t53:=Tryz.underlying275
 a53:=Tryz.isAgg275
 z53:=Tryz.sizeOf275
 v53:=Tryz.zeroValue275
 t57:=Tryz.underlying279
 a57:=Tryz.isAgg279
 z57:=Tryz.sizeOf279
 v57:=Tryz.zeroValue279
 t63:=Tryz.underlying281
 a63:=Tryz.isAgg281
 z63:=Tryz.sizeOf281
 v63:=Tryz.zeroValue281
 t64:=Tryz.underlying282
 a64:=Tryz.isAgg282
 z64:=Tryz.sizeOf282
 v64:=Tryz.zeroValue282 }
end Go.Proofs
noncomputable section
namespace Mf
open Go
set_option linter.unusedVariables false
set_option linter.unusedSimpArgs false
set_option maxRecDepth 100000
abbrev Xl:Ty:=(.pair (.int .i64) (.pair (.sl (.int .i64)) .unit))
abbrev Xj:Type:=Int×(List Int)×Unit
def Xt:Xj:=(0,[],())
abbrev Xh:Ty:=(.pair (.sl (.sl (.int .i64))) (.pair (.sl Xl) .unit))
abbrev Xd:Type:=(List (List Int))×(List Xj)×Unit
def Xuq:Xd:=([],[],())
abbrev Xx:Ty:=(.pair .bool Xl)
abbrev Xr:Type:=Bool×Xj
def Xhy:Xr:=(false,0,[],())
abbrev Xi:Ty:=(.pair .str (.pair (.int .i64) .unit))
abbrev Xg:Type:=(List UInt8)×Int×Unit
def Xm:Xg:=([],0,())
abbrev Xb:Ty:=(.pair (.int .i64) (.pair (.int .i64) (.pair (.int .i64) (.pair (.sl (.int .i64)) (.pair (.sl Xi) .unit)))))
abbrev Xa:Type:=Int×Int×Int×(List Int)×(List Xg)×Unit
def Xc:Xa:=(0,0,0,[],[],())
abbrev Xo:Ty:=(.pair (.sl Xb) (.pair (.sl (.sl (.int .u8))) .unit))
abbrev Fs_:Type:=(List Xa)×(List (List Int))×Unit
def Xu1:Fs_:=([],[],())
abbrev Xp:Ty:=(.pair Xh (.pair Xo (.pair Xo .unit)))
abbrev Xz:Type:=Xd×Fs_×Fs_×Unit
def Xup:Xz:=(([],[],()),([],[],()),([],[],()),())
abbrev Xft:Ty:=(.pair (.int .i64) (.pair (.int .i64) (.pair (.int .i64) (.pair (.sl (.int .u8)) (.pair (.sl .str) (.pair Xo .unit))))))
abbrev Xkx:Type:=Int×Int×Int×(List Int)×(List (List UInt8))×Fs_×Unit
def Xql:Xkx:=(0,0,0,[],[],([],[],()),())
abbrev Xk:Ty:=(.pair (.int .i64) (.pair Xh .unit))
abbrev Xn:Type:=Int×Xd×Unit
def Xqh:Xn:=(0,([],[],()),())
abbrev Xbf:Ty:=(.pair (.int .i64) (.pair Xo .unit))
abbrev Xa6:Type:=Int×Fs_×Unit
def Xrl:Xa6:=(0,([],[],()),())
abbrev Xg2:Ty:=(.pair (.int .i64) (.pair (.int .i64) .unit))
abbrev Xlp:Type:=Int×Int×Unit
def Xq0:Xlp:=(0,0,())
abbrev Xbj:Ty:=(.pair (.int .i64) (.pair (.sl Xx) .unit))
abbrev Xfn:Type:=Int×(List Xr)×Unit
def Xqc:Xfn:=(0,[],())
abbrev Xhm:Ty:=(.pair (.int .i64) (.pair Xft (.pair Xp .unit)))
abbrev Xmu:Type:=Int×Xkx×Xz×Unit
def Xqd:Xmu:=(0,(0,0,0,[],[],([],[],()),()),(([],[],()),([],[],()),([],[],()),()),())
abbrev Xpa:Ty:=(.pair Xo (.pair (.sl .bool) (.pair (.sl (.sl Xi)) (.pair (.int .i64) (.pair (.sl (.int .i64)) (.pair (.sl (.int .i64)) .unit))))))
abbrev Xsy:Type:=Fs_×(List Bool)×(List (List Xg))×Int×(List Int)×(List Int)×Unit
def Xuu:Xsy:=(([],[],()),[],[],0,[],[],())
abbrev Xho:Ty:=(.pair (.int .i64) (.pair (.int .i64) (.pair .bool (.pair (.int .u8) .unit))))
abbrev Xmw:Type:=Int×Int×Bool×Int×Unit
def Xqe:Xmw:=(0,0,false,0,())
abbrev Xbr:Ty:=(.pair .str (.pair (.int .u64) .unit))
abbrev Xhc:Type:=(List UInt8)×Int×Unit
def Xng:Xhc:=([],0,())
abbrev PR:Program:=Go.Proofs.Tryz.prog
def tb:Tb:=[(2,⟨.int .i64,(.int .i64),8⟩),(3,⟨.int .i64,(.int .i64),8⟩),(4,⟨.bool,.bool,1⟩),(5,⟨.int .u8,(.int .u8),1⟩),(6,⟨.int .u8,(.int .u8),1⟩),(7,⟨.st [0,1,2,3],Xho,24⟩),(8,⟨.st [0,1,2,3],Xho,24⟩),(9,⟨.str,.str,16⟩),(10,⟨.str,.str,16⟩),(11,⟨.str,.str,16⟩),(12,⟨.int .u64,(.int .u64),8⟩),(13,⟨.st [0,1],Xbr,24⟩),(14,⟨.st [0,1],Xbr,24⟩),(21,⟨.int .i32,(.int .i32),4⟩),(22,⟨.sl 51,(.sl (.sl (.int .i64))),24⟩),(23,⟨.sl 133,(.sl Xl),24⟩),(24,⟨.st [0,1],Xh,48⟩),(25,⟨.st [0,1],Xh,48⟩),(26,⟨.sl 137,(.sl Xb),24⟩),(27,⟨.sl 76,(.sl (.sl (.int .u8))),24⟩),(28,⟨.st [0,1],Xo,48⟩),(29,⟨.st [0,1],Xo,48⟩),(32,⟨.sl 147,(.sl Xx),24⟩),(33,⟨.st [0,1],Xbj,32⟩),(34,⟨.st [0,1],Xbj,32⟩),(36,⟨.sl 148,(.sl Xl),24⟩),(37,⟨.st [0,1],Xh,48⟩),(38,⟨.st [0,1],Xh,48⟩),(40,⟨.sl 154,(.sl Xb),24⟩),(41,⟨.st [0,1],Xo,48⟩),(42,⟨.st [0,1],Xo,48⟩),(51,⟨.sl 2,(.sl (.int .i64)),24⟩),(52,⟨.st [0,1],Xl,32⟩),(53,⟨.st [0,1],Xl,32⟩),(58,⟨.st [0,2,4],Xp,144⟩),(59,⟨.st [0,2,4],Xp,144⟩),(60,⟨.sl 4,(.sl .bool),24⟩),(62,⟨.st [0,1],Xk,56⟩),(63,⟨.st [0,1],Xk,56⟩),(65,⟨.st [0,2,4],Xp,144⟩),(66,⟨.st [0,2,4],Xp,144⟩),(76,⟨.sl 5,(.sl (.int .u8)),24⟩),(77,⟨.sl 9,(.sl .str),24⟩),(78,⟨.st [0,1,2,3,4,5],Xft,120⟩),(79,⟨.st [0,1,2,3,4,5],Xft,120⟩),(80,⟨.st [0,1,8],Xhm,272⟩),(81,⟨.st [0,1,8],Xhm,272⟩),(90,⟨.st [0,1],Xg2,16⟩),(91,⟨.st [0,1],Xg2,16⟩),(132,⟨.st [0,1],Xl,32⟩),(133,⟨.st [0,1],Xl,32⟩),(135,⟨.sl 245,(.sl Xi),24⟩),(136,⟨.st [0,1,2,3,4],Xb,72⟩),(137,⟨.st [0,1,2,3,4],Xb,72⟩),(146,⟨.st [0,1,2],Xx,40⟩),(147,⟨.st [0,1,2],Xx,40⟩),(148,⟨.st [0,1],Xl,32⟩),(152,⟨.sl 200,(.sl Xi),24⟩),(153,⟨.st [0,1,2,3,4],Xb,72⟩),(154,⟨.st [0,1,2,3,4],Xb,72⟩),(170,⟨.st [0,1],Xbf,56⟩),(171,⟨.st [0,1],Xbf,56⟩),(180,⟨.sl 152,(.sl (.sl Xi)),24⟩),(181,⟨.st [0,2,3,4,5,6],Xpa,152⟩),(182,⟨.st [0,2,3,4,5,6],Xpa,152⟩),(184,⟨.arr 20 2,(.arr 20 (.int .i64)),160⟩),(199,⟨.st [0,1],Xi,24⟩),(200,⟨.st [0,1],Xi,0⟩),(218,⟨.sl 32,(.sl (.sl Xx)),24⟩),(245,⟨.st [0,1],Xi,24⟩),(258,⟨.int .u64,(.int .u64),8⟩),(261,⟨.int .i64,(.int .i64),8⟩),(270,⟨.int .u32,(.int .u32),4⟩),(272,⟨.int .u64,(.int .u64),8⟩),(275,⟨.int .u64,(.int .u64),8⟩),(291,⟨.int .u8,(.int .u8),1⟩),(292,⟨.int .u8,(.int .u8),1⟩),(295,⟨.int .i32,(.int .i32),4⟩),(296,⟨.int .i32,(.int .i32),4⟩)]
theorem Xe:Yag Go.Proofs.Tryz.prog tb:=Yxi (by kernel_rfl)
theorem Xf:Go.Proofs.Tryz.prog.follows .mixedOrders=true:=by kernel_rfl
def Zq0 (a:List Int) (left:Int):Option Int:=
 cond (decide ((w64 (left-(a.length:Int)))<0)) (some (-1)) (some (w64 (left-(a.length:Int))))
namespace Zq0
def pts:List PT:=[.cs SI,.cs I64]
def FS:FS:=Ybk [.sh,.sh] pts (fun x=>Zq0 x.1 x.2.1) fun t=>⟨[.cs I64 t],[]⟩
theorem ok:Yb2 PR 89 FS:=
 Yxn Xe Xf Proofs.Tryz.f89 h0 .no (G:=(mkG [])) .nil (L:=mkL []) (l:=[]) hT
  (fun x=>by simp only[Zq0,mC,mB,mS,mO,mN];kernel_rfl)
end Zq0
def Zq1.B (a:List (List Int)) (left_:Int) (i_:Int):Option ((Int×Int)⊕((Int⊕Int))):=
 cond (decide (i_<(a.length:Int))) (cond (inB i_ a.length) ((Zq0 (a.getD i_.toNat []) left_).bind fun r=>cond (decide (r<0)) (some (.inr (.inl (-1)))) (some (.inl (r,w64 (i_+1))))) none) (some (.inr (.inr left_)))
def Zq1 (a:List (List Int)):(Int×Int)→Option ((Int⊕Int)):=
 Y9 fun s=>Zq1.B a s.1 s.2
def Zq2 (a:List (List Int)) (left:Int):Option Int:=
 cond (decide ((w64 (left-(a.length:Int)))<0)) (some (-1)) ((Zq1 a (w64 (left-(a.length:Int)),0)).bind fun o=>sel o (fun b=>some b) (fun c=>some c))
namespace Zq2
def G:Gam:=mkG [(89,Zq0.FS)]
theorem Gok:GOk PR G:=.cons Zq0.ok .nil
end Zq2
namespace Zq1
def c:=Yap (Yaf Proofs.Tryz.f42) [1,1,1,0,1,0,0]
def sp:SP:=⟨[(0,.cs (.sl SI)),(1,.cs I64),(5,.cs I64)],[]⟩
def fr:=Yja sp (fun x s=>Zq1.B x.1.1 s.1 s.2) (fun x=>(x.1.2.1,x.1.2.2.1)) fun x (oo0:(Int⊕Int)) _ kk0=>sel oo0 (fun bb0=>kk0 (.rt) ⟨[(4,.cs I64 bb0)],[]⟩) (fun cc0=>kk0 (.ex 0) ⟨[(1,.cs I64 cc0)],[]⟩)
theorem ok:Ya7 PR 27 2 (.loop c) fr:=
 Yt2 Xe Xf h0 .no (G:=Zq2.G) Zq2.Gok (L:=mkL []) (l:=[]) hT [(0,([1],[]))] ([4],[]) (fun x s=>((x.1.1,s.1,s.2,x.1.2.2.2),x.2))
  (fun x s=>by simp only[B,mC,mB,mS,mO,mN];kernel_rfl)
end Zq1
namespace Zq2
def pts:List PT:=[.cs (.sl SI),.cs I64]
def FS:FS:=Ybk [.sh,.sh] pts (fun x=>Zq2 x.1 x.2.1) fun t=>⟨[.cs I64 t],[]⟩
theorem ok:Yb2 PR 42 FS:=
 Yxn Xe Xf Proofs.Tryz.f42 h0 (.R (.R (.R (.L (.R (.one (.fr 0))))))) (G:=G) Gok (L:=mkL [(0,Zq1.fr)]) (l:=[(0,.loop Zq1.c)]) ⟨Lam.cons Zq1.ok,trivial⟩
  (fun x=>by simp only[Zq2,mC,mB,mS,mO,mN];kernel_rfl)
end Zq2
def Zq3 (a:Xj) (left:Int):Option Int:=
 (Zq0 a.2.1 left).bind fun r=>cond (decide (r<0)) (some (-1)) (some r)
namespace Zq3
def G:Gam:=mkG [(89,Zq0.FS)]
def pts:List PT:=[.cs Xl,.cs I64]
def FS:FS:=Ybk [.sh,.sh] pts (fun x=>Zq3 x.1 x.2.1) fun t=>⟨[.cs I64 t],[]⟩
theorem ok:Yb2 PR 90 FS:=
 Yxn Xe Xf Proofs.Tryz.f90 ⟨[2],[],[],0⟩ .no (G:=G) (show GOk PR G from .cons Zq0.ok .nil) (L:=mkL []) (l:=[]) hT
  (fun x=>by simp only[Zq3,mC,mB,mS,mO,mN];kernel_rfl)
end Zq3
def Zq4.B (a:List Xj) (left_:Int) (i_:Int):Option ((Int×Int)⊕((Int⊕Int))):=
 cond (decide (i_<(a.length:Int))) (cond (inB i_ a.length) ((Zq3 (a.getD i_.toNat Xt) left_).bind fun r=>cond (decide (r<0)) (some (.inr (.inl (-1)))) (some (.inl (r,w64 (i_+1))))) none) (some (.inr (.inr left_)))
def Zq4 (a:List Xj):(Int×Int)→Option ((Int⊕Int)):=
 Y9 fun s=>Zq4.B a s.1 s.2
def Zq5 (a:List Xj) (left:Int):Option Int:=
 cond (decide ((w64 (left-(a.length:Int)))<0)) (some (-1)) ((Zq4 a (w64 (left-(a.length:Int)),0)).bind fun o=>sel o (fun b=>some b) (fun c=>some c))
namespace Zq5
def G:Gam:=mkG [(90,Zq3.FS)]
theorem Gok:GOk PR G:=.cons Zq3.ok .nil
end Zq5
namespace Zq4
def c:=Yap (Yaf Proofs.Tryz.f43) [1,1,1,0,1,0,0]
def sp:SP:=⟨[(0,.cs (.sl Xl)),(1,.cs I64),(5,.cs I64)],[]⟩
def fr:=Yja sp (fun x s=>Zq4.B x.1.1 s.1 s.2) (fun x=>(x.1.2.1,x.1.2.2.1)) fun x (oo0:(Int⊕Int)) _ kk0=>sel oo0 (fun bb0=>kk0 (.rt) ⟨[(4,.cs I64 bb0)],[]⟩) (fun cc0=>kk0 (.ex 0) ⟨[(1,.cs I64 cc0)],[]⟩)
theorem ok:Ya7 PR 27 2 (.loop c) fr:=
 Yt2 Xe Xf h0 .no (G:=Zq5.G) Zq5.Gok (L:=mkL []) (l:=[]) hT [(0,([1],[]))] ([4],[]) (fun x s=>((x.1.1,s.1,s.2,x.1.2.2.2),x.2))
  (fun x s=>by simp only[B,mC,mB,mS,mO,mN];kernel_rfl)
end Zq4
namespace Zq5
def pts:List PT:=[.cs (.sl Xl),.cs I64]
def FS:FS:=Ybk [.sh,.sh] pts (fun x=>Zq5 x.1 x.2.1) fun t=>⟨[.cs I64 t],[]⟩
theorem ok:Yb2 PR 43 FS:=
 Yxn Xe Xf Proofs.Tryz.f43 h0 (.R (.R (.R (.L (.R (.one (.fr 0))))))) (G:=G) Gok (L:=mkL [(0,Zq4.fr)]) (l:=[(0,.loop Zq4.c)]) ⟨Lam.cons Zq4.ok,trivial⟩
  (fun x=>by simp only[Zq5,mC,mB,mS,mO,mN];kernel_rfl)
end Zq5
def Zq6 (a:Xd) (left:Int):Option Int:=
 (Zq2 a.1 left).bind fun r=>cond (decide (r<0)) (some (-1)) ((Zq5 a.2.1 r).bind fun r2=>cond (decide (r2<0)) (some (-1)) (some r2))
namespace Zq6
def G:Gam:=mkG [(42,Zq2.FS),(43,Zq5.FS)]
def pts:List PT:=[.cs Xh,.cs I64]
def FS:FS:=Ybk [.sh,.sh] pts (fun x=>Zq6 x.1 x.2.1) fun t=>⟨[.cs I64 t],[]⟩
theorem ok:Yb2 PR 7 FS:=
 Yxn Xe Xf Proofs.Tryz.f7 ⟨[2],[],[],0⟩ .no (G:=G) (show GOk PR G from .cons Zq2.ok (.cons Zq5.ok .nil)) (L:=mkL []) (l:=[]) hT
  (fun x=>by simp only[Zq6,mC,mB,mS,mO,mN];kernel_rfl)
end Zq6
def Zq7 (a:Xg) (left:Int):Option Int:=
 cond (decide ((w64 (left-(a.1.length:Int)))<0)) (some (-1)) (some (w64 (left-(a.1.length:Int))))
namespace Zq7
def pts:List PT:=[.cs Xi,.cs I64]
def FS:FS:=Ybk [.sh,.sh] pts (fun x=>Zq7 x.1 x.2.1) fun t=>⟨[.cs I64 t],[]⟩
theorem ok:Yb2 PR 219 FS:=
 Yxn Xe Xf Proofs.Tryz.f219 ⟨[2],[],[],0⟩ .no (G:=(mkG [])) .nil (L:=mkL []) (l:=[]) hT
  (fun x=>by simp only[Zq7,mC,mB,mS,mO,mN];kernel_rfl)
end Zq7
def Zq8.B (a:List Xg) (left_:Int) (i_:Int):Option ((Int×Int)⊕((Int⊕Int))):=
 cond (decide (i_<(a.length:Int))) (cond (inB i_ a.length) ((Zq7 (a.getD i_.toNat Xm) left_).bind fun r=>cond (decide (r<0)) (some (.inr (.inl (-1)))) (some (.inl (r,w64 (i_+1))))) none) (some (.inr (.inr left_)))
def Zq8 (a:List Xg):(Int×Int)→Option ((Int⊕Int)):=
 Y9 fun s=>Zq8.B a s.1 s.2
def Zq9 (a:List Xg) (left:Int):Option Int:=
 cond (decide ((w64 (left-(a.length:Int)))<0)) (some (-1)) ((Zq8 a (w64 (left-(a.length:Int)),0)).bind fun o=>sel o (fun b=>some b) (fun c=>some c))
namespace Zq9
def G:Gam:=mkG [(219,Zq7.FS)]
theorem Gok:GOk PR G:=.cons Zq7.ok .nil
end Zq9
namespace Zq8
def c:=Yap (Yaf Proofs.Tryz.f167) [1,1,1,0,1,0,0]
def sp:SP:=⟨[(0,.cs (.sl Xi)),(1,.cs I64),(5,.cs I64)],[]⟩
def fr:=Yja sp (fun x s=>Zq8.B x.1.1 s.1 s.2) (fun x=>(x.1.2.1,x.1.2.2.1)) fun x (oo0:(Int⊕Int)) _ kk0=>sel oo0 (fun bb0=>kk0 (.rt) ⟨[(4,.cs I64 bb0)],[]⟩) (fun cc0=>kk0 (.ex 0) ⟨[(1,.cs I64 cc0)],[]⟩)
theorem ok:Ya7 PR 27 2 (.loop c) fr:=
 Yt2 Xe Xf h0 .no (G:=Zq9.G) Zq9.Gok (L:=mkL []) (l:=[]) hT [(0,([1],[]))] ([4],[]) (fun x s=>((x.1.1,s.1,s.2,x.1.2.2.2),x.2))
  (fun x s=>by simp only[B,mC,mB,mS,mO,mN];kernel_rfl)
end Zq8
namespace Zq9
def pts:List PT:=[.cs (.sl Xi),.cs I64]
def FS:FS:=Ybk [.sh,.sh] pts (fun x=>Zq9 x.1 x.2.1) fun t=>⟨[.cs I64 t],[]⟩
theorem ok:Yb2 PR 167 FS:=
 Yxn Xe Xf Proofs.Tryz.f167 h0 (.R (.R (.R (.L (.R (.one (.fr 0))))))) (G:=G) Gok (L:=mkL [(0,Zq8.fr)]) (l:=[(0,.loop Zq8.c)]) ⟨Lam.cons Zq8.ok,trivial⟩
  (fun x=>by simp only[Zq9,mC,mB,mS,mO,mN];kernel_rfl)
end Zq9
def Xm1 (a:Xa) (left:Int):Option Int:=
 (Zq0 a.2.2.2.1 left).bind fun r=>cond (decide (r<0)) (some (-1)) ((Zq9 a.2.2.2.2.1 r).bind fun r2=>cond (decide (r2<0)) (some (-1)) (some r2))
namespace Xm1
def G:Gam:=mkG [(89,Zq0.FS),(167,Zq9.FS)]
def pts:List PT:=[.cs Xb,.cs I64]
def FS:FS:=Ybk [.sh,.sh] pts (fun x=>Xm1 x.1 x.2.1) fun t=>⟨[.cs I64 t],[]⟩
theorem ok:Yb2 PR 91 FS:=
 Yxn Xe Xf Proofs.Tryz.f91 ⟨[2],[],[],0⟩ .no (G:=G) (show GOk PR G from .cons Zq0.ok (.cons Zq9.ok .nil)) (L:=mkL []) (l:=[]) hT
  (fun x=>by simp only[Xm1,mC,mB,mS,mO,mN];kernel_rfl)
end Xm1
def Xj9.B (a:List Xa) (left_:Int) (i_:Int):Option ((Int×Int)⊕((Int⊕Int))):=
 cond (decide (i_<(a.length:Int))) (cond (inB i_ a.length) ((Xm1 (a.getD i_.toNat Xc) left_).bind fun r=>cond (decide (r<0)) (some (.inr (.inl (-1)))) (some (.inl (r,w64 (i_+1))))) none) (some (.inr (.inr left_)))
def Xj9 (a:List Xa):(Int×Int)→Option ((Int⊕Int)):=
 Y9 fun s=>Xj9.B a s.1 s.2
def Xjn (a:List Xa) (left:Int):Option Int:=
 cond (decide ((w64 (left-(a.length:Int)))<0)) (some (-1)) ((Xj9 a (w64 (left-(a.length:Int)),0)).bind fun o=>sel o (fun b=>some b) (fun c=>some c))
namespace Xjn
def G:Gam:=mkG [(91,Xm1.FS)]
theorem Gok:GOk PR G:=.cons Xm1.ok .nil
end Xjn
namespace Xj9
def c:=Yap (Yaf Proofs.Tryz.f44) [1,1,1,0,1,0,0]
def sp:SP:=⟨[(0,.cs (.sl Xb)),(1,.cs I64),(5,.cs I64)],[]⟩
def fr:=Yja sp (fun x s=>Xj9.B x.1.1 s.1 s.2) (fun x=>(x.1.2.1,x.1.2.2.1)) fun x (oo0:(Int⊕Int)) _ kk0=>sel oo0 (fun bb0=>kk0 (.rt) ⟨[(4,.cs I64 bb0)],[]⟩) (fun cc0=>kk0 (.ex 0) ⟨[(1,.cs I64 cc0)],[]⟩)
theorem ok:Ya7 PR 27 2 (.loop c) fr:=
 Yt2 Xe Xf h0 .no (G:=Xjn.G) Xjn.Gok (L:=mkL []) (l:=[]) hT [(0,([1],[]))] ([4],[]) (fun x s=>((x.1.1,s.1,s.2,x.1.2.2.2),x.2))
  (fun x s=>by simp only[B,mC,mB,mS,mO,mN];kernel_rfl)
end Xj9
namespace Xjn
def pts:List PT:=[.cs (.sl Xb),.cs I64]
def FS:FS:=Ybk [.sh,.sh] pts (fun x=>Xjn x.1 x.2.1) fun t=>⟨[.cs I64 t],[]⟩
theorem ok:Yb2 PR 44 FS:=
 Yxn Xe Xf Proofs.Tryz.f44 h0 (.R (.R (.R (.L (.R (.one (.fr 0))))))) (G:=G) Gok (L:=mkL [(0,Xj9.fr)]) (l:=[(0,.loop Xj9.c)]) ⟨Lam.cons Xj9.ok,trivial⟩
  (fun x=>by simp only[Xjn,mC,mB,mS,mO,mN];kernel_rfl)
end Xjn
def Xm4 (a:List Int) (left:Int):Option Int:=
 cond (decide ((w64 (left-(a.length:Int)))<0)) (some (-1)) (some (w64 (left-(a.length:Int))))
namespace Xm4
def pts:List PT:=[.cs SB,.cs I64]
def FS:FS:=Ybk [.sh,.sh] pts (fun x=>Xm4 x.1 x.2.1) fun t=>⟨[.cs I64 t],[]⟩
theorem ok:Yb2 PR 92 FS:=
 Yxn Xe Xf Proofs.Tryz.f92 h0 .no (G:=(mkG [])) .nil (L:=mkL []) (l:=[]) hT
  (fun x=>by simp only[Xm4,mC,mB,mS,mO,mN];kernel_rfl)
end Xm4
def Xju.B (a:List (List Int)) (left_:Int) (i_:Int):Option ((Int×Int)⊕((Int⊕Int))):=
 cond (decide (i_<(a.length:Int))) (cond (inB i_ a.length) ((Xm4 (a.getD i_.toNat []) left_).bind fun r=>cond (decide (r<0)) (some (.inr (.inl (-1)))) (some (.inl (r,w64 (i_+1))))) none) (some (.inr (.inr left_)))
def Xju (a:List (List Int)):(Int×Int)→Option ((Int⊕Int)):=
 Y9 fun s=>Xju.B a s.1 s.2
def Xkf (a:List (List Int)) (left:Int):Option Int:=
 cond (decide ((w64 (left-(a.length:Int)))<0)) (some (-1)) ((Xju a (w64 (left-(a.length:Int)),0)).bind fun o=>sel o (fun b=>some b) (fun c=>some c))
namespace Xkf
def G:Gam:=mkG [(92,Xm4.FS)]
theorem Gok:GOk PR G:=.cons Xm4.ok .nil
end Xkf
namespace Xju
def c:=Yap (Yaf Proofs.Tryz.f45) [1,1,1,0,1,0,0]
def sp:SP:=⟨[(0,.cs (.sl SB)),(1,.cs I64),(5,.cs I64)],[]⟩
def fr:=Yja sp (fun x s=>Xju.B x.1.1 s.1 s.2) (fun x=>(x.1.2.1,x.1.2.2.1)) fun x (oo0:(Int⊕Int)) _ kk0=>sel oo0 (fun bb0=>kk0 (.rt) ⟨[(4,.cs I64 bb0)],[]⟩) (fun cc0=>kk0 (.ex 0) ⟨[(1,.cs I64 cc0)],[]⟩)
theorem ok:Ya7 PR 27 2 (.loop c) fr:=
 Yt2 Xe Xf h0 .no (G:=Xkf.G) Xkf.Gok (L:=mkL []) (l:=[]) hT [(0,([1],[]))] ([4],[]) (fun x s=>((x.1.1,s.1,s.2,x.1.2.2.2),x.2))
  (fun x s=>by simp only[B,mC,mB,mS,mO,mN];kernel_rfl)
end Xju
namespace Xkf
def pts:List PT:=[.cs (.sl SB),.cs I64]
def FS:FS:=Ybk [.sh,.sh] pts (fun x=>Xkf x.1 x.2.1) fun t=>⟨[.cs I64 t],[]⟩
theorem ok:Yb2 PR 45 FS:=
 Yxn Xe Xf Proofs.Tryz.f45 h0 (.R (.R (.R (.L (.R (.one (.fr 0))))))) (G:=G) Gok (L:=mkL [(0,Xju.fr)]) (l:=[(0,.loop Xju.c)]) ⟨Lam.cons Xju.ok,trivial⟩
  (fun x=>by simp only[Xkf,mC,mB,mS,mO,mN];kernel_rfl)
end Xkf
def Xl3 (a:Fs_) (left:Int):Option Int:=
 (Xjn a.1 left).bind fun r=>cond (decide (r<0)) (some (-1)) ((Xkf a.2.1 r).bind fun r2=>cond (decide (r2<0)) (some (-1)) (some r2))
namespace Xl3
def G:Gam:=mkG [(44,Xjn.FS),(45,Xkf.FS)]
def pts:List PT:=[.cs Xo,.cs I64]
def FS:FS:=Ybk [.sh,.sh] pts (fun x=>Xl3 x.1 x.2.1) fun t=>⟨[.cs I64 t],[]⟩
theorem ok:Yb2 PR 8 FS:=
 Yxn Xe Xf Proofs.Tryz.f8 ⟨[2],[],[],0⟩ .no (G:=G) (show GOk PR G from .cons Xjn.ok (.cons Xkf.ok .nil)) (L:=mkL []) (l:=[]) hT
  (fun x=>by simp only[Xl3,mC,mB,mS,mO,mN];kernel_rfl)
end Xl3
def Xm6 (a:Xz) (left:Int):Option Int:=
 (Zq6 a.1 left).bind fun r=>cond (decide (r<0)) (some (-1)) ((Xl3 a.2.1 r).bind fun r2=>cond (decide (r2<0)) (some (-1)) ((Xl3 a.2.2.1 r2).bind fun r3=>cond (decide (r3<0)) (some (-1)) (some r3)))
namespace Xm6
def G:Gam:=mkG [(7,Zq6.FS),(8,Xl3.FS)]
def pts:List PT:=[.cs Xp,.cs I64]
def FS:FS:=Ybk [.sh,.sh] pts (fun x=>Xm6 x.1 x.2.1) fun t=>⟨[.cs I64 t],[]⟩
theorem ok:Yb2 PR 25 FS:=
 Yxn Xe Xf Proofs.Tryz.f25 ⟨[2],[],[],0⟩ .no (G:=G) (show GOk PR G from .cons Zq6.ok (.cons Xl3.ok .nil)) (L:=mkL []) (l:=[]) hT
  (fun x=>by simp only[Xm6,mC,mB,mS,mO,mN];kernel_rfl)
end Xm6
def Xjr.B (a:List Int) (i_:Int) (out_:List Int):Option ((Int×List Int)⊕(List Int)):=
 cond (decide (i_<(a.length:Int))) (cond (inB i_ a.length) (cond (inB i_ out_.length) (some (.inl (w64 (i_+1),out_.set i_.toNat (a.getD i_.toNat 0)))) none) none) (some (.inr out_))
def Xjr (a:List Int):(Int×List Int)→Option (List Int):=
 Y9 fun s=>Xjr.B a s.1 s.2
def Xhs (a:List Int):Option (List Int):=
 cond (decide ((0:Int)≤(a.length:Int))&&(decide ((a.length:Int)≤(a.length:Int))&&decide ((a.length:Int)≤2147483648))) ((Xjr a (0,List.replicate (a.length:Int).toNat 0)).bind fun o=>some o) none
namespace Xjr
def c:=Yap (Yaf Proofs.Tryz.f105) [1,1,0,1,0,0]
def sp:SP:=⟨[(0,.cs SI),(3,.seg 3 []),(4,.cs I64)],[(3,.reg,.cd SI)]⟩
def fr:=Yja sp (fun x s=>Xjr.B x.1.1 s.1 s.2) (fun x=>(x.1.2.2.1,x.2.1)) fun x (bb0:List Int) _ kk0=>kk0 (.ex 0) ⟨[(3,.seg 3 [])],[sr 3 (.cd SI bb0)]⟩
theorem ok:Ya7 PR 22 1 (.loop c) fr:=
 Yxd Xe Xf h0 [(0,([3],[3]))] (fun x s=>((x.1.1,x.1.2.1,s.1,x.1.2.2.2),(s.2,x.2.2)))
  (fun x s=>by simp only[B,mC,mB,mS,mO,mN];kernel_rfl)
end Xjr
namespace Xhs
def pts:List PT:=[.cs SI]
def FS:FS:=Ybk [.sh] pts (fun x=>Xhs x.1) fun t=>⟨[.cd SI t],[]⟩
theorem ok:Yb2 PR 105 FS:=
 Yxn Xe Xf Proofs.Tryz.f105 h0 (.R (.R (.L (.R (.one (.fr 0)))))) (G:=(mkG [])) .nil (L:=mkL [(0,Xjr.fr)]) (l:=[(0,.loop Xjr.c)]) ⟨Lam.cons Xjr.ok,trivial⟩
  (fun x=>by simp only[Xhs,mC,mB,mS,mO,mN];kernel_rfl)
end Xhs
def Xjx.B (a:List (List Int)) (i_:Int) (out_:List (List Int)):Option ((Int×List (List Int))⊕(List (List Int))):=
 cond (decide (i_<(a.length:Int))) (cond (inB i_ a.length) ((Xhs (a.getD i_.toNat [])).bind fun r=>cond (inB i_ out_.length) (some (.inl (w64 (i_+1),out_.set i_.toNat r))) none) none) (some (.inr out_))
def Xjx (a:List (List Int)):(Int×List (List Int))→Option (List (List Int)):=
 Y9 fun s=>Xjx.B a s.1 s.2
def Xj0 (a:List (List Int)):Option (List (List Int)):=
 cond (decide ((0:Int)≤(a.length:Int))&&(decide ((a.length:Int)≤(a.length:Int))&&decide ((a.length:Int)≤2147483648))) ((some (List.replicate (a.length:Int).toNat ([]:List Int))).bind fun v=>(Xjx a (0,v)).bind fun o=>some o) none
namespace Xj0
def G:Gam:=mkG [(105,Xhs.FS)]
theorem Gok:GOk PR G:=.cons Xhs.ok .nil
end Xj0
namespace Xjx
def c:=Yap (Yaf Proofs.Tryz.f49) [1,1,0,1,0,0]
def sp:SP:=⟨[(0,.cs (.sl SI)),(3,.seg 3 []),(4,.cs I64)],[(3,.reg,.cd (.sl SI))]⟩
def fr:=Yja sp (fun x s=>Xjx.B x.1.1 s.1 s.2) (fun x=>(x.1.2.2.1,x.2.1)) fun x (bb0:List (List Int)) _ kk0=>kk0 (.ex 0) ⟨[(3,.seg 3 [])],[sr 3 (.cd (.sl SI) bb0)]⟩
theorem ok:Ya7 PR 23 1 (.loop c) fr:=
 Yxo Xe Xf h0 (G:=Xj0.G) Xj0.Gok [(0,([3],[3]))] (fun x s=>((x.1.1,x.1.2.1,s.1,x.1.2.2.2),(s.2,x.2.2)))
  (fun x s=>by simp only[B,mC,mB,mS,mO,mN];kernel_rfl)
end Xjx
namespace Xj0
def pts:List PT:=[.cs (.sl SI)]
def FS:FS:=Ybk [.sh] pts (fun x=>Xj0 x.1) fun t=>⟨[.cd (.sl SI) t],[]⟩
theorem ok:Yb2 PR 49 FS:=
 Yxn Xe Xf Proofs.Tryz.f49 h0 (.R (.R (.L (.R (.one (.fr 0)))))) (G:=G) Gok (L:=mkL [(0,Xjx.fr)]) (l:=[(0,.loop Xjx.c)]) ⟨Lam.cons Xjx.ok,trivial⟩
  (fun x=>by simp only[Xj0,mC,mB,mS,mO,mN];kernel_rfl)
end Xj0
def Xmn (a:Xj):Option Xj:=
 (Xhs a.2.1).bind fun r=>some (a.1,r,())
namespace Xmn
def G:Gam:=mkG [(105,Xhs.FS)]
def pts:List PT:=[.cs Xl]
def FS:FS:=Ybk [.sh] pts (fun x=>Xmn x.1) fun t=>⟨[.cd Xl t],[]⟩
theorem ok:Yb2 PR 106 FS:=
 Yxn Xe Xf Proofs.Tryz.f106 ⟨[1],[],[],0⟩ .no (G:=G) (show GOk PR G from .cons Xhs.ok .nil) (L:=mkL []) (l:=[]) hT
  (fun x=>by simp only[Xmn,mC,mB,mS,mO,mN];kernel_rfl)
end Xmn
def Xj2.B (a:List Xj) (i_:Int) (out_:List Xj):Option ((Int×List Xj)⊕(List Xj)):=
 cond (decide (i_<(a.length:Int))) (cond (inB i_ a.length) ((Xmn (a.getD i_.toNat Xt)).bind fun r=>cond (inB i_ out_.length) (some (.inl (w64 (i_+1),out_.set i_.toNat (r.1,r.2.1,r.2.2)))) none) none) (some (.inr out_))
def Xj2 (a:List Xj):(Int×List Xj)→Option (List Xj):=
 Y9 fun s=>Xj2.B a s.1 s.2
def Xjs (a:List Xj):Option (List Xj):=
 cond (decide ((0:Int)≤(a.length:Int))&&(decide ((a.length:Int)≤(a.length:Int))&&decide ((a.length:Int)≤2147483648))) ((Xj2 a (0,List.replicate (a.length:Int).toNat Xt)).bind fun o=>some o) none
namespace Xjs
def G:Gam:=mkG [(106,Xmn.FS)]
theorem Gok:GOk PR G:=.cons Xmn.ok .nil
end Xjs
namespace Xj2
def c:=Yap (Yaf Proofs.Tryz.f50) [1,1,0,1,0,0]
def sp:SP:=⟨[(0,.cs (.sl Xl)),(3,.seg 3 []),(4,.cs I64)],[(3,.reg,.cd (.sl Xl))]⟩
def fr:=Yja sp (fun x s=>Xj2.B x.1.1 s.1 s.2) (fun x=>(x.1.2.2.1,x.2.1)) fun x (bb0:List Xj) _ kk0=>kk0 (.ex 0) ⟨[(3,.seg 3 [])],[sr 3 (.cd (.sl Xl) bb0)]⟩
theorem ok:Ya7 PR 23 1 (.loop c) fr:=
 Yxo Xe Xf h0 (G:=Xjs.G) Xjs.Gok [(0,([3],[3]))] (fun x s=>((x.1.1,x.1.2.1,s.1,x.1.2.2.2),(s.2,x.2.2)))
  (fun x s=>by simp only[B,mC,mB,mS,mO,mN];kernel_rfl)
end Xj2
namespace Xjs
def pts:List PT:=[.cs (.sl Xl)]
def FS:FS:=Ybk [.sh] pts (fun x=>Xjs x.1) fun t=>⟨[.cd (.sl Xl) t],[]⟩
theorem ok:Yb2 PR 50 FS:=
 Yxn Xe Xf Proofs.Tryz.f50 h0 (.R (.R (.L (.R (.one (.fr 0)))))) (G:=G) Gok (L:=mkL [(0,Xj2.fr)]) (l:=[(0,.loop Xj2.c)]) ⟨Lam.cons Xj2.ok,trivial⟩
  (fun x=>by simp only[Xjs,mC,mB,mS,mO,mN];kernel_rfl)
end Xjs
def Xmv (a:Xd):Option Xd:=
 (Xj0 a.1).bind fun r=>(Xjs a.2.1).bind fun r2=>some (r,r2,())
namespace Xmv
def G:Gam:=mkG [(49,Xj0.FS),(50,Xjs.FS)]
def pts:List PT:=[.cs Xh]
def FS:FS:=Ybk [.sh] pts (fun x=>Xmv x.1) fun t=>⟨[.cd Xh t],[]⟩
theorem ok:Yb2 PR 10 FS:=
 Yxn Xe Xf Proofs.Tryz.f10 ⟨[1],[],[],0⟩ .no (G:=G) (show GOk PR G from .cons Xj0.ok (.cons Xjs.ok .nil)) (L:=mkL []) (l:=[]) hT
  (fun x=>by simp only[Xmv,mC,mB,mS,mO,mN];kernel_rfl)
end Xmv
def Xmp (a:Xg):Option Xg:=
 some (a.1,a.2.1,())
namespace Xmp
def pts:List PT:=[.cs Xi]
def FS:FS:=Ybk [.sh] pts (fun x=>Xmp x.1) fun t=>⟨[.cs Xi t],[]⟩
theorem ok:Yb2 PR 221 FS:=
 Yxn Xe Xf Proofs.Tryz.f221 ⟨[1],[],[],0⟩ .no (G:=(mkG [])) .nil (L:=mkL []) (l:=[]) hT
  (fun x=>by simp only[Xmp,mC,mB,mS,mO,mN];kernel_rfl)
end Xmp
def Xji.B (a:List Xg) (i_:Int) (out_:List Xg):Option ((Int×List Xg)⊕(List Xg)):=
 cond (decide (i_<(a.length:Int))) (cond (inB i_ a.length) ((Xmp (a.getD i_.toNat Xm)).bind fun r=>cond (inB i_ out_.length) (some (.inl (w64 (i_+1),out_.set i_.toNat r))) none) none) (some (.inr out_))
def Xji (a:List Xg):(Int×List Xg)→Option (List Xg):=
 Y9 fun s=>Xji.B a s.1 s.2
def Xj1 (a:List Xg):Option (List Xg):=
 cond (decide ((0:Int)≤(a.length:Int))&&(decide ((a.length:Int)≤(a.length:Int))&&decide ((a.length:Int)≤2147483648))) ((Xji a (0,List.replicate (a.length:Int).toNat Xm)).bind fun o=>some o) none
namespace Xj1
def G:Gam:=mkG [(221,Xmp.FS)]
theorem Gok:GOk PR G:=.cons Xmp.ok .nil
end Xj1
namespace Xji
def c:=Yap (Yaf Proofs.Tryz.f177) [1,1,0,1,0,0]
def sp:SP:=⟨[(0,.cs (.sl Xi)),(3,.seg 3 []),(4,.cs I64)],[(3,.reg,.cd (.sl Xi))]⟩
def fr:=Yja sp (fun x s=>Xji.B x.1.1 s.1 s.2) (fun x=>(x.1.2.2.1,x.2.1)) fun x (bb0:List Xg) _ kk0=>kk0 (.ex 0) ⟨[(3,.seg 3 [])],[sr 3 (.cd (.sl Xi) bb0)]⟩
theorem ok:Ya7 PR 23 1 (.loop c) fr:=
 Yxo Xe Xf h0 (G:=Xj1.G) Xj1.Gok [(0,([3],[3]))] (fun x s=>((x.1.1,x.1.2.1,s.1,x.1.2.2.2),(s.2,x.2.2)))
  (fun x s=>by simp only[B,mC,mB,mS,mO,mN];kernel_rfl)
end Xji
namespace Xj1
def pts:List PT:=[.cs (.sl Xi)]
def FS:FS:=Ybk [.sh] pts (fun x=>Xj1 x.1) fun t=>⟨[.cd (.sl Xi) t],[]⟩
theorem ok:Yb2 PR 177 FS:=
 Yxn Xe Xf Proofs.Tryz.f177 h0 (.R (.R (.L (.R (.one (.fr 0)))))) (G:=G) Gok (L:=mkL [(0,Xji.fr)]) (l:=[(0,.loop Xji.c)]) ⟨Lam.cons Xji.ok,trivial⟩
  (fun x=>by simp only[Xj1,mC,mB,mS,mO,mN];kernel_rfl)
end Xj1
def Xm3 (a:Xa):Option Xa:=
 (Xhs a.2.2.2.1).bind fun r=>(Xj1 a.2.2.2.2.1).bind fun r2=>some (a.1,a.2.1,a.2.2.1,r,r2,())
namespace Xm3
def G:Gam:=mkG [(105,Xhs.FS),(177,Xj1.FS)]
def pts:List PT:=[.cs Xb]
def FS:FS:=Ybk [.sh] pts (fun x=>Xm3 x.1) fun t=>⟨[.cd Xb t],[]⟩
theorem ok:Yb2 PR 107 FS:=
 Yxn Xe Xf Proofs.Tryz.f107 ⟨[1],[],[],0⟩ .no (G:=G) (show GOk PR G from .cons Xhs.ok (.cons Xj1.ok .nil)) (L:=mkL []) (l:=[]) hT
  (fun x=>by simp only[Xm3,mC,mB,mS,mO,mN];kernel_rfl)
end Xm3
def Xj8.B (a:List Xa) (i_:Int) (out_:List Xa):Option ((Int×List Xa)⊕(List Xa)):=
 cond (decide (i_<(a.length:Int))) (cond (inB i_ a.length) ((Xm3 (a.getD i_.toNat Xc)).bind fun r=>cond (inB i_ out_.length) ((some (out_.set i_.toNat (r.1,r.2.1,r.2.2.1,r.2.2.2.1,r.2.2.2.2.1,r.2.2.2.2.2))).bind fun out_2=>some (.inl (w64 (i_+1),out_2))) none) none) (some (.inr out_))
def Xj8 (a:List Xa):(Int×List Xa)→Option (List Xa):=
 Y9 fun s=>Xj8.B a s.1 s.2
def Xjm (a:List Xa):Option (List Xa):=
 cond (decide ((0:Int)≤(a.length:Int))&&(decide ((a.length:Int)≤(a.length:Int))&&decide ((a.length:Int)≤2147483648))) ((Xj8 a (0,List.replicate (a.length:Int).toNat Xc)).bind fun o=>some o) none
namespace Xjm
def G:Gam:=mkG [(107,Xm3.FS)]
theorem Gok:GOk PR G:=.cons Xm3.ok .nil
end Xjm
namespace Xj8
def c:=Yap (Yaf Proofs.Tryz.f51) [1,1,0,1,0,0]
def sp:SP:=⟨[(0,.cs (.sl Xb)),(3,.seg 3 []),(4,.cs I64)],[(3,.reg,.cd (.sl Xb))]⟩
def fr:=Yja sp (fun x s=>Xj8.B x.1.1 s.1 s.2) (fun x=>(x.1.2.2.1,x.2.1)) fun x (bb0:List Xa) _ kk0=>kk0 (.ex 0) ⟨[(3,.seg 3 [])],[sr 3 (.cd (.sl Xb) bb0)]⟩
theorem ok:Ya7 PR 23 1 (.loop c) fr:=
 Yxo Xe Xf h0 (G:=Xjm.G) Xjm.Gok [(0,([3],[3]))] (fun x s=>((x.1.1,x.1.2.1,s.1,x.1.2.2.2),(s.2,x.2.2)))
  (fun x s=>by simp only[B,mC,mB,mS,mO,mN];kernel_rfl)
end Xj8
namespace Xjm
def pts:List PT:=[.cs (.sl Xb)]
def FS:FS:=Ybk [.sh] pts (fun x=>Xjm x.1) fun t=>⟨[.cd (.sl Xb) t],[]⟩
theorem ok:Yb2 PR 51 FS:=
 Yxn Xe Xf Proofs.Tryz.f51 h0 (.R (.R (.L (.R (.one (.fr 0)))))) (G:=G) Gok (L:=mkL [(0,Xj8.fr)]) (l:=[(0,.loop Xj8.c)]) ⟨Lam.cons Xj8.ok,trivial⟩
  (fun x=>by simp only[Xjm,mC,mB,mS,mO,mN];kernel_rfl)
end Xjm
def Xjw.B (a:List Int) (i_:Int) (out_:List Int):Option ((Int×List Int)⊕(List Int)):=
 cond (decide (i_<(a.length:Int))) (cond (inB i_ a.length) (cond (inB i_ out_.length) (some (.inl (w64 (i_+1),out_.set i_.toNat (a.getD i_.toNat 0)))) none) none) (some (.inr out_))
def Xjw (a:List Int):(Int×List Int)→Option (List Int):=
 Y9 fun s=>Xjw.B a s.1 s.2
def Xm8 (a:List Int):Option (List Int):=
 cond (decide ((0:Int)≤(a.length:Int))&&(decide ((a.length:Int)≤(a.length:Int))&&decide ((a.length:Int)≤2147483648))) ((Xjw a (0,List.replicate (a.length:Int).toNat 0)).bind fun o=>some o) none
namespace Xjw
def c:=Yap (Yaf Proofs.Tryz.f108) [1,1,0,1,0,0]
def sp:SP:=⟨[(0,.cs SB),(3,.seg 3 []),(4,.cs I64)],[(3,.reg,.cd SB)]⟩
def fr:=Yja sp (fun x s=>Xjw.B x.1.1 s.1 s.2) (fun x=>(x.1.2.2.1,x.2.1)) fun x (bb0:List Int) _ kk0=>kk0 (.ex 0) ⟨[(3,.seg 3 [])],[sr 3 (.cd SB bb0)]⟩
theorem ok:Ya7 PR 22 1 (.loop c) fr:=
 Yxd Xe Xf h0 [(0,([3],[3]))] (fun x s=>((x.1.1,x.1.2.1,s.1,x.1.2.2.2),(s.2,x.2.2)))
  (fun x s=>by simp only[B,mC,mB,mS,mO,mN];kernel_rfl)
end Xjw
namespace Xm8
def pts:List PT:=[.cs SB]
def FS:FS:=Ybk [.sh] pts (fun x=>Xm8 x.1) fun t=>⟨[.cd SB t],[]⟩
theorem ok:Yb2 PR 108 FS:=
 Yxn Xe Xf Proofs.Tryz.f108 h0 (.R (.R (.L (.R (.one (.fr 0)))))) (G:=(mkG [])) .nil (L:=mkL [(0,Xjw.fr)]) (l:=[(0,.loop Xjw.c)]) ⟨Lam.cons Xjw.ok,trivial⟩
  (fun x=>by simp only[Xm8,mC,mB,mS,mO,mN];kernel_rfl)
end Xm8
def Xj6.B (a:List (List Int)) (i_:Int) (out_:List (List Int)):Option ((Int×List (List Int))⊕(List (List Int))):=
 cond (decide (i_<(a.length:Int))) (cond (inB i_ a.length) ((Xm8 (a.getD i_.toNat [])).bind fun r=>cond (inB i_ out_.length) (some (.inl (w64 (i_+1),out_.set i_.toNat r))) none) none) (some (.inr out_))
def Xj6 (a:List (List Int)):(Int×List (List Int))→Option (List (List Int)):=
 Y9 fun s=>Xj6.B a s.1 s.2
def Xjp (a:List (List Int)):Option (List (List Int)):=
 cond (decide ((0:Int)≤(a.length:Int))&&(decide ((a.length:Int)≤(a.length:Int))&&decide ((a.length:Int)≤2147483648))) ((some (List.replicate (a.length:Int).toNat ([]:List Int))).bind fun v=>(Xj6 a (0,v)).bind fun o=>some o) none
namespace Xjp
def G:Gam:=mkG [(108,Xm8.FS)]
theorem Gok:GOk PR G:=.cons Xm8.ok .nil
end Xjp
namespace Xj6
def c:=Yap (Yaf Proofs.Tryz.f52) [1,1,0,1,0,0]
def sp:SP:=⟨[(0,.cs (.sl SB)),(3,.seg 3 []),(4,.cs I64)],[(3,.reg,.cd (.sl SB))]⟩
def fr:=Yja sp (fun x s=>Xj6.B x.1.1 s.1 s.2) (fun x=>(x.1.2.2.1,x.2.1)) fun x (bb0:List (List Int)) _ kk0=>kk0 (.ex 0) ⟨[(3,.seg 3 [])],[sr 3 (.cd (.sl SB) bb0)]⟩
theorem ok:Ya7 PR 23 1 (.loop c) fr:=
 Yxo Xe Xf h0 (G:=Xjp.G) Xjp.Gok [(0,([3],[3]))] (fun x s=>((x.1.1,x.1.2.1,s.1,x.1.2.2.2),(s.2,x.2.2)))
  (fun x s=>by simp only[B,mC,mB,mS,mO,mN];kernel_rfl)
end Xj6
namespace Xjp
def pts:List PT:=[.cs (.sl SB)]
def FS:FS:=Ybk [.sh] pts (fun x=>Xjp x.1) fun t=>⟨[.cd (.sl SB) t],[]⟩
theorem ok:Yb2 PR 52 FS:=
 Yxn Xe Xf Proofs.Tryz.f52 h0 (.R (.R (.L (.R (.one (.fr 0)))))) (G:=G) Gok (L:=mkL [(0,Xj6.fr)]) (l:=[(0,.loop Xj6.c)]) ⟨Lam.cons Xj6.ok,trivial⟩
  (fun x=>by simp only[Xjp,mC,mB,mS,mO,mN];kernel_rfl)
end Xjp
def Xl4 (a:Fs_):Option Fs_:=
 (Xjm a.1).bind fun r=>(Xjp a.2.1).bind fun r2=>some (r,r2,())
namespace Xl4
def G:Gam:=mkG [(51,Xjm.FS),(52,Xjp.FS)]
def pts:List PT:=[.cs Xo]
def FS:FS:=Ybk [.sh] pts (fun x=>Xl4 x.1) fun t=>⟨[.cd Xo t],[]⟩
theorem ok:Yb2 PR 11 FS:=
 Yxn Xe Xf Proofs.Tryz.f11 ⟨[1],[],[],0⟩ .no (G:=G) (show GOk PR G from .cons Xjm.ok (.cons Xjp.ok .nil)) (L:=mkL []) (l:=[]) hT
  (fun x=>by simp only[Xl4,mC,mB,mS,mO,mN];kernel_rfl)
end Xl4
def Xk8 (a:Xz):Option Xz:=
 (Xmv a.1).bind fun r=>(Xl4 a.2.1).bind fun r2=>(Xl4 a.2.2.1).bind fun r3=>some ((r.1,r.2.1,r.2.2),(r2.1,r2.2.1,r2.2.2),(r3.1,r3.2.1,r3.2.2),())
namespace Xk8
def G:Gam:=mkG [(10,Xmv.FS),(11,Xl4.FS)]
def pts:List PT:=[.cs Xp]
def FS:FS:=Ybk [.sh] pts (fun x=>Xk8 x.1) fun t=>⟨[.cd Xp t],[]⟩
theorem ok:Yb2 PR 27 FS:=
 Yxn Xe Xf Proofs.Tryz.f27 ⟨[1],[],[],0⟩ .no (G:=G) (show GOk PR G from .cons Xmv.ok (.cons Xl4.ok .nil)) (L:=mkL []) (l:=[]) hT
  (fun x=>by simp only[Xk8,mC,mB,mS,mO,mN];kernel_rfl)
end Xk8
def Xjo.B (a:List Bool) (i_:Int) (out_:List Bool):Option ((Int×List Bool)⊕(List Bool)):=
 cond (decide (i_<(a.length:Int))) (cond (inB i_ a.length) (cond (inB i_ out_.length) (some (.inl (w64 (i_+1),out_.set i_.toNat (a.getD i_.toNat false)))) none) none) (some (.inr out_))
def Xjo (a:List Bool):(Int×List Bool)→Option (List Bool):=
 Y9 fun s=>Xjo.B a s.1 s.2
def Xk3 (a:List Bool):Option (List Bool):=
 cond (decide ((0:Int)≤(a.length:Int))&&(decide ((a.length:Int)≤(a.length:Int))&&decide ((a.length:Int)≤2147483648))) ((Xjo a (0,List.replicate (a.length:Int).toNat false)).bind fun o=>some o) none
namespace Xjo
def c:=Yap (Yaf Proofs.Tryz.f28) [1,1,0,1,0,0]
def sp:SP:=⟨[(0,.cs (.sl .bool)),(3,.seg 3 []),(4,.cs I64)],[(3,.reg,.cd (.sl .bool))]⟩
def fr:=Yja sp (fun x s=>Xjo.B x.1.1 s.1 s.2) (fun x=>(x.1.2.2.1,x.2.1)) fun x (bb0:List Bool) _ kk0=>kk0 (.ex 0) ⟨[(3,.seg 3 [])],[sr 3 (.cd (.sl .bool) bb0)]⟩
theorem ok:Ya7 PR 22 1 (.loop c) fr:=
 Yxd Xe Xf h0 [(0,([3],[3]))] (fun x s=>((x.1.1,x.1.2.1,s.1,x.1.2.2.2),(s.2,x.2.2)))
  (fun x s=>by simp only[B,mC,mB,mS,mO,mN];kernel_rfl)
end Xjo
namespace Xk3
def pts:List PT:=[.cs (.sl .bool)]
def FS:FS:=Ybk [.sh] pts (fun x=>Xk3 x.1) fun t=>⟨[.cd (.sl .bool) t],[]⟩
theorem ok:Yb2 PR 28 FS:=
 Yxn Xe Xf Proofs.Tryz.f28 h0 (.R (.R (.L (.R (.one (.fr 0)))))) (G:=(mkG [])) .nil (L:=mkL [(0,Xjo.fr)]) (l:=[(0,.loop Xjo.c)]) ⟨Lam.cons Xjo.ok,trivial⟩
  (fun x=>by simp only[Xk3,mC,mB,mS,mO,mN];kernel_rfl)
end Xk3
def Xan (v:Int) (v2:Int) (v3:Int):Option Bool:=
 some (cond (decide (v≥v2)) (decide (v≤v3)) false)
namespace Xan
def pts:List PT:=[.cs I64,.cs I64,.cs I64]
def FS:FS:=Ybk [.sh,.sh,.sh] pts (fun x=>Xan x.1 x.2.1 x.2.2.1) fun t=>⟨[.cs .bool t],[]⟩
theorem ok:Yb2 PR 144 FS:=
 Yxn Xe Xf Proofs.Tryz.f144 h0 .no (G:=(mkG [])) .nil (L:=mkL []) (l:=[]) hT
  (fun x=>by simp only[Xan,mC,mB,mS,mO,mN];kernel_rfl)
end Xan
def Xla.B (v:List Int) (v2:Int):Option (Int⊕((Int⊕Unit))):=
 cond (decide (v2<(v.length:Int))) (cond (inB v2 v.length) ((Xan (v.getD v2.toNat 0) 0 65535).bind fun v3=>cond (!v3) (some (.inr (.inl 3))) (some (.inl (w64 (v2+1))))) none) (some (.inr (.inr ())))
def Xla (v:List Int):Int→Option ((Int⊕Unit)):=
 Y9 fun s=>Xla.B v s
def Xfg (v:List Int):Option Int:=
 cond (decide ((v.length:Int)>64)) (some 2) ((Xla v 0).bind fun v4=>sel v4 (fun v5=>some v5) (fun v6=>some 0))
namespace Xfg
def G:Gam:=mkG [(144,Xan.FS)]
theorem Gok:GOk PR G:=.cons Xan.ok .nil
end Xfg
namespace Xla
def c:=Yap (Yaf Proofs.Tryz.f168) [1,1,0,1,0,0]
def sp:SP:=⟨[(0,.cs SI),(3,.cs I64)],[]⟩
def fr:=Yja sp (fun x s=>Xla.B x.1.1 s) (fun x=>x.1.2.1) fun x (oo0:(Int⊕Unit)) _ kk0=>sel oo0 (fun bb0=>kk0 (.rt) ⟨[(2,.cs I64 bb0)],[]⟩) (fun cc0=>kk0 (.ex 0) ⟨[],[]⟩)
theorem ok:Ya7 PR 19 1 (.loop c) fr:=
 Yt2 Xe Xf h0 .no (G:=Xfg.G) Xfg.Gok (L:=mkL []) (l:=[]) hT [(0,([],[]))] ([2],[]) (fun x s=>((x.1.1,s,x.1.2.2),x.2))
  (fun x s=>by simp only[B,mC,mB,mS,mO,mN];kernel_rfl)
end Xla
namespace Xfg
def pts:List PT:=[.cs SI]
def FS:FS:=Ybk [.sh] pts (fun x=>Xfg x.1) fun t=>⟨[.cs I64 t],[]⟩
theorem ok:Yb2 PR 168 FS:=
 Yxn Xe Xf Proofs.Tryz.f168 h0 (.R (.R (.L (.R (.one (.fr 0)))))) (G:=G) Gok (L:=mkL [(0,Xla.fr)]) (l:=[(0,.loop Xla.c)]) ⟨Lam.cons Xla.ok,trivial⟩
  (fun x=>by simp only[Xfg,mC,mB,mS,mO,mN];kernel_rfl)
end Xfg
def Xli.B (v:Xd) (v3:Int):Option (Int⊕((Int⊕Unit))):=
 cond (decide (v3<(v.1.length:Int))) (cond (inB v3 v.1.length) ((Xfg (v.1.getD v3.toNat [])).bind fun v4=>cond (v4 != 0) (some (.inr (.inl v4))) (some (.inl (w64 (v3+1))))) none) (some (.inr (.inr ())))
def Xli (v:Xd):Int→Option ((Int⊕Unit)):=
 Y9 fun s=>Xli.B v s
def Xlc.B (v:Xd) (v8:Int):Option (Int⊕((Int⊕Unit))):=
 cond (decide (v8<(v.2.1.length:Int))) (cond (inB v8 v.2.1.length) ((Xan (v.2.1.getD v8.toNat Xt).1 0 (w64 ((v.1.length:Int)-1))).bind fun v9=>cond (!v9) (some (.inr (.inl 3))) (cond (inB v8 v.2.1.length) ((Xfg (v.2.1.getD v8.toNat Xt).2.1).bind fun v10=>cond (v10 != 0) (some (.inr (.inl v10))) (some (.inl (w64 (v8+1))))) none)) none) (some (.inr (.inr ())))
def Xlc (v:Xd):Int→Option ((Int⊕Unit)):=
 Y9 fun s=>Xlc.B v s
def Xb1 (v:Xd):Option Int:=
 (some (cond (decide ((v.1.length:Int)>60)) true (decide ((v.2.1.length:Int)>200)))).bind fun v2=>cond v2 (some 2) ((Xli v 0).bind fun v5=>sel v5 (fun v6=>some v6) (fun v7=>(Xlc v 0).bind fun v11=>sel v11 (fun v12=>some v12) (fun v13=>some 0)))
namespace Xb1
def G:Gam:=mkG [(168,Xfg.FS),(144,Xan.FS)]
theorem Gok:GOk PR G:=.cons Xfg.ok (.cons Xan.ok .nil)
end Xb1
namespace Xli
def c:=Yap (Yaf Proofs.Tryz.f93) [1,1,0,1,0,0]
def sp:SP:=⟨[(0,.pt Xh),(3,.cs I64)],[]⟩
def fr:=Yja sp (fun x s=>Xli.B x.1.1 s) (fun x=>x.1.2.1) fun x (oo0:(Int⊕Unit)) _ kk0=>sel oo0 (fun bb0=>kk0 (.rt) ⟨[(2,.cs I64 bb0)],[]⟩) (fun cc0=>kk0 (.ex 0) ⟨[(0,.pt Xh x.1.1)],[]⟩)
theorem ok:Ya7 PR 78 1 (.loop c) fr:=
 Yt2 Xe Xf h0 .no (G:=Xb1.G) Xb1.Gok (L:=mkL []) (l:=[]) hT [(0,([0],[]))] ([2],[]) (fun x s=>((x.1.1,s,x.1.2.2),x.2))
  (fun x s=>by simp only[B,mC,mB,mS,mO,mN];kernel_rfl)
end Xli
namespace Xlc
def c:=Yap (Yaf Proofs.Tryz.f93) [1,1,1,0,1,0,0]
def sp:SP:=⟨[(0,.pt Xh),(5,.cs I64)],[]⟩
def fr:=Yja sp (fun x s=>Xlc.B x.1.1 s) (fun x=>x.1.2.1) fun x (oo0:(Int⊕Unit)) _ kk0=>sel oo0 (fun bb0=>kk0 (.rt) ⟨[(2,.cs I64 bb0)],[]⟩) (fun cc0=>kk0 (.ex 2) ⟨[],[]⟩)
theorem ok:Ya7 PR 78 1 (.loop c) fr:=
 Yt2 Xe Xf h0 .no (G:=Xb1.G) Xb1.Gok (L:=mkL []) (l:=[]) hT [(2,([],[]))] ([2],[]) (fun x s=>((x.1.1,s,x.1.2.2),x.2))
  (fun x s=>by simp only[B,mC,mB,mS,mO,mN];kernel_rfl)
end Xlc
namespace Xb1
def pts:List PT:=[.pt Xh]
def FS:FS:=Ybk [.sh] pts (fun x=>Xb1 x.1) fun t=>⟨[.cs I64 t],[]⟩
theorem ok:Yb2 PR 93 FS:=
 Yxn Xe Xf Proofs.Tryz.f93 h0 (.R (.R (.two (.R (.one (.fr 0))) (.L (.R (.one (.fr 1))))))) (G:=G) Gok (L:=mkL [(0,Xli.fr),(1,Xlc.fr)]) (l:=[(0,.loop Xli.c),(1,.loop Xlc.c)]) ⟨Lam.cons Xli.ok,Lam.skip rfl (Lam.cons Xlc.ok),trivial⟩
  (fun x=>by simp only[Xb1,mC,mB,mS,mO,mN];kernel_rfl)
end Xb1
def Xfr.B (v:Xd) (v2:Int) (v3:Int):Option (Int⊕(((List Int)⊕Unit))):=
 cond (decide (v3≥0)) (cond (inB v3 v.2.1.length) (cond ((v.2.1.getD v3.toNat Xt).1 == v2) (cond (inB v3 v.2.1.length) (some (.inr (.inl (v.2.1.getD v3.toNat Xt).2.1))) none) (some (.inl (w64 (v3-1))))) none) (some (.inr (.inr ())))
def Xfr (v:Xd) (v2:Int):Int→Option (((List Int)⊕Unit)):=
 Y9 fun s=>Xfr.B v v2 s
def Xgm (v:Xd) (v2:Int):Option (List Int):=
 (Xfr v v2 (w64 ((v.2.1.length:Int)-1))).bind fun v4=>sel v4 (fun v5=>some v5) (fun v6=>cond (inB v2 v.1.length) (some (v.1.getD v2.toNat [])) none)
namespace Xfr
def c:=Yap (Yaf Proofs.Tryz.f94) [1,0,1,0,0]
def sp:SP:=⟨[(0,.pt Xh),(1,.cs I64),(5,.cs I64)],[]⟩
def fr:=Yja sp (fun x s=>Xfr.B x.1.1 x.1.2.1 s) (fun x=>x.1.2.2.1) fun x (oo0:((List Int)⊕Unit)) _ kk0=>sel oo0 (fun bb0=>kk0 (.rt) ⟨[(4,.cs SI bb0)],[]⟩) (fun cc0=>kk0 (.ex 0) ⟨[(0,.pt Xh x.1.1),(1,.cs I64 x.1.2.1)],[]⟩)
theorem ok:Ya7 PR 41 2 (.loop c) fr:=
 Yt2 Xe Xf h0 .no (G:=(mkG [])) .nil (L:=mkL []) (l:=[]) hT [(0,([0,1],[]))] ([4],[]) (fun x s=>((x.1.1,x.1.2.1,s,x.1.2.2.2),x.2))
  (fun x s=>by simp only[B,mC,mB,mS,mO,mN];kernel_rfl)
end Xfr
namespace Xgm
def pts:List PT:=[.pt Xh,.cs I64]
def FS:FS:=Ybk [.sh,.sh] pts (fun x=>Xgm x.1 x.2.1) fun t=>⟨[.cs SI t],[]⟩
theorem ok:Yb2 PR 94 FS:=
 Yxn Xe Xf Proofs.Tryz.f94 h0 (.R (.L (.R (.one (.fr 0))))) (G:=(mkG [])) .nil (L:=mkL [(0,Xfr.fr)]) (l:=[(0,.loop Xfr.c)]) ⟨Lam.cons Xfr.ok,trivial⟩
  (fun x=>by simp only[Xgm,mC,mB,mS,mO,mN];kernel_rfl)
end Xgm
def Xnj (v:Int):Option Bool:=
 (Xan v 1 60000).bind fun v2=>some v2
namespace Xnj
def G:Gam:=mkG [(144,Xan.FS)]
def pts:List PT:=[.cs I64]
def FS:FS:=Ybk [.sh] pts (fun x=>Xnj x.1) fun t=>⟨[.cs .bool t],[]⟩
theorem ok:Yb2 PR 95 FS:=
 Yxn Xe Xf Proofs.Tryz.f95 h0 .no (G:=G) (show GOk PR G from .cons Xan.ok .nil) (L:=mkL []) (l:=[]) hT
  (fun x=>by simp only[Xnj,mC,mB,mS,mO,mN];kernel_rfl)
end Xnj
def Xhw (v:Xd):Option Xlp:=
 (Xb1 v).bind fun v2=>cond (v2 != 0) (some (v2,0,())) (cond ((v.1.length:Int) != 47) (some (1,0,())) ((Xgm v 0).bind fun v3=>cond (cond (!((v3.length:Int) != 2)) (inB 0 v3.length) true) ((some (cond ((v3.length:Int) != 2) true ((v3.getD (0:Int).toNat 0) != 7))).bind fun v4=>cond v4 (some (5,0,())) (cond (inB 1 v3.length) ((Xnj (v3.getD (1:Int).toNat 0)).bind fun v5=>cond (!v5) (some (5,0,())) (cond (inB 1 v3.length) (some (0,v3.getD (1:Int).toNat 0,())) none)) none)) none))
namespace Xhw
def G:Gam:=mkG [(93,Xb1.FS),(94,Xgm.FS),(95,Xnj.FS)]
def pts:List PT:=[.cs Xh]
def FS:FS:=Ybk [.sh] pts (fun x=>Xhw x.1) fun t=>⟨[.cs Xg2 t],[]⟩
theorem ok:Yb2 PR 46 FS:=
 Yxn Xe Xf Proofs.Tryz.f46 ⟨[1],[],[],0⟩ .no (G:=G) (show GOk PR G from .cons Xb1.ok (.cons Xgm.ok (.cons Xnj.ok .nil))) (L:=mkL []) (l:=[]) hT
  (fun x=>by simp only[Xhw,mC,mB,mS,mO,mN];kernel_rfl)
end Xhw
def Xnf (v:Int):Option Bool:=
 (Xan v 0 32).bind fun v2=>some v2
namespace Xnf
def G:Gam:=mkG [(144,Xan.FS)]
def pts:List PT:=[.cs I64]
def FS:FS:=Ybk [.sh] pts (fun x=>Xnf x.1) fun t=>⟨[.cs .bool t],[]⟩
theorem ok:Yb2 PR 254 FS:=
 Yxn Xe Xf Proofs.Tryz.f254 h0 .no (G:=G) (show GOk PR G from .cons Xan.ok .nil) (L:=mkL []) (l:=[]) hT
  (fun x=>by simp only[Xnf,mC,mB,mS,mO,mN];kernel_rfl)
end Xnf
def Xnd (v:Int):Option Int:=
 cond (!((8:Int) == 0)) (some (w64 ((w64 ((w64 (v+8))-1)).tdiv 8))) none
namespace Xnd
def pts:List PT:=[.cs I64]
def FS:FS:=Ybk [.sh] pts (fun x=>Xnd x.1) fun t=>⟨[.cs I64 t],[]⟩
theorem ok:Yb2 PR 255 FS:=
 Yxn Xe Xf Proofs.Tryz.f255 h0 .no (G:=(mkG [])) .nil (L:=mkL []) (l:=[]) hT
  (fun x=>by simp only[Xnd,mC,mB,mS,mO,mN];kernel_rfl)
end Xnd
def Xld.B (v:Xa) (v5:Int):Option (Int⊕((Int⊕Unit))):=
 cond (decide (v5<(v.2.2.2.1.length:Int))) (cond (inB v5 v.2.2.2.1.length) ((Xan (v.2.2.2.1.getD v5.toNat 0) 0 19).bind fun v6=>cond (!v6) (some (.inr (.inl 3))) (some (.inl (w64 (v5+1))))) none) (some (.inr (.inr ())))
def Xld (v:Xa):Int→Option ((Int⊕Unit)):=
 Y9 fun s=>Xld.B v s
def Xik.B (v:Xa) (v10:Int) (v11:Int):Option (Int⊕((Int⊕Unit))):=
 cond (decide (v11<v10)) (cond (inB v11 v.2.2.2.1.length) (cond (inB v10 v.2.2.2.1.length) ((some ((v.2.2.2.1.getD v11.toNat 0) == (v.2.2.2.1.getD v10.toNat 0))).bind fun v12=>cond v12 (some (.inr (.inl 7))) (some (.inl (w64 (v11+1))))) none) none) (some (.inr (.inr ())))
def Xik (v:Xa) (v10:Int):Int→Option ((Int⊕Unit)):=
 Y9 fun s=>Xik.B v v10 s
def Xjd.B (v:Xa) (v10:Int):Option (Int⊕((Int⊕Unit))):=
 cond (decide (v10<(v.2.2.2.1.length:Int))) ((Xik v v10 0).bind fun v13=>sel v13 (fun v14=>some (.inr (.inl v14))) (fun v15=>some (.inl (w64 (v10+1))))) (some (.inr (.inr ())))
def Xjd (v:Xa):Int→Option ((Int⊕Unit)):=
 Y9 fun s=>Xjd.B v s
def Xgz (v:Xa):Option Int:=
 (Xan v.2.1 1 60).bind fun v2=>cond (!v2) (some 3) ((Xnf v.2.2.1).bind fun v3=>cond (!v3) (some 3) ((Xnd v.2.2.1).bind fun v4=>cond ((v.2.2.2.1.length:Int) != v4) (some 1) ((Xld v 0).bind fun v7=>sel v7 (fun v8=>some v8) (fun v9=>(Xjd v 0).bind fun v16=>sel v16 (fun v17=>some v17) (fun v18=>some 0)))))
namespace Xgz
def G:Gam:=mkG [(144,Xan.FS),(254,Xnf.FS),(255,Xnd.FS)]
theorem Gok:GOk PR G:=.cons Xan.ok (.cons Xnf.ok (.cons Xnd.ok .nil))
end Xgz
namespace Xld
def c:=Yap (Yaf Proofs.Tryz.f239) [1,1,1,0,1,0,0]
def sp:SP:=⟨[(0,.pt Xb),(3,.cs I64)],[]⟩
def fr:=Yja sp (fun x s=>Xld.B x.1.1 s) (fun x=>x.1.2.1) fun x (oo0:(Int⊕Unit)) _ kk0=>sel oo0 (fun bb0=>kk0 (.rt) ⟨[(2,.cs I64 bb0)],[]⟩) (fun cc0=>kk0 (.ex 0) ⟨[(0,.pt Xb x.1.1)],[]⟩)
theorem ok:Ya7 PR 78 1 (.loop c) fr:=
 Yt2 Xe Xf h0 .no (G:=Xgz.G) Xgz.Gok (L:=mkL []) (l:=[]) hT [(0,([0],[]))] ([2],[]) (fun x s=>((x.1.1,s,x.1.2.2),x.2))
  (fun x s=>by simp only[B,mC,mB,mS,mO,mN];kernel_rfl)
end Xld
namespace Xik
def c:=Yap (Yaf Proofs.Tryz.f239) [1,1,1,1,0,1,0,0,1,0,0,1,0,0]
def sp:SP:=⟨[(0,.pt Xb),(4,.cs I64),(5,.cs I64)],[]⟩
def fr:=Yja sp (fun x s=>Xik.B x.1.1 x.1.2.1 s) (fun x=>x.1.2.2.1) fun x (oo0:(Int⊕Unit)) _ kk0=>sel oo0 (fun bb0=>kk0 (.rt) ⟨[(2,.cs I64 bb0)],[]⟩) (fun cc0=>kk0 (.ex 4) ⟨[(0,.pt Xb x.1.1),(4,.cs I64 x.1.2.1)],[]⟩)
theorem ok:Ya7 PR 78 1 (.loop c) fr:=
 Yt2 Xe Xf h0 .no (G:=Xgz.G) Xgz.Gok (L:=mkL []) (l:=[]) hT [(4,([0,4],[]))] ([2],[]) (fun x s=>((x.1.1,x.1.2.1,s,x.1.2.2.2),x.2))
  (fun x s=>by simp only[B,mC,mB,mS,mO,mN];kernel_rfl)
end Xik
namespace Xjd
def c:=Yap (Yaf Proofs.Tryz.f239) [1,1,1,1,0,1,0,0]
def sp:SP:=⟨[(0,.pt Xb),(4,.cs I64)],[]⟩
def fr:=Yja sp (fun x s=>Xjd.B x.1.1 s) (fun x=>x.1.2.1) fun x (oo0:(Int⊕Unit)) _ kk0=>sel oo0 (fun bb0=>kk0 (.rt) ⟨[(2,.cs I64 bb0)],[]⟩) (fun cc0=>kk0 (.ex 2) ⟨[],[]⟩)
theorem ok:Ya7 PR 78 1 (.loop c) fr:=
 Yt2 Xe Xf h0 (.R (.L (.one (.R (.one (.fr 2)))))) (G:=Xgz.G) Xgz.Gok (L:=mkL [(2,Xik.fr)]) (l:=[(2,.loop Xik.c)]) ⟨Lam.cons Xik.ok,trivial⟩ [(2,([],[]))] ([2],[]) (fun x s=>((x.1.1,s,x.1.2.2),x.2))
  (fun x s=>by simp only[B,mC,mB,mS,mO,mN];kernel_rfl)
end Xjd
namespace Xgz
def pts:List PT:=[.pt Xb]
def FS:FS:=Ybk [.sh] pts (fun x=>Xgz x.1) fun t=>⟨[.cs I64 t],[]⟩
theorem ok:Yb2 PR 239 FS:=
 Yxn Xe Xf Proofs.Tryz.f239 h0 (.R (.R (.R (.two (.R (.one (.fr 0))) (.L (.R (.one (.fr 1)))))))) (G:=G) Gok (L:=mkL [(0,Xld.fr),(2,Xik.fr),(1,Xjd.fr)]) (l:=[(0,.loop Xld.c),(1,.loop Xjd.c)]) ⟨Lam.cons Xld.ok,Lam.skip rfl (Lam.skip rfl (Lam.cons Xjd.ok)),trivial⟩
  (fun x=>by simp only[Xgz,mC,mB,mS,mO,mN];kernel_rfl)
end Xgz
def Xlh.B (v:List UInt8) (v2:Int):Option (Int⊕((Int⊕Unit))):=
 cond (decide (v2<(v.length:Int))) (cond (inB v2 v.length) (cond (cond (!(decide (((v.getD v2.toNat 0).toNat:Int)<97))) (inB v2 v.length) true) ((some (cond (decide (((v.getD v2.toNat 0).toNat:Int)<97)) true (decide (((v.getD v2.toNat 0).toNat:Int)>122)))).bind fun v3=>cond v3 (some (.inr (.inl 5))) (some (.inl (w64 (v2+1))))) none) none) (some (.inr (.inr ())))
def Xlh (v:List UInt8):Int→Option ((Int⊕Unit)):=
 Y9 fun s=>Xlh.B v s
def Xna (v:List UInt8):Option Int:=
 (Xlh v 0).bind fun v4=>sel v4 (fun v5=>some v5) (fun v6=>cond (v == ([]:List UInt8)) (some 5) (cond (decide ((v.length:Int)>4)) (some 2) (some 0)))
namespace Xlh
def c:=Yap (Yaf Proofs.Tryz.f256) [1,0,1,0,0]
def sp:SP:=⟨[(0,.cs .str),(3,.cs I64)],[]⟩
def fr:=Yja sp (fun x s=>Xlh.B x.1.1 s) (fun x=>x.1.2.1) fun x (oo0:(Int⊕Unit)) _ kk0=>sel oo0 (fun bb0=>kk0 (.rt) ⟨[(2,.cs I64 bb0)],[]⟩) (fun cc0=>kk0 (.ex 0) ⟨[(0,.cs .str x.1.1)],[]⟩)
theorem ok:Ya7 PR 25 1 (.loop c) fr:=
 Yt2 Xe Xf h0 .no (G:=(mkG [])) .nil (L:=mkL []) (l:=[]) hT [(0,([0],[]))] ([2],[]) (fun x s=>((x.1.1,s,x.1.2.2),x.2))
  (fun x s=>by simp only[B,mC,mB,mS,mO,mN];kernel_rfl)
end Xlh
namespace Xna
def pts:List PT:=[.cs .str]
def FS:FS:=Ybk [.sh] pts (fun x=>Xna x.1) fun t=>⟨[.cs I64 t],[]⟩
theorem ok:Yb2 PR 256 FS:=
 Yxn Xe Xf Proofs.Tryz.f256 h0 (.R (.L (.R (.one (.fr 0))))) (G:=(mkG [])) .nil (L:=mkL [(0,Xlh.fr)]) (l:=[(0,.loop Xlh.c)]) ⟨Lam.cons Xlh.ok,trivial⟩
  (fun x=>by simp only[Xna,mC,mB,mS,mO,mN];kernel_rfl)
end Xna
def Xjk.B (v:Xa) (v2:Int):Option (Int⊕((Int⊕Unit))):=
 cond (decide (v2<(v.2.2.2.2.1.length:Int))) (cond (inB v2 v.2.2.2.2.1.length) ((Xna (v.2.2.2.2.1.getD v2.toNat Xm).1).bind fun v3=>cond (v3 != 0) (some (.inr (.inl v3))) (cond (inB v2 v.2.2.2.2.1.length) ((Xan (v.2.2.2.2.1.getD v2.toNat Xm).2.1 0 9).bind fun v4=>cond (!v4) (some (.inr (.inl 3))) (cond (cond (decide (v2>0)) (inB v2 v.2.2.2.2.1.length) true) (cond (cond (decide (v2>0)) (inB (w64 (v2-1)) v.2.2.2.2.1.length) true) ((some (cond (decide (v2>0)) (leB (v.2.2.2.2.1.getD v2.toNat Xm).1 (v.2.2.2.2.1.getD (w64 (v2-1)).toNat Xm).1 || (v.2.2.2.2.1.getD v2.toNat Xm).1 == (v.2.2.2.2.1.getD (w64 (v2-1)).toNat Xm).1) false)).bind fun v5=>cond v5 (some (.inr (.inl 1))) (some (.inl (w64 (v2+1))))) none) none)) none)) none) (some (.inr (.inr ())))
def Xjk (v:Xa):Int→Option ((Int⊕Unit)):=
 Y9 fun s=>Xjk.B v s
def Xjg (v:Xa):Option Int:=
 cond (decide ((v.2.2.2.2.1.length:Int)>6)) (some 2) ((Xjk v 0).bind fun v6=>sel v6 (fun v7=>some v7) (fun v8=>some 0))
namespace Xjg
def G:Gam:=mkG [(256,Xna.FS),(144,Xan.FS)]
theorem Gok:GOk PR G:=.cons Xna.ok (.cons Xan.ok .nil)
end Xjg
namespace Xjk
def c:=Yap (Yaf Proofs.Tryz.f240) [1,1,0,1,0,0]
def sp:SP:=⟨[(0,.pt Xb),(3,.cs I64)],[]⟩
def fr:=Yja sp (fun x s=>Xjk.B x.1.1 s) (fun x=>x.1.2.1) fun x (oo0:(Int⊕Unit)) _ kk0=>sel oo0 (fun bb0=>kk0 (.rt) ⟨[(2,.cs I64 bb0)],[]⟩) (fun cc0=>kk0 (.ex 0) ⟨[],[]⟩)
theorem ok:Ya7 PR 64 1 (.loop c) fr:=
 Yt2 Xe Xf h0 .no (G:=Xjg.G) Xjg.Gok (L:=mkL []) (l:=[]) hT [(0,([],[]))] ([2],[]) (fun x s=>((x.1.1,s,x.1.2.2),x.2))
  (fun x s=>by simp only[B,mC,mB,mS,mO,mN];kernel_rfl)
end Xjk
namespace Xjg
def pts:List PT:=[.pt Xb]
def FS:FS:=Ybk [.sh] pts (fun x=>Xjg x.1) fun t=>⟨[.cs I64 t],[]⟩
theorem ok:Yb2 PR 240 FS:=
 Yxn Xe Xf Proofs.Tryz.f240 h0 (.R (.R (.L (.R (.one (.fr 0)))))) (G:=G) Gok (L:=mkL [(0,Xjk.fr)]) (l:=[(0,.loop Xjk.c)]) ⟨Lam.cons Xjk.ok,trivial⟩
  (fun x=>by simp only[Xjg,mC,mB,mS,mO,mN];kernel_rfl)
end Xjg
def Xhx (v:Xa):Option Int:=
 (Xan v.1 0 2).bind fun v2=>cond (!v2) (some 1) ((some (cond (v.1 != 1) (cond (cond (v.2.1 != 0) true (v.2.2.1 != 0)) true (decide ((v.2.2.2.1.length:Int)>0))) false)).bind fun v3=>(some (cond v3 true (cond (v.1 != 2) (decide ((v.2.2.2.2.1.length:Int)>0)) false))).bind fun v4=>cond v4 (some 1) (cond (v.1 == 1) ((Xgz v).bind fun v5=>some v5) (cond (v.1 == 2) ((Xjg v).bind fun v6=>some v6) (some 0))))
namespace Xhx
def G:Gam:=mkG [(144,Xan.FS),(239,Xgz.FS),(240,Xjg.FS)]
def pts:List PT:=[.pt Xb]
def FS:FS:=Ybk [.sh] pts (fun x=>Xhx x.1) fun t=>⟨[.cs I64 t],[]⟩
theorem ok:Yb2 PR 220 FS:=
 Yxn Xe Xf Proofs.Tryz.f220 h0 .no (G:=G) (show GOk PR G from .cons Xan.ok (.cons Xgz.ok (.cons Xjg.ok .nil))) (L:=mkL []) (l:=[]) hT
  (fun x=>by simp only[Xhx,mC,mB,mS,mO,mN];kernel_rfl)
end Xhx
def Xlg.B (v:List Xa) (v2:Int):Option (Int⊕((Int⊕Unit))):=
 cond (decide (v2<(v.length:Int))) (cond (inB v2 v.length) ((Xhx (v.getD v2.toNat Xc)).bind fun v3=>cond (v3 != 0) (some (.inr (.inl v3))) (some (.inl (w64 (v2+1))))) none) (some (.inr (.inr ())))
def Xlg (v:List Xa):Int→Option ((Int⊕Unit)):=
 Y9 fun s=>Xlg.B v s
def Xkc (v:List Xa):Option Int:=
 cond (decide ((v.length:Int)>10)) (some 2) ((Xlg v 0).bind fun v4=>sel v4 (fun v5=>some v5) (fun v6=>some 0))
namespace Xkc
def G:Gam:=mkG [(220,Xhx.FS)]
theorem Gok:GOk PR G:=.cons Xhx.ok .nil
end Xkc
namespace Xlg
def c:=Yap (Yaf Proofs.Tryz.f169) [1,1,0,1,0,0]
def sp:SP:=⟨[(0,.cs (.sl Xb)),(3,.cs I64)],[]⟩
def fr:=Yja sp (fun x s=>Xlg.B x.1.1 s) (fun x=>x.1.2.1) fun x (oo0:(Int⊕Unit)) _ kk0=>sel oo0 (fun bb0=>kk0 (.rt) ⟨[(2,.cs I64 bb0)],[]⟩) (fun cc0=>kk0 (.ex 0) ⟨[],[]⟩)
theorem ok:Ya7 PR 21 1 (.loop c) fr:=
 Yt2 Xe Xf h0 .no (G:=Xkc.G) Xkc.Gok (L:=mkL []) (l:=[]) hT [(0,([],[]))] ([2],[]) (fun x s=>((x.1.1,s,x.1.2.2),x.2))
  (fun x s=>by simp only[B,mC,mB,mS,mO,mN];kernel_rfl)
end Xlg
namespace Xkc
def pts:List PT:=[.cs (.sl Xb)]
def FS:FS:=Ybk [.sh] pts (fun x=>Xkc x.1) fun t=>⟨[.cs I64 t],[]⟩
theorem ok:Yb2 PR 169 FS:=
 Yxn Xe Xf Proofs.Tryz.f169 h0 (.R (.R (.L (.R (.one (.fr 0)))))) (G:=G) Gok (L:=mkL [(0,Xlg.fr)]) (l:=[(0,.loop Xlg.c)]) ⟨Lam.cons Xlg.ok,trivial⟩
  (fun x=>by simp only[Xkc,mC,mB,mS,mO,mN];kernel_rfl)
end Xkc
def Xiz.B (v:List Xa) (v2:Int) (v4:Int) (v5:Int) (v6:Int):Option ((Int×Int)⊕Int):=
 cond (inB v4 v.length) ((some ((v.getD v4.toNat Xc).2.2.2.1.length:Int)).bind fun v7=>cond (decide (v6<v7)) (cond (inB v4 v.length) (cond (inB v6 ((v.getD v4.toNat Xc).2.2.2.1.length)) ((some ((v.getD v4.toNat Xc).2.2.2.1.getD v6.toNat 0)).bind fun v8=>cond (v8 == v2) (some (.inl (w64 (v5+1),w64 (v6+1)))) (some (.inl (v5,w64 (v6+1))))) none) none) (some (.inr v5))) none
def Xiz (v:List Xa) (v2:Int) (v4:Int):(Int×Int)→Option Int:=
 Y9 fun s=>Xiz.B v v2 v4 s.1 s.2
def Xka.B (v:List Xa) (v2:Int) (v3:Int) (v4:Int):Option ((Int×Int)⊕Int):=
 cond (decide (v4<(v.length:Int))) ((Xiz v v2 v4 (v3,0)).bind fun v9=>some (.inl (v9,w64 (v4+1)))) (some (.inr v3))
def Xka (v:List Xa) (v2:Int):(Int×Int)→Option Int:=
 Y9 fun s=>Xka.B v v2 s.1 s.2
def Xjv (v:List Xa) (v2:Int):Option Int:=
 (Xka v v2 (0,0)).bind fun v10=>some v10
namespace Xiz
def c:=Yap (Yaf Proofs.Tryz.f206) [1,1,0,1,0,0,1,0,0,1,0,0]
def sp:SP:=⟨[(0,.cs (.sl Xb)),(1,.cs I64),(5,.cs I64),(6,.cs I64),(7,.cs I64)],[]⟩
def fr:=Yja sp (fun x s=>Xiz.B x.1.1 x.1.2.1 x.1.2.2.2.1 s.1 s.2) (fun x=>(x.1.2.2.1,x.1.2.2.2.2.1)) fun x (bb0:Int) _ kk0=>kk0 (.ex 2) ⟨[(0,.cs (.sl Xb) x.1.1),(1,.cs I64 x.1.2.1),(5,.cs I64 bb0),(6,.cs I64 x.1.2.2.2.1)],[]⟩
theorem ok:Ya7 PR 37 2 (.loop c) fr:=
 Yxd Xe Xf h0 [(2,([0,1,5,6],[]))] (fun x s=>((x.1.1,x.1.2.1,s.1,x.1.2.2.2.1,s.2,x.1.2.2.2.2.2),x.2))
  (fun x s=>by simp only[B,mC,mB,mS,mO,mN];kernel_rfl)
end Xiz
namespace Xka
def c:=Yap (Yaf Proofs.Tryz.f206) [1,1,0,1,0,0]
def sp:SP:=⟨[(0,.cs (.sl Xb)),(1,.cs I64),(5,.cs I64),(6,.cs I64)],[]⟩
def fr:=Yja sp (fun x s=>Xka.B x.1.1 x.1.2.1 s.1 s.2) (fun x=>(x.1.2.2.1,x.1.2.2.2.1)) fun x (bb0:Int) _ kk0=>kk0 (.ex 0) ⟨[(5,.cs I64 bb0)],[]⟩
theorem ok:Ya7 PR 37 2 (.loop c) fr:=
 Yxp Xe Xf h0 (.R (.L (.one (.R (.one (.fr 1)))))) (L:=mkL [(1,Xiz.fr)]) (l:=[(1,.loop Xiz.c)]) ⟨Lam.cons Xiz.ok,trivial⟩ [(0,([5],[]))] (fun x s=>((x.1.1,x.1.2.1,s.1,s.2,x.1.2.2.2.2),x.2))
  (fun x s=>by simp only[B,mC,mB,mS,mO,mN];kernel_rfl)
end Xka
namespace Xjv
def pts:List PT:=[.cs (.sl Xb),.cs I64]
def FS:FS:=Ybk [.sh,.sh] pts (fun x=>Xjv x.1 x.2.1) fun t=>⟨[.cs I64 t],[]⟩
theorem ok:Yb2 PR 206 FS:=
 Yxn Xe Xf Proofs.Tryz.f206 h0 (.R (.R (.L (.R (.one (.fr 0)))))) (G:=(mkG [])) .nil (L:=mkL [(1,Xiz.fr),(0,Xka.fr)]) (l:=[(0,.loop Xka.c)]) ⟨Lam.skip rfl (Lam.cons Xka.ok),trivial⟩
  (fun x=>by simp only[Xjv,mC,mB,mS,mO,mN];kernel_rfl)
end Xjv
def Xle.B (v:List Xa) (v2:Bool) (v3:Int) (v4:List Int):Option ((Bool×Int×List Int)⊕(Bool×List Int)):=
 cond (decide (v3<20)) ((Xjv v v3).bind fun v5=>cond (decide (v5>0)) (cond (decide ((v4++([v3])).length≤2147483648)) (some (.inl (cond v2 (decide (v5≤1)) false,w64 (v3+1),v4++([v3])))) none) (some (.inl (cond v2 (decide (v5≤1)) false,w64 (v3+1),v4)))) (some (.inr (v2,v4)))
def Xle (v:List Xa):(Bool×Int×List Int)→Option (Bool×List Int):=
 Y9 fun s=>Xle.B v s.1 s.2.1 s.2.2
def Xg9 (v:List Xa):Option ((List Int)×Bool):=
 (Xle v (true,0,[])).bind fun v6=>some (v6.2,v6.1)
namespace Xg9
def G:Gam:=mkG [(206,Xjv.FS)]
theorem Gok:GOk PR G:=.cons Xjv.ok .nil
end Xg9
namespace Xle
def c:=Yap (Yaf Proofs.Tryz.f170) [1,1,1,0,1,0,0]
def sp:SP:=⟨[(0,.cs (.sl Xb)),(4,.seg 4 []),(5,.cs .bool),(6,.cs I64)],[(4,.reg,.cd SI)]⟩
def fr:=Yja sp (fun x s=>Xle.B x.1.1 s.1 s.2.1 s.2.2) (fun x=>(x.1.2.2.1,x.1.2.2.2.1,x.2.1)) fun x (bb0:Bool×List Int) _ kk0=>kk0 (.ex 0) ⟨[(4,.seg 4 []),(5,.cs .bool bb0.1)],[sr 4 (.cd SI bb0.2)]⟩
theorem ok:Ya7 PR 29 1 (.loop c) fr:=
 Yxo Xe Xf h0 (G:=Xg9.G) Xg9.Gok [(0,([4,5],[4]))] (fun x s=>((x.1.1,x.1.2.1,s.1,s.2.1,x.1.2.2.2.2),(s.2.2,x.2.2)))
  (fun x s=>by simp only[B,mC,mB,mS,mO,mN];kernel_rfl)
end Xle
namespace Xg9
def pts:List PT:=[.cs (.sl Xb)]
def FS:FS:=Ybk [.sh] pts (fun x=>Xg9 x.1) fun t=>⟨[.cd SI t.1,.cs .bool t.2],[]⟩
theorem ok:Yb2 PR 170 FS:=
 Yxn Xe Xf Proofs.Tryz.f170 h0 (.R (.R (.R (.L (.R (.one (.fr 0))))))) (G:=G) Gok (L:=mkL [(0,Xle.fr)]) (l:=[(0,.loop Xle.c)]) ⟨Lam.cons Xle.ok,trivial⟩
  (fun x=>by simp only[Xg9,mC,mB,mS,mO,mN];kernel_rfl)
end Xg9
def Xk7.B (v:Fs_) (v4:Int):Option (Int⊕((Int⊕Unit))):=
 cond (decide (v4<(v.2.1.length:Int))) (cond (inB v4 v.2.1.length) ((some (decide (((v.2.1.getD v4.toNat []).length:Int)>8))).bind fun v5=>cond v5 (some (.inr (.inl 2))) (some (.inl (w64 (v4+1))))) none) (some (.inr (.inr ())))
def Xk7 (v:Fs_):Int→Option ((Int⊕Unit)):=
 Y9 fun s=>Xk7.B v s
def Xis.B (v:Fs_) (v10:Int) (v11:Int):Option (Int⊕((Int⊕Unit))):=
 cond (inB v10 v.1.length) ((some ((v.1.getD v10.toNat Xc).2.2.2.2.1.length:Int)).bind fun v12=>cond (decide (v11<v12)) (cond (inB v10 v.1.length) (cond (inB v11 ((v.1.getD v10.toNat Xc).2.2.2.2.1.length)) ((some ((v.1.getD v10.toNat Xc).2.2.2.2.1.getD v11.toNat Xm).2.1).bind fun v13=>cond (cond (!(decide (v13≥(v.1.length:Int)))) (inB v13 v.1.length) true) ((some (cond (decide (v13≥(v.1.length:Int))) true ((v.1.getD v13.toNat Xc).1 == 0))).bind fun v14=>cond v14 (some (.inr (.inl 4))) (some (.inl (w64 (v11+1))))) none) none) none) (some (.inr (.inr ())))) none
def Xis (v:Fs_) (v10:Int):Int→Option ((Int⊕Unit)):=
 Y9 fun s=>Xis.B v v10 s
def Xk4.B (v:Fs_) (v10:Int):Option (Int⊕((Int⊕Unit))):=
 cond (decide (v10<(v.1.length:Int))) ((Xis v v10 0).bind fun v15=>sel v15 (fun v16=>some (.inr (.inl v16))) (fun v17=>some (.inl (w64 (v10+1))))) (some (.inr (.inr ())))
def Xk4 (v:Fs_):Int→Option ((Int⊕Unit)):=
 Y9 fun s=>Xk4.B v s
def Xe1 (v:Fs_):Option Int:=
 (Xkc v.1).bind fun v2=>cond (v2 != 0) (some v2) (cond (cond (!((v.1.length:Int) == 0)) (inB 0 v.1.length) true) ((some (cond ((v.1.length:Int) == 0) true ((v.1.getD (0:Int).toNat Xc).1 != 2))).bind fun v3=>cond (cond v3 true ((v.2.1.length:Int) != 20)) (some 1) ((Xk7 v 0).bind fun v6=>sel v6 (fun v7=>some v7) (fun v8=>(Xg9 v.1).bind fun v9=>cond (!v9.2) (some 7) ((Xk4 v 0).bind fun v18=>sel v18 (fun v19=>some v19) (fun v20=>some 0))))) none)
namespace Xe1
def G:Gam:=mkG [(169,Xkc.FS),(170,Xg9.FS)]
theorem Gok:GOk PR G:=.cons Xkc.ok (.cons Xg9.ok .nil)
end Xe1
namespace Xk7
def c:=Yap (Yaf Proofs.Tryz.f96) [1,1,1,0,1,0,0]
def sp:SP:=⟨[(0,.pt Xo),(4,.cs I64)],[]⟩
def fr:=Yja sp (fun x s=>Xk7.B x.1.1 s) (fun x=>x.1.2.1) fun x (oo0:(Int⊕Unit)) _ kk0=>sel oo0 (fun bb0=>kk0 (.rt) ⟨[(2,.cs I64 bb0)],[]⟩) (fun cc0=>kk0 (.ex 0) ⟨[(0,.pt Xo x.1.1)],[]⟩)
theorem ok:Ya7 PR 122 1 (.loop c) fr:=
 Yt2 Xe Xf h0 .no (G:=Xe1.G) Xe1.Gok (L:=mkL []) (l:=[]) hT [(0,([0],[]))] ([2],[]) (fun x s=>((x.1.1,s,x.1.2.2),x.2))
  (fun x s=>by simp only[B,mC,mB,mS,mO,mN];kernel_rfl)
end Xk7
namespace Xis
def c:=Yap (Yaf Proofs.Tryz.f96) [1,1,1,1,1,0,1,0,0,1,0,0,1,0,0]
def sp:SP:=⟨[(0,.pt Xo),(7,.cs I64),(8,.cs I64)],[]⟩
def fr:=Yja sp (fun x s=>Xis.B x.1.1 x.1.2.1 s) (fun x=>x.1.2.2.1) fun x (oo0:(Int⊕Unit)) _ kk0=>sel oo0 (fun bb0=>kk0 (.rt) ⟨[(2,.cs I64 bb0)],[]⟩) (fun cc0=>kk0 (.ex 4) ⟨[(0,.pt Xo x.1.1),(7,.cs I64 x.1.2.1)],[]⟩)
theorem ok:Ya7 PR 122 1 (.loop c) fr:=
 Yt2 Xe Xf h0 .no (G:=Xe1.G) Xe1.Gok (L:=mkL []) (l:=[]) hT [(4,([0,7],[]))] ([2],[]) (fun x s=>((x.1.1,x.1.2.1,s,x.1.2.2.2),x.2))
  (fun x s=>by simp only[B,mC,mB,mS,mO,mN];kernel_rfl)
end Xis
namespace Xk4
def c:=Yap (Yaf Proofs.Tryz.f96) [1,1,1,1,1,0,1,0,0]
def sp:SP:=⟨[(0,.pt Xo),(7,.cs I64)],[]⟩
def fr:=Yja sp (fun x s=>Xk4.B x.1.1 s) (fun x=>x.1.2.1) fun x (oo0:(Int⊕Unit)) _ kk0=>sel oo0 (fun bb0=>kk0 (.rt) ⟨[(2,.cs I64 bb0)],[]⟩) (fun cc0=>kk0 (.ex 2) ⟨[],[]⟩)
theorem ok:Ya7 PR 122 1 (.loop c) fr:=
 Yt2 Xe Xf h0 (.R (.L (.one (.R (.one (.fr 2)))))) (G:=Xe1.G) Xe1.Gok (L:=mkL [(2,Xis.fr)]) (l:=[(2,.loop Xis.c)]) ⟨Lam.cons Xis.ok,trivial⟩ [(2,([],[]))] ([2],[]) (fun x s=>((x.1.1,s,x.1.2.2),x.2))
  (fun x s=>by simp only[B,mC,mB,mS,mO,mN];kernel_rfl)
end Xk4
namespace Xe1
def pts:List PT:=[.pt Xo]
def FS:FS:=Ybk [.sh] pts (fun x=>Xe1 x.1) fun t=>⟨[.cs I64 t],[]⟩
theorem ok:Yb2 PR 96 FS:=
 Yxn Xe Xf Proofs.Tryz.f96 h0 (.R (.R (.R (.two (.R (.one (.fr 0))) (.R (.L (.R (.one (.fr 1))))))))) (G:=G) Gok (L:=mkL [(0,Xk7.fr),(2,Xis.fr),(1,Xk4.fr)]) (l:=[(0,.loop Xk7.c),(1,.loop Xk4.c)]) ⟨Lam.cons Xk7.ok,Lam.skip rfl (Lam.skip rfl (Lam.cons Xk4.ok)),trivial⟩
  (fun x=>by simp only[Xe1,mC,mB,mS,mO,mN];kernel_rfl)
end Xe1
def Xhb.B (v:Fs_) (v3:Int) (v5:Int) (v7:Int) (v8:List Bool):Option ((Int×List Bool)⊕(List Bool)):=
 cond (inB v5 v8.length) (cond (cond (v8.getD v5.toNat false) (inB v5 v.1.length) true) ((some (cond (v8.getD v5.toNat false) (decide (v7<((v.1.getD v5.toNat Xc).2.2.2.2.1.length:Int))) false)).bind fun v9=>cond v9 (cond (inB v5 v.1.length) (cond (inB v7 ((v.1.getD v5.toNat Xc).2.2.2.2.1.length)) ((some ((v.1.getD v5.toNat Xc).2.2.2.2.1.getD v7.toNat Xm).2.1).bind fun v10=>cond (inB v10 v8.length) (some (.inl (w64 (v7+1),v8.set v10.toNat true))) none) none) none) (some (.inr v8))) none) none
def Xhb (v:Fs_) (v3:Int) (v5:Int):(Int×List Bool)→Option (List Bool):=
 Y9 fun s=>Xhb.B v v3 v5 s.1 s.2
def Xh6.B (v:Fs_) (v3:Int) (v5:Int) (v6:List Bool):Option ((Int×List Bool)⊕(List Bool)):=
 cond (decide (v5<(v.1.length:Int))) ((Xhb v v3 v5 (0,v6)).bind fun v11=>some (.inl (w64 (v5+1),v11))) (some (.inr v6))
def Xh6 (v:Fs_) (v3:Int):(Int×List Bool)→Option (List Bool):=
 Y9 fun s=>Xh6.B v v3 s.1 s.2
def Xjq.B (v:Fs_) (v3:Int) (v4:List Bool):Option ((Int×List Bool)⊕(List Bool)):=
 cond (decide (v3<(v.1.length:Int))) ((Xh6 v v3 (0,v4)).bind fun v12=>some (.inl (w64 (v3+1),v12))) (some (.inr v4))
def Xjq (v:Fs_):(Int×List Bool)→Option (List Bool):=
 Y9 fun s=>Xjq.B v s.1 s.2
def Xjz.B (v13:List Bool) (v14:Int) (v15:List Int):Option ((Int×List Int)⊕(List Int)):=
 cond (decide (v14<(v13.length:Int))) (cond (inB v14 v13.length) (cond (v13.getD v14.toNat false) (cond (decide ((v15++([v14])).length≤2147483648)) (some (.inl (w64 (v14+1),v15++([v14])))) none) (some (.inl (w64 (v14+1),v15)))) none) (some (.inr v15))
def Xjz (v13:List Bool):(Int×List Int)→Option (List Int):=
 Y9 fun s=>Xjz.B v13 s.1 s.2
def Xm2 (v:Fs_):Option (List Int):=
 cond (decide ((0:Int)≤(v.1.length:Int))&&(decide ((v.1.length:Int)≤(v.1.length:Int))&&decide ((v.1.length:Int)≤2147483648))) (cond (inB 0 ((List.replicate (v.1.length:Int).toNat false).length)) ((some ((List.replicate (v.1.length:Int).toNat false).set ((0:Int).toNat) true)).bind fun v2=>(Xjq v (0,v2)).bind fun v13=>(Xjz v13 (0,[])).bind fun v16=>some v16) none) none
namespace Xhb
def c:=Yap (Yaf Proofs.Tryz.f171) [1,1,1,0,1,0,0,1,0,0,1,0,0,1,0,0,1,0,0]
def sp:SP:=⟨[(0,.pt Xo),(3,.seg 3 []),(4,.cs I64),(5,.cs I64),(6,.cs I64)],[(3,.reg,.cd (.sl .bool))]⟩
def fr:=Yja sp (fun x s=>Xhb.B x.1.1 x.1.2.2.1 x.1.2.2.2.1 s.1 s.2) (fun x=>(x.1.2.2.2.2.1,x.2.1)) fun x (bb0:List Bool) _ kk0=>kk0 (.ex 4) ⟨[(0,.pt Xo x.1.1),(3,.seg 3 []),(4,.cs I64 x.1.2.2.1),(5,.cs I64 x.1.2.2.2.1)],[sr 3 (.cd (.sl .bool) bb0)]⟩
theorem ok:Ya7 PR 84 1 (.loop c) fr:=
 Yxd Xe Xf h0 [(4,([0,3,4,5],[3]))] (fun x s=>((x.1.1,x.1.2.1,x.1.2.2.1,x.1.2.2.2.1,s.1,x.1.2.2.2.2.2),(s.2,x.2.2)))
  (fun x s=>by simp only[B,mC,mB,mS,mO,mN];kernel_rfl)
end Xhb
namespace Xh6
def c:=Yap (Yaf Proofs.Tryz.f171) [1,1,1,0,1,0,0,1,0,0,1,0,0]
def sp:SP:=⟨[(0,.pt Xo),(3,.seg 3 []),(4,.cs I64),(5,.cs I64)],[(3,.reg,.cd (.sl .bool))]⟩
def fr:=Yja sp (fun x s=>Xh6.B x.1.1 x.1.2.2.1 s.1 s.2) (fun x=>(x.1.2.2.2.1,x.2.1)) fun x (bb0:List Bool) _ kk0=>kk0 (.ex 2) ⟨[(0,.pt Xo x.1.1),(3,.seg 3 []),(4,.cs I64 x.1.2.2.1)],[sr 3 (.cd (.sl .bool) bb0)]⟩
theorem ok:Ya7 PR 84 1 (.loop c) fr:=
 Yxp Xe Xf h0 (.R (.L (.one (.R (.one (.fr 2)))))) (L:=mkL [(2,Xhb.fr)]) (l:=[(2,.loop Xhb.c)]) ⟨Lam.cons Xhb.ok,trivial⟩ [(2,([0,3,4],[3]))] (fun x s=>((x.1.1,x.1.2.1,x.1.2.2.1,s.1,x.1.2.2.2.2),(s.2,x.2.2)))
  (fun x s=>by simp only[B,mC,mB,mS,mO,mN];kernel_rfl)
end Xh6
namespace Xjq
def c:=Yap (Yaf Proofs.Tryz.f171) [1,1,1,0,1,0,0]
def sp:SP:=⟨[(0,.pt Xo),(3,.seg 3 []),(4,.cs I64)],[(3,.reg,.cd (.sl .bool))]⟩
def fr:=Yja sp (fun x s=>Xjq.B x.1.1 s.1 s.2) (fun x=>(x.1.2.2.1,x.2.1)) fun x (bb0:List Bool) _ kk0=>kk0 (.ex 0) ⟨[(3,.seg 3 [])],[sr 3 (.cd (.sl .bool) bb0)]⟩
theorem ok:Ya7 PR 84 1 (.loop c) fr:=
 Yxp Xe Xf h0 (.R (.L (.one (.R (.one (.fr 1)))))) (L:=mkL [(2,Xhb.fr),(1,Xh6.fr)]) (l:=[(1,.loop Xh6.c)]) ⟨Lam.skip rfl (Lam.cons Xh6.ok),trivial⟩ [(0,([3],[3]))] (fun x s=>((x.1.1,x.1.2.1,s.1,x.1.2.2.2),(s.2,x.2.2)))
  (fun x s=>by simp only[B,mC,mB,mS,mO,mN];kernel_rfl)
end Xjq
namespace Xjz
def c:=Yap (Yaf Proofs.Tryz.f171) [1,1,1,1,1,0,1,0,0]
def sp:SP:=⟨[(3,.seg 3 []),(7,.seg 7 []),(8,.cs I64)],[(3,.reg,.cd (.sl .bool)),(7,.reg,.cd SI)]⟩
def fr:=Yja sp (fun x s=>Xjz.B x.2.1 s.1 s.2) (fun x=>(x.1.2.2.1,x.2.2.1)) fun x (bb0:List Int) _ kk0=>kk0 (.ex 6) ⟨[(7,.seg 7 [])],[sr 7 (.cd SI bb0)]⟩
theorem ok:Ya7 PR 84 1 (.loop c) fr:=
 Yxd Xe Xf h0 [(6,([7],[7]))] (fun x s=>((x.1.1,x.1.2.1,s.1,x.1.2.2.2),(x.2.1,s.2,x.2.2.2)))
  (fun x s=>by simp only[B,mC,mB,mS,mO,mN];kernel_rfl)
end Xjz
namespace Xm2
def pts:List PT:=[.pt Xo]
def FS:FS:=Ybk [.sh] pts (fun x=>Xm2 x.1) fun t=>⟨[.cd SI t],[]⟩
theorem ok:Yb2 PR 171 FS:=
 Yxn Xe Xf Proofs.Tryz.f171 h0 (.R (.R (.R (.two (.R (.one (.fr 0))) (.R (.L (.R (.one (.fr 3))))))))) (G:=(mkG [])) .nil (L:=mkL [(2,Xhb.fr),(1,Xh6.fr),(0,Xjq.fr),(3,Xjz.fr)]) (l:=[(0,.loop Xjq.c),(3,.loop Xjz.c)]) ⟨Lam.skip rfl (Lam.skip rfl (Lam.cons Xjq.ok)),Lam.skip rfl (Lam.skip rfl (Lam.skip rfl (Lam.cons Xjz.ok))),trivial⟩
  (fun x=>by simp only[Xm2,mC,mB,mS,mO,mN];kernel_rfl)
end Xm2
def Xh7.B (v:List Xa) (v2:Int) (v4:Int) (v5:Int) (v6:Int):Option ((Int×Int)⊕Int):=
 cond (inB v4 v.length) ((some ((v.getD v4.toNat Xc).2.2.2.2.1.length:Int)).bind fun v7=>cond (decide (v6<v7)) (cond (inB v4 v.length) (cond (inB v6 ((v.getD v4.toNat Xc).2.2.2.2.1.length)) ((some ((v.getD v4.toNat Xc).2.2.2.2.1.getD v6.toNat Xm).2.1).bind fun v8=>cond (v8 == v2) (some (.inl (w64 (v5+1),w64 (v6+1)))) (some (.inl (v5,w64 (v6+1))))) none) none) (some (.inr v5))) none
def Xh7 (v:List Xa) (v2:Int) (v4:Int):(Int×Int)→Option Int:=
 Y9 fun s=>Xh7.B v v2 v4 s.1 s.2
def Xjj.B (v:List Xa) (v2:Int) (v3:Int) (v4:Int):Option ((Int×Int)⊕Int):=
 cond (decide (v4<(v.length:Int))) ((Xh7 v v2 v4 (v3,0)).bind fun v9=>some (.inl (v9,w64 (v4+1)))) (some (.inr v3))
def Xjj (v:List Xa) (v2:Int):(Int×Int)→Option Int:=
 Y9 fun s=>Xjj.B v v2 s.1 s.2
def Xmo (v:List Xa) (v2:Int):Option Int:=
 (Xjj v v2 (0,0)).bind fun v10=>some v10
namespace Xh7
def c:=Yap (Yaf Proofs.Tryz.f172) [1,1,0,1,0,0,1,0,0,1,0,0]
def sp:SP:=⟨[(0,.cs (.sl Xb)),(1,.cs I64),(5,.cs I64),(6,.cs I64),(7,.cs I64)],[]⟩
def fr:=Yja sp (fun x s=>Xh7.B x.1.1 x.1.2.1 x.1.2.2.2.1 s.1 s.2) (fun x=>(x.1.2.2.1,x.1.2.2.2.2.1)) fun x (bb0:Int) _ kk0=>kk0 (.ex 2) ⟨[(0,.cs (.sl Xb) x.1.1),(1,.cs I64 x.1.2.1),(5,.cs I64 bb0),(6,.cs I64 x.1.2.2.2.1)],[]⟩
theorem ok:Ya7 PR 38 2 (.loop c) fr:=
 Yxd Xe Xf h0 [(2,([0,1,5,6],[]))] (fun x s=>((x.1.1,x.1.2.1,s.1,x.1.2.2.2.1,s.2,x.1.2.2.2.2.2),x.2))
  (fun x s=>by simp only[B,mC,mB,mS,mO,mN];kernel_rfl)
end Xh7
namespace Xjj
def c:=Yap (Yaf Proofs.Tryz.f172) [1,1,0,1,0,0]
def sp:SP:=⟨[(0,.cs (.sl Xb)),(1,.cs I64),(5,.cs I64),(6,.cs I64)],[]⟩
def fr:=Yja sp (fun x s=>Xjj.B x.1.1 x.1.2.1 s.1 s.2) (fun x=>(x.1.2.2.1,x.1.2.2.2.1)) fun x (bb0:Int) _ kk0=>kk0 (.ex 0) ⟨[(5,.cs I64 bb0)],[]⟩
theorem ok:Ya7 PR 38 2 (.loop c) fr:=
 Yxp Xe Xf h0 (.R (.L (.one (.R (.one (.fr 1)))))) (L:=mkL [(1,Xh7.fr)]) (l:=[(1,.loop Xh7.c)]) ⟨Lam.cons Xh7.ok,trivial⟩ [(0,([5],[]))] (fun x s=>((x.1.1,x.1.2.1,s.1,s.2,x.1.2.2.2.2),x.2))
  (fun x s=>by simp only[B,mC,mB,mS,mO,mN];kernel_rfl)
end Xjj
namespace Xmo
def pts:List PT:=[.cs (.sl Xb),.cs I64]
def FS:FS:=Ybk [.sh,.sh] pts (fun x=>Xmo x.1 x.2.1) fun t=>⟨[.cs I64 t],[]⟩
theorem ok:Yb2 PR 172 FS:=
 Yxn Xe Xf Proofs.Tryz.f172 h0 (.R (.R (.L (.R (.one (.fr 0)))))) (G:=(mkG [])) .nil (L:=mkL [(1,Xh7.fr),(0,Xjj.fr)]) (l:=[(0,.loop Xjj.c)]) ⟨Lam.skip rfl (Lam.cons Xjj.ok),trivial⟩
  (fun x=>by simp only[Xmo,mC,mB,mS,mO,mN];kernel_rfl)
end Xmo
def Xk6.B (v:List Int) (v2:Int) (v3:Int):Option (Int⊕((Bool⊕Unit))):=
 cond (decide (v3<(v.length:Int))) (cond (inB v3 v.length) (cond ((v.getD v3.toNat 0) == v2) (some (.inr (.inl true))) (some (.inl (w64 (v3+1))))) none) (some (.inr (.inr ())))
def Xk6 (v:List Int) (v2:Int):Int→Option ((Bool⊕Unit)):=
 Y9 fun s=>Xk6.B v v2 s
def Xlu (v:List Int) (v2:Int):Option Bool:=
 (Xk6 v v2 0).bind fun v4=>sel v4 (fun v5=>some v5) (fun v6=>some false)
namespace Xk6
def c:=Yap (Yaf Proofs.Tryz.f173) [1,0,1,0,0]
def sp:SP:=⟨[(0,.cs SI),(1,.cs I64),(5,.cs I64)],[]⟩
def fr:=Yja sp (fun x s=>Xk6.B x.1.1 x.1.2.1 s) (fun x=>x.1.2.2.1) fun x (oo0:(Bool⊕Unit)) _ kk0=>sel oo0 (fun bb0=>kk0 (.rt) ⟨[(4,.cs .bool bb0)],[]⟩) (fun cc0=>kk0 (.ex 0) ⟨[],[]⟩)
theorem ok:Ya7 PR 18 2 (.loop c) fr:=
 Yt2 Xe Xf h0 .no (G:=(mkG [])) .nil (L:=mkL []) (l:=[]) hT [(0,([],[]))] ([4],[]) (fun x s=>((x.1.1,x.1.2.1,s,x.1.2.2.2),x.2))
  (fun x s=>by simp only[B,mC,mB,mS,mO,mN];kernel_rfl)
end Xk6
namespace Xlu
def pts:List PT:=[.cs SI,.cs I64]
def FS:FS:=Ybk [.sh,.sh] pts (fun x=>Xlu x.1 x.2.1) fun t=>⟨[.cs .bool t],[]⟩
theorem ok:Yb2 PR 173 FS:=
 Yxn Xe Xf Proofs.Tryz.f173 h0 (.R (.L (.R (.one (.fr 0))))) (G:=(mkG [])) .nil (L:=mkL [(0,Xk6.fr)]) (l:=[(0,.loop Xk6.c)]) ⟨Lam.cons Xk6.ok,trivial⟩
  (fun x=>by simp only[Xlu,mC,mB,mS,mO,mN];kernel_rfl)
end Xlu
def Xlf.B (v:Fs_) (v2:List Int) (v3:Int):Option (Int⊕((Bool⊕Unit))):=
 cond (decide (v3<(v.1.length:Int))) (cond (inB v3 v.1.length) ((Xmo v.1 v3).bind fun v4=>cond ((v.1.getD v3.toNat Xc).1 == 0) (some (.inl (w64 (v3+1)))) (cond ((v.1.getD v3.toNat Xc).1 == 1) (cond (v4 != (v.1.getD v3.toNat Xc).2.1) (some (.inr (.inl false))) ((Xlu v2 v3).bind fun v5=>cond (!v5) (some (.inr (.inl false))) (some (.inl (w64 (v3+1)))))) (cond (v3 == 0) (cond (v4 != 0) (some (.inr (.inl false))) ((Xlu v2 v3).bind fun v6=>cond (!v6) (some (.inr (.inl false))) (some (.inl (w64 (v3+1)))))) (cond (v4 != 1) (some (.inr (.inl false))) ((Xlu v2 v3).bind fun v7=>cond (!v7) (some (.inr (.inl false))) (some (.inl (w64 (v3+1))))))))) none) (some (.inr (.inr ())))
def Xlf (v:Fs_) (v2:List Int):Int→Option ((Bool⊕Unit)):=
 Y9 fun s=>Xlf.B v v2 s
def Xj3 (v:Fs_):Option Bool:=
 (Xm2 v).bind fun v2=>(Xlf v v2 0).bind fun v8=>sel v8 (fun v9=>some v9) (fun v10=>some true)
namespace Xj3
def G:Gam:=mkG [(171,Xm2.FS),(172,Xmo.FS),(173,Xlu.FS)]
theorem Gok:GOk PR G:=.cons Xm2.ok (.cons Xmo.ok (.cons Xlu.ok .nil))
end Xj3
namespace Xlf
def c:=Yap (Yaf Proofs.Tryz.f97) [1,1,0,1,0,0]
def sp:SP:=⟨[(0,.pt Xo),(3,.seg 3 []),(4,.cs I64)],[(3,.reg,.cd SI)]⟩
def fr:=Yja sp (fun x s=>Xlf.B x.1.1 x.2.1 s) (fun x=>x.1.2.2.1) fun x (oo0:(Bool⊕Unit)) _ kk0=>sel oo0 (fun bb0=>kk0 (.rt) ⟨[(2,.cs .bool bb0)],[]⟩) (fun cc0=>kk0 (.ex 0) ⟨[],[]⟩)
theorem ok:Ya7 PR 59 1 (.loop c) fr:=
 Yt2 Xe Xf h0 .no (G:=Xj3.G) Xj3.Gok (L:=mkL []) (l:=[]) hT [(0,([],[]))] ([2],[]) (fun x s=>((x.1.1,x.1.2.1,s,x.1.2.2.2),x.2))
  (fun x s=>by simp only[B,mC,mB,mS,mO,mN];kernel_rfl)
end Xlf
namespace Xj3
def pts:List PT:=[.pt Xo]
def FS:FS:=Ybk [.sh] pts (fun x=>Xj3 x.1) fun t=>⟨[.cs .bool t],[]⟩
theorem ok:Yb2 PR 97 FS:=
 Yxn Xe Xf Proofs.Tryz.f97 h0 (.R (.R (.L (.R (.one (.fr 0)))))) (G:=G) Gok (L:=mkL [(0,Xlf.fr)]) (l:=[(0,.loop Xlf.c)]) ⟨Lam.cons Xlf.ok,trivial⟩
  (fun x=>by simp only[Xj3,mC,mB,mS,mO,mN];kernel_rfl)
end Xj3
def Xk9 (v:Int) (v2:Int):Option Int:=
 cond (decide (v<v2)) (some v) (some v2)
namespace Xk9
def pts:List PT:=[.cs I64,.cs I64]
def FS:FS:=Ybk [.sh,.sh] pts (fun x=>Xk9 x.1 x.2.1) fun t=>⟨[.cs I64 t],[]⟩
theorem ok:Yb2 PR 174 FS:=
 Yxn Xe Xf Proofs.Tryz.f174 h0 .no (G:=(mkG [])) .nil (L:=mkL []) (l:=[]) hT
  (fun x=>by simp only[Xk9,mC,mB,mS,mO,mN];kernel_rfl)
end Xk9
def Xh4.B (v:Fs_) (v2:Int) (v4:Xa) (v5:Int) (v6:List Int):Option ((Int×List Int)⊕(List Int)):=
 cond (decide (v5<(v4.2.2.2.1.length:Int))) (cond (inB v5 v4.2.2.2.1.length) ((Xk9 8 (w64 (v4.2.2.1-(w64 (v5*8))))).bind fun v7=>cond (inB (v4.2.2.2.1.getD v5.toNat 0) v6.length) (some (.inl (w64 (v5+1),v6.set ((v4.2.2.2.1.getD v5.toNat 0).toNat) v7))) none) none) (some (.inr v6))
def Xh4 (v:Fs_) (v2:Int) (v4:Xa):(Int×List Int)→Option (List Int):=
 Y9 fun s=>Xh4.B v v2 v4 s.1 s.2
def Xjl.B (v:Fs_) (v2:Int) (v3:List Int):Option ((Int×List Int)⊕(List Int)):=
 cond (decide (v2<(v.1.length:Int))) (cond (inB v2 v.1.length) ((Xh4 v v2 (v.1.getD v2.toNat Xc) (0,v3)).bind fun v8=>some (.inl (w64 (v2+1),v8))) none) (some (.inr v3))
def Xjl (v:Fs_):(Int×List Int)→Option (List Int):=
 Y9 fun s=>Xjl.B v s.1 s.2
def Xlb.B (v:Fs_) (v9:List Int) (v10:Int):Option (Int⊕((Bool⊕Unit))):=
 cond (decide (v10<(v.2.1.length:Int))) (cond (inB v10 v.2.1.length) (cond (inB v10 v9.length) ((some (((v.2.1.getD v10.toNat []).length:Int) != (v9.getD v10.toNat 0))).bind fun v11=>cond v11 (some (.inr (.inl false))) (some (.inl (w64 (v10+1))))) none) none) (some (.inr (.inr ())))
def Xlb (v:Fs_) (v9:List Int):Int→Option ((Bool⊕Unit)):=
 Y9 fun s=>Xlb.B v v9 s
def Xgv (v:Fs_):Option Bool:=
 cond (decide ((0:Int)≤(20:Int))&&(decide ((20:Int)≤(20:Int))&&decide ((20:Int)≤2147483648))) ((Xjl v (0,List.replicate (20:Int).toNat 0)).bind fun v9=>(Xlb v v9 0).bind fun v12=>sel v12 (fun v13=>some v13) (fun v14=>some true)) none
namespace Xgv
def G:Gam:=mkG [(174,Xk9.FS)]
theorem Gok:GOk PR G:=.cons Xk9.ok .nil
end Xgv
namespace Xh4
def c:=Yap (Yaf Proofs.Tryz.f98) [1,1,0,1,0,0,1,0,0,1,1,0,0]
def sp:SP:=⟨[(0,.pt Xo),(3,.seg 3 []),(4,.cs I64),(5,.pt Xb),(6,.cs I64)],[(3,.reg,.cd SI)]⟩
def fr:=Yja sp (fun x s=>Xh4.B x.1.1 x.1.2.2.1 x.1.2.2.2.1 s.1 s.2) (fun x=>(x.1.2.2.2.2.1,x.2.1)) fun x (bb0:List Int) _ kk0=>kk0 (.ex 2) ⟨[(0,.pt Xo x.1.1),(3,.seg 3 []),(4,.cs I64 x.1.2.2.1)],[sr 3 (.cd SI bb0)]⟩
theorem ok:Ya7 PR 72 1 (.loop c) fr:=
 Yxo Xe Xf h0 (G:=Xgv.G) Xgv.Gok [(2,([0,3,4],[3]))] (fun x s=>((x.1.1,x.1.2.1,x.1.2.2.1,x.1.2.2.2.1,s.1,x.1.2.2.2.2.2),(s.2,x.2.2)))
  (fun x s=>by simp only[B,mC,mB,mS,mO,mN];kernel_rfl)
end Xh4
namespace Xjl
def c:=Yap (Yaf Proofs.Tryz.f98) [1,1,0,1,0,0]
def sp:SP:=⟨[(0,.pt Xo),(3,.seg 3 []),(4,.cs I64)],[(3,.reg,.cd SI)]⟩
def fr:=Yja sp (fun x s=>Xjl.B x.1.1 s.1 s.2) (fun x=>(x.1.2.2.1,x.2.1)) fun x (bb0:List Int) _ kk0=>kk0 (.ex 0) ⟨[(0,.pt Xo x.1.1),(3,.seg 3 [])],[sr 3 (.cd SI bb0)]⟩
theorem ok:Ya7 PR 72 1 (.loop c) fr:=
 Yxs Xe Xf h0 (.R (.L (.one (.R (.R (.one (.fr 1))))))) (G:=Xgv.G) Xgv.Gok (L:=mkL [(1,Xh4.fr)]) (l:=[(1,.loop Xh4.c)]) ⟨Lam.cons Xh4.ok,trivial⟩ [(0,([0,3],[3]))] (fun x s=>((x.1.1,x.1.2.1,s.1,x.1.2.2.2),(s.2,x.2.2)))
  (fun x s=>by simp only[B,mC,mB,mS,mO,mN];kernel_rfl)
end Xjl
namespace Xlb
def c:=Yap (Yaf Proofs.Tryz.f98) [1,1,1,0,1,0,0]
def sp:SP:=⟨[(0,.pt Xo),(3,.seg 3 []),(7,.cs I64)],[(3,.reg,.cd SI)]⟩
def fr:=Yja sp (fun x s=>Xlb.B x.1.1 x.2.1 s) (fun x=>x.1.2.2.1) fun x (oo0:(Bool⊕Unit)) _ kk0=>sel oo0 (fun bb0=>kk0 (.rt) ⟨[(2,.cs .bool bb0)],[]⟩) (fun cc0=>kk0 (.ex 4) ⟨[],[]⟩)
theorem ok:Ya7 PR 72 1 (.loop c) fr:=
 Yt2 Xe Xf h0 .no (G:=Xgv.G) Xgv.Gok (L:=mkL []) (l:=[]) hT [(4,([],[]))] ([2],[]) (fun x s=>((x.1.1,x.1.2.1,s,x.1.2.2.2),x.2))
  (fun x s=>by simp only[B,mC,mB,mS,mO,mN];kernel_rfl)
end Xlb
namespace Xgv
def pts:List PT:=[.pt Xo]
def FS:FS:=Ybk [.sh] pts (fun x=>Xgv x.1) fun t=>⟨[.cs .bool t],[]⟩
theorem ok:Yb2 PR 98 FS:=
 Yxn Xe Xf Proofs.Tryz.f98 h0 (.R (.R (.two (.R (.one (.fr 0))) (.L (.R (.one (.fr 2))))))) (G:=G) Gok (L:=mkL [(1,Xh4.fr),(0,Xjl.fr),(2,Xlb.fr)]) (l:=[(0,.loop Xjl.c),(2,.loop Xlb.c)]) ⟨Lam.skip rfl (Lam.cons Xjl.ok),Lam.skip rfl (Lam.skip rfl (Lam.cons Xlb.ok)),trivial⟩
  (fun x=>by simp only[Xgv,mC,mB,mS,mO,mN];kernel_rfl)
end Xgv
def Xhd (v:Fs_):Option Int:=
 (Xe1 v).bind fun v2=>cond (v2 != 0) (some v2) ((Xj3 v).bind fun v3=>cond (!v3) (some 1) ((Xgv v).bind fun v4=>cond (!v4) (some 1) (some 0)))
namespace Xhd
def G:Gam:=mkG [(96,Xe1.FS),(97,Xj3.FS),(98,Xgv.FS)]
def pts:List PT:=[.pt Xo]
def FS:FS:=Ybk [.sh] pts (fun x=>Xhd x.1) fun t=>⟨[.cs I64 t],[]⟩
theorem ok:Yb2 PR 47 FS:=
 Yxn Xe Xf Proofs.Tryz.f47 h0 .no (G:=G) (show GOk PR G from .cons Xe1.ok (.cons Xj3.ok (.cons Xgv.ok .nil))) (L:=mkL []) (l:=[]) hT
  (fun x=>by simp only[Xhd,mC,mB,mS,mO,mN];kernel_rfl)
end Xhd
def Xil (v:List Int) (v2:Int):Option Int:=
 cond (decide (v2<(v.length:Int))) (cond (inB v2 v.length) (some (v.getD v2.toNat 0)) none) (some 0)
namespace Xil
def pts:List PT:=[.cs SI,.cs I64]
def FS:FS:=Ybk [.sh,.sh] pts (fun x=>Xil x.1 x.2.1) fun t=>⟨[.cs I64 t],[]⟩
theorem ok:Yb2 PR 228 FS:=
 Yxn Xe Xf Proofs.Tryz.f228 h0 .no (G:=(mkG [])) .nil (L:=mkL []) (l:=[]) hT
  (fun x=>by simp only[Xil,mC,mB,mS,mO,mN];kernel_rfl)
end Xil
def Xaq (v:List Int):Option (List Int):=
 cond (decide (([]++v).length≤2147483648)) (some ([]++v)) none
namespace Xaq
def pts:List PT:=[.cs SI]
def FS:FS:=Ybk [.sh] pts (fun x=>Xaq x.1) fun t=>⟨[.cd SI t],[]⟩
theorem ok:Yb2 PR 103 FS:=
 Yxn Xe Xf Proofs.Tryz.f103 h0 .no (G:=(mkG [])) .nil (L:=mkL []) (l:=[]) hT
  (fun x=>by simp only[Xaq,mC,mB,mS,mO,mN];kernel_rfl)
end Xaq
def Xh5.B (v:Xa) (v3:Int) (v9:Xg) (v7:Int) (v8:List Int):Option ((Int×List Int)⊕(List Int)):=
 cond (decide (v7<(v9.1.length:Int))) (cond (inB v7 v9.1.length) ((some (v8++([w64 (((v9.1.getD v7.toNat 0).toNat:Int))]))).bind fun v10=>cond (decide (v10.length≤2147483648)) (some (.inl (w64 (v7+1),v10))) none) none) (some (.inr v8))
def Xh5 (v:Xa) (v3:Int) (v9:Xg):(Int×List Int)→Option (List Int):=
 Y9 fun s=>Xh5.B v v3 v9 s.1 s.2
def Xke.B (v:Xa) (v3:Int) (v4:List Int):Option ((Int×List Int)⊕(List Int)):=
 cond (decide (v3<(v.2.2.2.2.1.length:Int))) (cond (inB v3 v.2.2.2.2.1.length) ((some ((v.2.2.2.2.1.getD v3.toNat Xm).1.length:Int)).bind fun v5=>(some (v4++([(v.2.2.2.2.1.getD v3.toNat Xm).2.1,v5]))).bind fun v6=>cond (decide (v6.length≤2147483648)) ((Xh5 v v3 (v.2.2.2.2.1.getD v3.toNat Xm) (0,v6)).bind fun v11=>some (.inl (w64 (v3+1),v11))) none) none) (some (.inr v4))
def Xke (v:Xa):(Int×List Int)→Option (List Int):=
 Y9 fun s=>Xke.B v s.1 s.2
def Xh1 (v:Xa):Option (List Int):=
 cond (decide ((([v.1,v.2.1,v.2.2.1])++v.2.2.2.1).length≤2147483648)) (cond (v.1 != 2) (some (([v.1,v.2.1,v.2.2.1])++v.2.2.2.1)) ((some ((([v.1,v.2.1,v.2.2.1])++v.2.2.2.1)++([(v.2.2.2.2.1.length:Int)]))).bind fun v2=>cond (decide (v2.length≤2147483648)) ((Xke v (0,v2)).bind fun v12=>some v12) none)) none
namespace Xh5
def c:=Yap (Yaf Proofs.Tryz.f176) [1,1,1,1,0,1,0,0,1,0,0,1,1,1,0,0]
def sp:SP:=⟨[(1,.pt Xb),(3,.seg 3 []),(4,.cs I64),(5,.loc 5 []),(6,.cs I64)],[(3,.reg,.cd SI),(5,.mem,.cd Xi)]⟩
def fr:=Yja sp (fun x s=>Xh5.B x.1.1 x.1.2.2.1 x.2.2.1 s.1 s.2) (fun x=>(x.1.2.2.2.2.1,x.2.1)) fun x (bb0:List Int) _ kk0=>kk0 (.ex 2) ⟨[(1,.pt Xb x.1.1),(3,.seg 3 []),(4,.cs I64 x.1.2.2.1)],[sr 3 (.cd SI bb0)]⟩
theorem ok:Ya7 PR 63 1 (.loop c) fr:=
 Yxd Xe Xf ⟨[1],[],[],0⟩ [(2,([1,3,4],[3]))] (fun x s=>((x.1.1,x.1.2.1,x.1.2.2.1,x.1.2.2.2.1,s.1,x.1.2.2.2.2.2),(s.2,x.2.2)))
  (fun x s=>by simp only[B,mC,mB,mS,mO,mN];kernel_rfl)
end Xh5
namespace Xke
def c:=Yap (Yaf Proofs.Tryz.f176) [1,1,1,1,0,1,0,0]
def sp:SP:=⟨[(1,.pt Xb),(3,.seg 3 []),(4,.cs I64)],[(3,.reg,.cd SI)]⟩
def fr:=Yja sp (fun x s=>Xke.B x.1.1 s.1 s.2) (fun x=>(x.1.2.2.1,x.2.1)) fun x (bb0:List Int) _ kk0=>kk0 (.ex 0) ⟨[(3,.seg 3 [])],[sr 3 (.cd SI bb0)]⟩
theorem ok:Ya7 PR 63 1 (.loop c) fr:=
 Yxp Xe Xf ⟨[1],[],[],0⟩ (.R (.L (.one (.R (.R (.R (.one (.fr 1)))))))) (L:=mkL [(1,Xh5.fr)]) (l:=[(1,.loop Xh5.c)]) ⟨Lam.cons Xh5.ok,trivial⟩ [(0,([3],[3]))] (fun x s=>((x.1.1,x.1.2.1,s.1,x.1.2.2.2),(s.2,x.2.2)))
  (fun x s=>by simp only[B,mC,mB,mS,mO,mN];kernel_rfl)
end Xke
namespace Xh1
def pts:List PT:=[.cs Xb]
def FS:FS:=Ybk [.sh] pts (fun x=>Xh1 x.1) fun t=>⟨[.cd SI t],[]⟩
theorem ok:Yb2 PR 176 FS:=
 Yxn Xe Xf Proofs.Tryz.f176 ⟨[1],[],[],0⟩ (.R (.R (.R (.R (.L (.R (.one (.fr 0)))))))) (G:=(mkG [])) .nil (L:=mkL [(1,Xh5.fr),(0,Xke.fr)]) (l:=[(0,.loop Xke.c)]) ⟨Lam.skip rfl (Lam.cons Xke.ok),trivial⟩
  (fun x=>by simp only[Xh1,mC,mB,mS,mO,mN];kernel_rfl)
end Xh1
def Xkb.B (v:List Int) (v2:List Int) (v3:Int):Option (Int⊕((Bool⊕Unit))):=
 cond (decide (v3<(v.length:Int))) (cond (inB v3 v.length) (cond (inB v3 v2.length) (cond ((v.getD v3.toNat 0) != (v2.getD v3.toNat 0)) (some (.inr (.inl false))) (some (.inl (w64 (v3+1))))) none) none) (some (.inr (.inr ())))
def Xkb (v:List Int) (v2:List Int):Int→Option ((Bool⊕Unit)):=
 Y9 fun s=>Xkb.B v v2 s
def Xgn (v:List Int) (v2:List Int):Option Bool:=
 cond ((v.length:Int) != (v2.length:Int)) (some false) ((Xkb v v2 0).bind fun v4=>sel v4 (fun v5=>some v5) (fun v6=>some true))
namespace Xkb
def c:=Yap (Yaf Proofs.Tryz.f175) [1,1,0,1,0,0]
def sp:SP:=⟨[(0,.cs SI),(1,.cs SI),(5,.cs I64)],[]⟩
def fr:=Yja sp (fun x s=>Xkb.B x.1.1 x.1.2.1 s) (fun x=>x.1.2.2.1) fun x (oo0:(Bool⊕Unit)) _ kk0=>sel oo0 (fun bb0=>kk0 (.rt) ⟨[(4,.cs .bool bb0)],[]⟩) (fun cc0=>kk0 (.ex 0) ⟨[],[]⟩)
theorem ok:Ya7 PR 26 2 (.loop c) fr:=
 Yt2 Xe Xf h0 .no (G:=(mkG [])) .nil (L:=mkL []) (l:=[]) hT [(0,([],[]))] ([4],[]) (fun x s=>((x.1.1,x.1.2.1,s,x.1.2.2.2),x.2))
  (fun x s=>by simp only[B,mC,mB,mS,mO,mN];kernel_rfl)
end Xkb
namespace Xgn
def pts:List PT:=[.cs SI,.cs SI]
def FS:FS:=Ybk [.sh,.sh] pts (fun x=>Xgn x.1 x.2.1) fun t=>⟨[.cs .bool t],[]⟩
theorem ok:Yb2 PR 175 FS:=
 Yxn Xe Xf Proofs.Tryz.f175 h0 (.R (.R (.L (.R (.one (.fr 0)))))) (G:=(mkG [])) .nil (L:=mkL [(0,Xkb.fr)]) (l:=[(0,.loop Xkb.c)]) ⟨Lam.cons Xkb.ok,trivial⟩
  (fun x=>by simp only[Xgn,mC,mB,mS,mO,mN];kernel_rfl)
end Xgn
def Xi3.B (v:List Int) (v7:Int) (v13:Int) (v16:Int) (v17:List Int) (v10:Int) (v18:Bool) (v8:Xa) (v9:Xa) (v14:Int) (v15:Int) (v19:Xg):Option ((Int×Int×Xg)⊕(Int×Xg)):=
 (some (cond (decide (v15<v13)) (decide (v15<8)) false)).bind fun v20=>cond v20 ((Xil v v14).bind fun v21=>cond (!((256:Int) == 0)) ((some (([IntKind.u8.wrap (v21.tmod 256)]).map fun n=>UInt8.ofNat n.toNat)).bind fun v22=>cond (decide (v19.1.length+v22.length≤2147483648)) (some (.inl (w64 (v14+1),w64 (v15+1),(v19.1++v22,v19.2)))) none) none) (some (.inr (v14,v19)))
def Xi3 (v:List Int) (v7:Int) (v13:Int) (v16:Int) (v17:List Int) (v10:Int) (v18:Bool) (v8:Xa) (v9:Xa):(Int×Int×Xg)→Option (Int×Xg):=
 Y9 fun s=>Xi3.B v v7 v13 v16 v17 v10 v18 v8 v9 s.1 s.2.1 s.2.2
def Xdm.B (v:List Int) (v8:Xa) (v6:Int) (v7:Int) (v9:Xa):Option ((Int×Int×Xa)⊕Xa):=
 cond (v9.1 == 2) ((Xil v 3).bind fun v10=>(some (cond (decide (v7<v10)) (decide (v6<(v.length:Int))) false)).bind fun v11=>cond v11 ((Xil v v6).bind fun v12=>(Xil v (w64 (v6+1))).bind fun v13=>(Xi3 v v7 v13 v7 v v10 (decide (v7<v10)) v8 v9 (w64 (v6+2),0,([],v12,()))).bind fun v23=>cond (decide ((v9.2.2.2.2.1++([v23.2])).length≤2147483648)) (some (.inl (v23.1,w64 (v7+1),(v9.1,v9.2.1,v9.2.2.1,v9.2.2.2.1,v9.2.2.2.2.1++([v23.2]),v9.2.2.2.2.2)))) none) (some (.inr v9))) (some (.inr v9))
def Xdm (v:List Int) (v8:Xa):(Int×Int×Xa)→Option Xa:=
 Y9 fun s=>Xdm.B v v8 s.1 s.2.1 s.2.2
def Xha (v:List Int):Option (Xa×Bool):=
 cond ((v.length:Int) == 0) (some ((0,0,0,[],[],()),true)) (cond (inB 0 v.length) ((Xil v 1).bind fun v2=>(Xil v 2).bind fun v3=>(some (cond ((v.getD (0:Int).toNat 0) == 1) (decide ((v.length:Int)>3)) false)).bind fun v4=>cond v4 (cond (decide ((0:Int)≤(3:Int))&&decide ((3:Int)≤(v.length:Int))) ((Xaq ((v.take v.length).drop ((3:Int).toNat))).bind fun v5=>(Xdm v (0,0,0,[],[],()) (4,0,(v.getD (0:Int).toNat 0,v2,v3,v5,[],()))).bind fun v24=>(Xhx v24).bind fun v25=>cond (v25 == 0) ((Xh1 (v24.1,v24.2.1,v24.2.2.1,v24.2.2.2.1,v24.2.2.2.2.1,v24.2.2.2.2.2)).bind fun v26=>(Xgn v26 v).bind fun v27=>some ((v24.1,v24.2.1,v24.2.2.1,v24.2.2.2.1,v24.2.2.2.2.1,v24.2.2.2.2.2),v27)) (some ((v24.1,v24.2.1,v24.2.2.1,v24.2.2.2.1,v24.2.2.2.2.1,v24.2.2.2.2.2),false))) none) ((Xdm v (0,0,0,[],[],()) (4,0,(v.getD (0:Int).toNat 0,v2,v3,[],[],()))).bind fun v28=>(Xhx v28).bind fun v29=>cond (v29 == 0) ((Xh1 (v28.1,v28.2.1,v28.2.2.1,v28.2.2.2.1,v28.2.2.2.2.1,v28.2.2.2.2.2)).bind fun v30=>(Xgn v30 v).bind fun v31=>some ((v28.1,v28.2.1,v28.2.2.1,v28.2.2.2.1,v28.2.2.2.2.1,v28.2.2.2.2.2),v31)) (some ((v28.1,v28.2.1,v28.2.2.1,v28.2.2.2.1,v28.2.2.2.2.1,v28.2.2.2.2.2),false)))) none)
namespace Xha
def G:Gam:=mkG [(228,Xil.FS),(103,Xaq.FS),(220,Xhx.FS),(176,Xh1.FS),(175,Xgn.FS)]
theorem Gok:GOk PR G:=.cons Xil.ok (.cons Xaq.ok (.cons Xhx.ok (.cons Xh1.ok (.cons Xgn.ok .nil))))
end Xha
namespace Xi3
def c:=Yap (Yaf Proofs.Tryz.f194) [1,1,1,1,1,0,1,0,0,1,0,0,1,1,1,0,1,0,0]
def sp:SP:=⟨[(0,.cs SI),(2,.loc 2 []),(4,.loc 4 []),(5,.cs I64),(6,.cs I64),(7,.loc 7 []),(8,.cs I64),(9,.cs I64),(38,.cs I64),(39,.cs SI),(40,.cs I64),(41,.cs .bool)],[(2,.mem,.cd Xb),(4,.mem,.cd Xb),(7,.mem,.cd Xi)]⟩
def fr:=Yja sp (fun x s=>Xi3.B x.1.1 x.1.2.2.2.2.1 x.1.2.2.2.2.2.2.1 x.1.2.2.2.2.2.2.2.2.1 x.1.2.2.2.2.2.2.2.2.2.1 x.1.2.2.2.2.2.2.2.2.2.2.1 x.1.2.2.2.2.2.2.2.2.2.2.2.1 x.2.1 x.2.2.1 s.1 s.2.1 s.2.2) (fun x=>(x.1.2.2.2.1,x.1.2.2.2.2.2.2.2.1,x.2.2.2.1)) fun x (bb0:Int×Xg) _ kk0=>kk0 (.ex 2) ⟨[(0,.cs SI x.1.1),(2,.loc 2 []),(4,.loc 4 []),(5,.cs I64 bb0.1),(6,.cs I64 x.1.2.2.2.2.1),(7,.loc 7 []),(38,.cs I64 x.1.2.2.2.2.2.2.2.2.1),(39,.cs SI x.1.2.2.2.2.2.2.2.2.2.1),(40,.cs I64 x.1.2.2.2.2.2.2.2.2.2.2.1),(41,.cs .bool x.1.2.2.2.2.2.2.2.2.2.2.2.1)],[(2,some ⟨.mem,.cd Xb x.2.1⟩),(4,some ⟨.mem,.cd Xb x.2.2.1⟩),(7,some ⟨.mem,.cd Xi bb0.2⟩)]⟩
theorem ok:Ya7 PR 98 1 (.loop c) fr:=
 Yxo Xe Xf h0 (G:=Xha.G) Xha.Gok [(2,([0,2,4,5,6,7,38,39,40,41],[2,4,7]))] (fun x s=>((x.1.1,x.1.2.1,x.1.2.2.1,s.1,x.1.2.2.2.2.1,x.1.2.2.2.2.2.1,x.1.2.2.2.2.2.2.1,s.2.1,x.1.2.2.2.2.2.2.2.2),(x.2.1,x.2.2.1,s.2.2,x.2.2.2.2)))
  (fun x s=>by simp only[B,mC,mB,mS,mO,mN];kernel_rfl)
end Xi3
namespace Xdm
def c:=Yap (Yaf Proofs.Tryz.f194) [1,1,1,1,1,0,1,0,0]
def sp:SP:=⟨[(0,.cs SI),(2,.loc 2 []),(4,.loc 4 []),(5,.cs I64),(6,.cs I64)],[(2,.mem,.cd Xb),(4,.mem,.cd Xb)]⟩
def fr:=Yja sp (fun x s=>Xdm.B x.1.1 x.2.1 s.1 s.2.1 s.2.2) (fun x=>(x.1.2.2.2.1,x.1.2.2.2.2.1,x.2.2.1)) fun x (bb0:Xa) _ kk0=>kk0 (.ex 0) ⟨[(0,.cs SI x.1.1),(2,.loc 2 []),(4,.loc 4 [])],[(2,some ⟨.mem,.cd Xb x.2.1⟩),(4,some ⟨.mem,.cd Xb bb0⟩)]⟩
theorem ok:Ya7 PR 98 1 (.loop c) fr:=
 Yxs Xe Xf h0 (.R (.L (.one (.R (.R (.R (.L (.R (.one (.fr 1)))))))))) (G:=Xha.G) Xha.Gok (L:=mkL [(1,Xi3.fr)]) (l:=[(1,.loop Xi3.c)]) ⟨Lam.cons Xi3.ok,trivial⟩ [(0,([0,2,4],[2,4]))] (fun x s=>((x.1.1,x.1.2.1,x.1.2.2.1,s.1,s.2.1,x.1.2.2.2.2.2),(x.2.1,s.2.2,x.2.2.2)))
  (fun x s=>by simp only[B,mC,mB,mS,mO,mN];kernel_rfl)
end Xdm
namespace Xha
def pts:List PT:=[.cs SI]
def FS:FS:=Ybk [.sh] pts (fun x=>Xha x.1) fun t=>⟨[.cd Xb t.1,.cs .bool t.2],[]⟩
theorem ok:Yb2 PR 194 FS:=
 Yxn Xe Xf Proofs.Tryz.f194 h0 (.R (.R (.R (.R (.R (.L (.R (.one (.fr 0))))))))) (G:=G) Gok (L:=mkL [(1,Xi3.fr),(0,Xdm.fr)]) (l:=[(0,.loop Xdm.c)]) ⟨Lam.skip rfl (Lam.cons Xdm.ok),trivial⟩
  (fun x=>by simp only[Xha,mC,mB,mS,mO,mN];kernel_rfl)
end Xha
def Xb8.B (v:Xd) (v3:Int) (v5:Nat) (v6:Int) (v10:Int) (v12:List Int) (v7:Fs_) (v13:Int) (v14:List Int):Option ((Int×List Int)⊕((Bool⊕(List Int)))):=
 cond (decide (v13<v10)) (cond (inB v13 v12.length) (cond (decide ((v12.getD v13.toNat 0)>255)) (some (.inr (.inl false))) (cond (inB v13 v12.length) ((some (v14++([IntKind.u8.wrap (v12.getD v13.toNat 0)]))).bind fun v15=>cond (decide (v15.length≤2147483648)) (some (.inl (w64 (v13+1),v15))) none) none)) none) (some (.inr (.inr v14)))
def Xb8 (v:Xd) (v3:Int) (v5:Nat) (v6:Int) (v10:Int) (v12:List Int) (v7:Fs_):(Int×List Int)→Option ((Bool⊕(List Int))):=
 Y9 fun s=>Xb8.B v v3 v5 v6 v10 v12 v7 s.1 s.2
def Xcu.B (v:Xd) (v3:Int) (v5:Nat) (v6:Int) (v7:Fs_):Option ((Int×Fs_)⊕(((Bool×Fs_)⊕Fs_))):=
 (some ((v7.1.getD v5 Xc).2.2.2.1.length:Int)).bind fun v8=>cond (decide (v6<v8)) ((some (w64 ((v7.1.getD v5 Xc).2.2.1-(w64 (v6*8))))).bind fun v9=>(Xk9 8 v9).bind fun v10=>cond (inB v6 ((v7.1.getD v5 Xc).2.2.2.1.length)) ((some ((v7.1.getD v5 Xc).2.2.2.1.getD v6.toNat 0)).bind fun v11=>(Xgm v (w64 ((27:Int)+v11))).bind fun v12=>cond (decide ((v12.length:Int)<v10)) (some (.inr (.inl (false,v7)))) ((Xb8 v v3 v5 v6 v10 v12 v7 (0,[])).bind fun v16=>sel v16 (fun v17=>some (.inr (.inl (v17,v7)))) (fun v18=>cond (inB v6 ((v7.1.getD v5 Xc).2.2.2.1.length)) ((some ((v7.1.getD v5 Xc).2.2.2.1.getD v6.toNat 0)).bind fun v19=>cond (inB v19 v7.2.1.length) (some (.inl (w64 (v6+1),(v7.1,v7.2.1.set v19.toNat v18,v7.2.2)))) none) none))) none) (some (.inr (.inr v7)))
def Xcu (v:Xd) (v3:Int) (v5:Nat):(Int×Fs_)→Option (((Bool×Fs_)⊕Fs_)):=
 Y9 fun s=>Xcu.B v v3 v5 s.1 s.2
def Xet.B (v:Xd) (v3:Int) (v4:Fs_):Option ((Int×Fs_)⊕(((Bool×Fs_)⊕Fs_))):=
 cond (decide (v3<(v4.1.length:Int))) (cond (inB v3 v4.1.length) ((Xcu v v3 v3.toNat (0,v4)).bind fun v20=>sel v20 (fun v21=>some (.inr (.inl (v21.1,v21.2)))) (fun v22=>some (.inl (w64 (v3+1),v22)))) none) (some (.inr (.inr v4)))
def Xet (v:Xd):(Int×Fs_)→Option (((Bool×Fs_)⊕Fs_)):=
 Y9 fun s=>Xet.B v s.1 s.2
def Xbm (v:Xd) (v2:Fs_):Option (Bool×Fs_):=
 (Xet v (0,v2)).bind fun v23=>sel v23 (fun v24=>some (v24.1,v24.2)) (fun v25=>some (true,v25))
namespace Xbm
def G:Gam:=mkG [(174,Xk9.FS),(94,Xgm.FS)]
theorem Gok:GOk PR G:=.cons Xk9.ok (.cons Xgm.ok .nil)
end Xbm
namespace Xb8
def c:=Yap (Yaf Proofs.Tryz.f195) [1,0,1,0,0,1,0,0,1,1,0,0,1,0,0,1,1,1,1,0,1,0,0]
def sp:SP:=⟨[(0,.pt Xh),(1,.loc 1 []),(5,.cs I64),(6,.loc 1 [.f1,.el]),(7,.cs I64),(8,.cs I64),(9,.cs SI),(10,.seg 10 []),(11,.cs I64)],[(1,.mem,.cd Xo),(10,.reg,.cd SB)]⟩
def fr:=Yja sp (fun x s=>Xb8.B x.1.1 x.1.2.2.1 x.1.2.2.2.1.1 x.1.2.2.2.2.1 x.1.2.2.2.2.2.1 x.1.2.2.2.2.2.2.1 x.2.1 s.1 s.2) (fun x=>(x.1.2.2.2.2.2.2.2.2.1,x.2.2.1)) fun x (oo0:(Bool⊕(List Int))) _ kk0=>sel oo0 (fun bb0=>kk0 (.rt) ⟨[(4,.cs .bool bb0)],[(1,some ⟨.mem,.cd Xo x.2.1⟩)]⟩) (fun cc0=>kk0 (.ex 4) ⟨[(0,.pt Xh x.1.1),(1,.loc 1 []),(5,.cs I64 x.1.2.2.1),(6,.loc 1 [.f1,.el x.1.2.2.2.1.1]),(7,.cs I64 x.1.2.2.2.2.1),(10,.seg 10 [])],[(1,some ⟨.mem,.cd Xo x.2.1⟩),sr 10 (.cd SB cc0)]⟩)
theorem ok:Ya7 PR 90 2 (.loop c) fr:=
 Yt2 Xe Xf h0 .no (G:=Xbm.G) Xbm.Gok (L:=mkL []) (l:=[]) hT [(4,([0,1,5,6,7,10],[1,10]))] ([4],[1]) (fun x s=>((x.1.1,x.1.2.1,x.1.2.2.1,x.1.2.2.2.1,x.1.2.2.2.2.1,x.1.2.2.2.2.2.1,x.1.2.2.2.2.2.2.1,x.1.2.2.2.2.2.2.2.1,s.1,x.1.2.2.2.2.2.2.2.2.2),(x.2.1,s.2,x.2.2.2)))
  (fun x s=>by simp only[B,mC,mB,mS,mO,mN];kernel_rfl)
end Xb8
namespace Xcu
def c:=Yap (Yaf Proofs.Tryz.f195) [1,0,1,0,0,1,0,0,1,1,0,0]
def sp:SP:=⟨[(0,.pt Xh),(1,.loc 1 []),(5,.cs I64),(6,.loc 1 [.f1,.el]),(7,.cs I64)],[(1,.mem,.cd Xo)]⟩
def fr:=Yja sp (fun x s=>Xcu.B x.1.1 x.1.2.2.1 x.1.2.2.2.1.1 s.1 s.2) (fun x=>(x.1.2.2.2.2.1,x.2.1)) fun x (oo0:((Bool×Fs_)⊕Fs_)) _ kk0=>sel oo0 (fun bb0=>kk0 (.rt) ⟨[(4,.cs .bool bb0.1)],[(1,some ⟨.mem,.cd Xo bb0.2⟩)]⟩) (fun cc0=>kk0 (.ex 2) ⟨[(0,.pt Xh x.1.1),(1,.loc 1 []),(5,.cs I64 x.1.2.2.1)],[(1,some ⟨.mem,.cd Xo cc0⟩)]⟩)
theorem ok:Ya7 PR 90 2 (.loop c) fr:=
 Yt2 Xe Xf h0 (.R (.L (.one (.R (.R (.R (.R (.L (.R (.one (.fr 2))))))))))) (G:=Xbm.G) Xbm.Gok (L:=mkL [(2,Xb8.fr)]) (l:=[(2,.loop Xb8.c)]) ⟨Lam.cons Xb8.ok,trivial⟩ [(2,([0,1,5],[1]))] ([4],[1]) (fun x s=>((x.1.1,x.1.2.1,x.1.2.2.1,x.1.2.2.2.1,s.1,x.1.2.2.2.2.2),(s.2,x.2.2)))
  (fun x s=>by simp only[B,mC,mB,mS,mO,mN];kernel_rfl)
end Xcu
namespace Xet
def c:=Yap (Yaf Proofs.Tryz.f195) [1,0,1,0,0]
def sp:SP:=⟨[(0,.pt Xh),(1,.loc 1 []),(5,.cs I64)],[(1,.mem,.cd Xo)]⟩
def fr:=Yja sp (fun x s=>Xet.B x.1.1 s.1 s.2) (fun x=>(x.1.2.2.1,x.2.1)) fun x (oo0:((Bool×Fs_)⊕Fs_)) _ kk0=>sel oo0 (fun bb0=>kk0 (.rt) ⟨[(4,.cs .bool bb0.1)],[(1,some ⟨.mem,.cd Xo bb0.2⟩)]⟩) (fun cc0=>kk0 (.ex 0) ⟨[],[(1,some ⟨.mem,.cd Xo cc0⟩)]⟩)
theorem ok:Ya7 PR 90 2 (.loop c) fr:=
 Yt2 Xe Xf h0 (.R (.L (.one (.R (.R (.one (.fr 1))))))) (G:=Xbm.G) Xbm.Gok (L:=mkL [(2,Xb8.fr),(1,Xcu.fr)]) (l:=[(1,.loop Xcu.c)]) ⟨Lam.skip rfl (Lam.cons Xcu.ok),trivial⟩ [(0,([],[1]))] ([4],[1]) (fun x s=>((x.1.1,x.1.2.1,s.1,x.1.2.2.2),(s.2,x.2.2)))
  (fun x s=>by simp only[B,mC,mB,mS,mO,mN];kernel_rfl)
end Xet
namespace Xbm
def pts:List PT:=[.pt Xh,.op (.cd Xo)]
def FS:FS:=Ybk [.sh,.mu] pts (fun x=>Xbm x.1 x.2.1) fun t=>⟨[.cs .bool t.1],[.op (.cd Xo t.2)]⟩
theorem ok:Yb2 PR 195 FS:=
 Yxn Xe Xf Proofs.Tryz.f195 h0 (.R (.L (.R (.one (.fr 0))))) (G:=G) Gok (L:=mkL [(2,Xb8.fr),(1,Xcu.fr),(0,Xet.fr)]) (l:=[(0,.loop Xet.c)]) ⟨Lam.skip rfl (Lam.skip rfl (Lam.cons Xet.ok)),trivial⟩
  (fun x=>by simp only[Xbm,mC,mB,mS,mO,mN];kernel_rfl)
end Xbm
def Xcs.B (v:Xd) (v5:Xa6) (v3:Int) (v4:Int) (v6:Fs_):Option ((Int×Int×Fs_)⊕((Xa6⊕(Int×Fs_)))):=
 cond (decide (v4<10)) ((Xgm v (w64 ((17:Int)+v4))).bind fun v7=>(Xha v7).bind fun v8=>cond (!v8.2) (some (.inr (.inl (5,([],[],()),())))) ((some (v6.1++([(v8.1.1,v8.1.2.1,v8.1.2.2.1,v8.1.2.2.2.1,v8.1.2.2.2.2.1,v8.1.2.2.2.2.2)]))).bind fun v9=>cond (decide (v9.length≤2147483648)) (cond (decide ((v7.length:Int)>0)) (some (.inl (w64 (v4+1),w64 (v4+1),(v9,v6.2)))) (some (.inl (v3,w64 (v4+1),(v9,v6.2))))) none)) (some (.inr (.inr (v3,v6))))
def Xcs (v:Xd) (v5:Xa6):(Int×Int×Fs_)→Option ((Xa6⊕(Int×Fs_))):=
 Y9 fun s=>Xcs.B v v5 s.1 s.2.1 s.2.2
def Xed (v:Xd):Option Xa6:=
 (Xhw v).bind fun v2=>cond (v2.1 != 0) (some (v2.1,([],[],()),())) (cond (decide ((0:Int)≤(20:Int))&&(decide ((20:Int)≤(20:Int))&&decide ((20:Int)≤2147483648))) ((Xcs v (0,([],[],()),()) (0,0,([],List.replicate (20:Int).toNat ([]:List Int),()))).bind fun v10=>sel v10 (fun v11=>some (v11.1,(v11.2.1.1,v11.2.1.2.1,v11.2.1.2.2),v11.2.2)) (fun v12=>cond (decide ((0:Int)≤v12.1)&&decide (v12.1≤(v12.2.1.length:Int))) ((Xe1 ((v12.2.1.drop 0).take (v12.1.toNat-0),v12.2.2)).bind fun v13=>cond (v13 != 0) (some (v13,([],[],()),())) ((Xbm v ((v12.2.1.drop 0).take (v12.1.toNat-0),v12.2.2)).bind fun v14=>cond (!v14.1) (some (5,([],[],()),())) ((Xhd v14.2).bind fun v15=>cond (v15 != 0) (some (v15,([],[],()),())) (some (0,(v14.2.1,v14.2.2.1,v14.2.2.2),()))))) none)) none)
namespace Xed
def G:Gam:=mkG [(46,Xhw.FS),(94,Xgm.FS),(194,Xha.FS),(96,Xe1.FS),(195,Xbm.FS),(47,Xhd.FS)]
theorem Gok:GOk PR G:=.cons Xhw.ok (.cons Xgm.ok (.cons Xha.ok (.cons Xe1.ok (.cons Xbm.ok (.cons Xhd.ok .nil)))))
end Xed
namespace Xcs
def c:=Yap (Yaf Proofs.Tryz.f131) [1,1,1,1,0,1,0,0]
def sp:SP:=⟨[(1,.pt Xh),(2,.loc 2 []),(4,.loc 4 []),(5,.cs I64),(6,.cs I64)],[(2,.mem,.cd Xbf),(4,.mem,.cd Xo)]⟩
def fr:=Yja sp (fun x s=>Xcs.B x.1.1 x.2.1 s.1 s.2.1 s.2.2) (fun x=>(x.1.2.2.2.1,x.1.2.2.2.2.1,x.2.2.1)) fun x (oo0:(Xa6⊕(Int×Fs_))) _ kk0=>sel oo0 (fun bb0=>kk0 (.rt) ⟨[(2,.loc 2 [])],[(2,some ⟨.mem,.cd Xbf bb0⟩)]⟩) (fun cc0=>kk0 (.ex 0) ⟨[(1,.pt Xh x.1.1),(2,.loc 2 []),(4,.loc 4 []),(5,.cs I64 cc0.1)],[(2,some ⟨.mem,.cd Xbf x.2.1⟩),(4,some ⟨.mem,.cd Xo cc0.2⟩)]⟩)
theorem ok:Ya7 PR 68 1 (.loop c) fr:=
 Yt2 Xe Xf ⟨[1],[],[],0⟩ .no (G:=Xed.G) Xed.Gok (L:=mkL []) (l:=[]) hT [(0,([1,2,4,5],[2,4]))] ([2],[2]) (fun x s=>((x.1.1,x.1.2.1,x.1.2.2.1,s.1,s.2.1,x.1.2.2.2.2.2),(x.2.1,s.2.2,x.2.2.2)))
  (fun x s=>by simp only[B,mC,mB,mS,mO,mN];kernel_rfl)
end Xcs
namespace Xed
def pts:List PT:=[.cs Xh]
def FS:FS:=Ybk [.sh] pts (fun x=>Xed x.1) fun t=>⟨[.cd Xbf t],[]⟩
theorem ok:Yb2 PR 131 FS:=
 Yxn Xe Xf Proofs.Tryz.f131 ⟨[1],[],[],0⟩ (.R (.R (.R (.R (.L (.R (.one (.fr 0)))))))) (G:=G) Gok (L:=mkL [(0,Xcs.fr)]) (l:=[(0,.loop Xcs.c)]) ⟨Lam.cons Xcs.ok,trivial⟩
  (fun x=>by simp only[Xed,mC,mB,mS,mO,mN];kernel_rfl)
end Xed
def Xdl.B (v:Xa) (v2:Xa) (v6:Int):Option (Int⊕((Bool⊕Unit))):=
 cond (decide (v6<(v.2.2.2.2.1.length:Int))) (cond (inB v6 v.2.2.2.2.1.length) (cond (inB v6 v2.2.2.2.2.1.length) ((some (!(((v.2.2.2.2.1.getD v6.toNat Xm).1 == (v2.2.2.2.2.1.getD v6.toNat Xm).1)&&(((v.2.2.2.2.1.getD v6.toNat Xm).2.1 == (v2.2.2.2.2.1.getD v6.toNat Xm).2.1)&&true)))).bind fun v7=>cond v7 (some (.inr (.inl false))) (some (.inl (w64 (v6+1))))) none) none) (some (.inr (.inr ())))
def Xdl (v:Xa) (v2:Xa):Int→Option ((Bool⊕Unit)):=
 Y9 fun s=>Xdl.B v v2 s
def Xdp (v:Xa) (v2:Xa):Option Bool:=
 (some (cond (cond (v.1 != v2.1) true (v.2.1 != v2.2.1)) true (v.2.2.1 != v2.2.2.1))).bind fun v3=>cond v3 (some false) ((Xgn v.2.2.2.1 v2.2.2.2.1).bind fun v4=>(some (cond (!v4) true ((v.2.2.2.2.1.length:Int) != (v2.2.2.2.2.1.length:Int)))).bind fun v5=>cond v5 (some false) ((Xdl v v2 0).bind fun v8=>sel v8 (fun v9=>some v9) (fun v10=>some true)))
namespace Xdp
def G:Gam:=mkG [(175,Xgn.FS)]
theorem Gok:GOk PR G:=.cons Xgn.ok .nil
end Xdp
namespace Xdl
def c:=Yap (Yaf Proofs.Tryz.f205) [1,1,0,1,0,0]
def sp:SP:=⟨[(0,.pt Xb),(1,.pt Xb),(5,.cs I64)],[]⟩
def fr:=Yja sp (fun x s=>Xdl.B x.1.1 x.1.2.1 s) (fun x=>x.1.2.2.1) fun x (oo0:(Bool⊕Unit)) _ kk0=>sel oo0 (fun bb0=>kk0 (.rt) ⟨[(4,.cs .bool bb0)],[]⟩) (fun cc0=>kk0 (.ex 0) ⟨[],[]⟩)
theorem ok:Ya7 PR 86 2 (.loop c) fr:=
 Yt2 Xe Xf h0 .no (G:=Xdp.G) Xdp.Gok (L:=mkL []) (l:=[]) hT [(0,([],[]))] ([4],[]) (fun x s=>((x.1.1,x.1.2.1,s,x.1.2.2.2),x.2))
  (fun x s=>by simp only[B,mC,mB,mS,mO,mN];kernel_rfl)
end Xdl
namespace Xdp
def pts:List PT:=[.pt Xb,.pt Xb]
def FS:FS:=Ybk [.sh,.sh] pts (fun x=>Xdp x.1 x.2.1) fun t=>⟨[.cs .bool t],[]⟩
theorem ok:Yb2 PR 205 FS:=
 Yxn Xe Xf Proofs.Tryz.f205 h0 (.R (.R (.L (.R (.one (.fr 0)))))) (G:=G) Gok (L:=mkL [(0,Xdl.fr)]) (l:=[(0,.loop Xdl.c)]) ⟨Lam.cons Xdl.ok,trivial⟩
  (fun x=>by simp only[Xdp,mC,mB,mS,mO,mN];kernel_rfl)
end Xdp
def Xd6.B (v:Fs_) (v2:Fs_) (v4:Int):Option (Int⊕((Bool⊕Unit))):=
 cond (decide (v4<(v.1.length:Int))) (cond (inB v4 v.1.length) (cond (inB v4 v2.1.length) ((Xdp (v.1.getD v4.toNat Xc) (v2.1.getD v4.toNat Xc)).bind fun v5=>cond (!v5) (some (.inr (.inl false))) (some (.inl (w64 (v4+1))))) none) none) (some (.inr (.inr ())))
def Xd6 (v:Fs_) (v2:Fs_):Int→Option ((Bool⊕Unit)):=
 Y9 fun s=>Xd6.B v v2 s
def Xfk.B (v:Fs_) (v2:Fs_) (v9:Int):Option (Int⊕((Bool⊕Unit))):=
 cond (decide (v9<(v.2.1.length:Int))) (cond (inB v9 v.2.1.length) ((some ((v.2.1.getD v9.toNat []).map fun n=>UInt8.ofNat n.toNat)).bind fun v10=>cond (inB v9 v2.2.1.length) ((some ((v2.2.1.getD v9.toNat []).map fun n=>UInt8.ofNat n.toNat)).bind fun v11=>cond (!(v10 == v11)) (some (.inr (.inl false))) (some (.inl (w64 (v9+1))))) none) none) (some (.inr (.inr ())))
def Xfk (v:Fs_) (v2:Fs_):Int→Option ((Bool⊕Unit)):=
 Y9 fun s=>Xfk.B v v2 s
def Xbv (v:Fs_) (v2:Fs_):Option Bool:=
 (some (cond ((v.1.length:Int) != (v2.1.length:Int)) true ((v.2.1.length:Int) != (v2.2.1.length:Int)))).bind fun v3=>cond v3 (some false) ((Xd6 v v2 0).bind fun v6=>sel v6 (fun v7=>some v7) (fun v8=>(Xfk v v2 0).bind fun v12=>sel v12 (fun v13=>some v13) (fun v14=>some true)))
namespace Xbv
def G:Gam:=mkG [(205,Xdp.FS)]
theorem Gok:GOk PR G:=.cons Xdp.ok .nil
end Xbv
namespace Xd6
def c:=Yap (Yaf Proofs.Tryz.f142) [1,1,0,1,0,0]
def sp:SP:=⟨[(0,.pt Xo),(1,.pt Xo),(5,.cs I64)],[]⟩
def fr:=Yja sp (fun x s=>Xd6.B x.1.1 x.1.2.1 s) (fun x=>x.1.2.2.1) fun x (oo0:(Bool⊕Unit)) _ kk0=>sel oo0 (fun bb0=>kk0 (.rt) ⟨[(4,.cs .bool bb0)],[]⟩) (fun cc0=>kk0 (.ex 0) ⟨[(0,.pt Xo x.1.1),(1,.pt Xo x.1.2.1)],[]⟩)
theorem ok:Ya7 PR 80 2 (.loop c) fr:=
 Yt2 Xe Xf h0 .no (G:=Xbv.G) Xbv.Gok (L:=mkL []) (l:=[]) hT [(0,([0,1],[]))] ([4],[]) (fun x s=>((x.1.1,x.1.2.1,s,x.1.2.2.2),x.2))
  (fun x s=>by simp only[B,mC,mB,mS,mO,mN];kernel_rfl)
end Xd6
namespace Xfk
def c:=Yap (Yaf Proofs.Tryz.f142) [1,1,1,0,1,0,0]
def sp:SP:=⟨[(0,.pt Xo),(1,.pt Xo),(6,.cs I64)],[]⟩
def fr:=Yja sp (fun x s=>Xfk.B x.1.1 x.1.2.1 s) (fun x=>x.1.2.2.1) fun x (oo0:(Bool⊕Unit)) _ kk0=>sel oo0 (fun bb0=>kk0 (.rt) ⟨[(4,.cs .bool bb0)],[]⟩) (fun cc0=>kk0 (.ex 2) ⟨[],[]⟩)
theorem ok:Ya7 PR 80 2 (.loop c) fr:=
 Yt2 Xe Xf h0 .no (G:=Xbv.G) Xbv.Gok (L:=mkL []) (l:=[]) hT [(2,([],[]))] ([4],[]) (fun x s=>((x.1.1,x.1.2.1,s,x.1.2.2.2),x.2))
  (fun x s=>by simp only[B,mC,mB,mS,mO,mN];kernel_rfl)
end Xfk
namespace Xbv
def pts:List PT:=[.pt Xo,.pt Xo]
def FS:FS:=Ybk [.sh,.sh] pts (fun x=>Xbv x.1 x.2.1) fun t=>⟨[.cs .bool t],[]⟩
theorem ok:Yb2 PR 142 FS:=
 Yxn Xe Xf Proofs.Tryz.f142 h0 (.R (.R (.two (.R (.one (.fr 0))) (.L (.R (.one (.fr 1))))))) (G:=G) Gok (L:=mkL [(0,Xd6.fr),(1,Xfk.fr)]) (l:=[(0,.loop Xd6.c),(1,.loop Xfk.c)]) ⟨Lam.cons Xd6.ok,Lam.skip rfl (Lam.cons Xfk.ok),trivial⟩
  (fun x=>by simp only[Xbv,mC,mB,mS,mO,mN];kernel_rfl)
end Xbv
def Xf0.B (v:Xz) (v2:Int):Option (Int⊕((Bool⊕Unit))):=
 cond (decide (v2<20)) ((Xjv v.2.1.1 v2).bind fun v3=>cond (decide (v3>0)) ((Xjv v.2.2.1.1 v2).bind fun v4=>cond (cond (decide (v4>0)) (inB v2 v.2.1.2.1.length) true) (cond (cond (decide (v4>0)) (inB v2 v.2.2.1.2.1.length) true) ((some (cond (decide (v4>0)) (!(((v.2.1.2.1.getD v2.toNat []).map fun n=>UInt8.ofNat n.toNat) == ((v.2.2.1.2.1.getD v2.toNat []).map fun n=>UInt8.ofNat n.toNat))) false)).bind fun v5=>cond v5 (some (.inr (.inl false))) (some (.inl (w64 (v2+1))))) none) none) (cond (cond false (inB v2 v.2.1.2.1.length) true) (cond (cond false (inB v2 v.2.2.1.2.1.length) true) (some (.inl (w64 (v2+1)))) none) none)) (some (.inr (.inr ())))
def Xf0 (v:Xz):Int→Option ((Bool⊕Unit)):=
 Y9 fun s=>Xf0.B v s
def Xdj (v:Xz):Option Bool:=
 (Xf0 v 0).bind fun v6=>sel v6 (fun v7=>some v7) (fun v8=>some true)
namespace Xdj
def G:Gam:=mkG [(206,Xjv.FS)]
theorem Gok:GOk PR G:=.cons Xjv.ok .nil
end Xdj
namespace Xf0
def c:=Yap (Yaf Proofs.Tryz.f143) [1,0,1,0,0]
def sp:SP:=⟨[(0,.pt Xp),(3,.cs I64)],[]⟩
def fr:=Yja sp (fun x s=>Xf0.B x.1.1 s) (fun x=>x.1.2.1) fun x (oo0:(Bool⊕Unit)) _ kk0=>sel oo0 (fun bb0=>kk0 (.rt) ⟨[(2,.cs .bool bb0)],[]⟩) (fun cc0=>kk0 (.ex 0) ⟨[],[]⟩)
theorem ok:Ya7 PR 49 1 (.loop c) fr:=
 Yt2 Xe Xf h0 .no (G:=Xdj.G) Xdj.Gok (L:=mkL []) (l:=[]) hT [(0,([],[]))] ([2],[]) (fun x s=>((x.1.1,s,x.1.2.2),x.2))
  (fun x s=>by simp only[B,mC,mB,mS,mO,mN];kernel_rfl)
end Xf0
namespace Xdj
def pts:List PT:=[.pt Xp]
def FS:FS:=Ybk [.sh] pts (fun x=>Xdj x.1) fun t=>⟨[.cs .bool t],[]⟩
theorem ok:Yb2 PR 143 FS:=
 Yxn Xe Xf Proofs.Tryz.f143 h0 (.R (.L (.R (.one (.fr 0))))) (G:=G) Gok (L:=mkL [(0,Xf0.fr)]) (l:=[(0,.loop Xf0.c)]) ⟨Lam.cons Xf0.ok,trivial⟩
  (fun x=>by simp only[Xdj,mC,mB,mS,mO,mN];kernel_rfl)
end Xdj
def Xiv (v:Xz):Option Int:=
 (Xhw v.1).bind fun v2=>cond (v2.1 != 0) (some v2.1) ((Xhd v.2.1).bind fun v3=>cond (v3 != 0) (some v3) ((Xhd v.2.2.1).bind fun v4=>cond (v4 != 0) (some v4) (cond (decide ((v.1.2.1.length:Int)>0)) (some 1) ((Xed v.1).bind fun v5=>cond (v5.1 != 0) (some 10) ((Xbv (v5.2.1.1,v5.2.1.2.1,v5.2.1.2.2) v.2.2.1).bind fun v6=>cond (!v6) (some 10) ((Xdj v).bind fun v7=>cond (!v7) (some 10) (some 0)))))))
namespace Xiv
def G:Gam:=mkG [(46,Xhw.FS),(47,Xhd.FS),(131,Xed.FS),(142,Xbv.FS),(143,Xdj.FS)]
def pts:List PT:=[.pt Xp]
def FS:FS:=Ybk [.sh] pts (fun x=>Xiv x.1) fun t=>⟨[.cs I64 t],[]⟩
theorem ok:Yb2 PR 74 FS:=
 Yxn Xe Xf Proofs.Tryz.f74 h0 .no (G:=G) (show GOk PR G from .cons Xhw.ok (.cons Xhd.ok (.cons Xed.ok (.cons Xbv.ok (.cons Xdj.ok .nil))))) (L:=mkL []) (l:=[]) hT
  (fun x=>by simp only[Xiv,mC,mB,mS,mO,mN];kernel_rfl)
end Xiv
def Xf8.B (v:Fs_) (v2:Int) (v3:List Xj):Option ((Int×List Xj)⊕(List Xj)):=
 cond (decide (v2<10)) (cond (decide (v2<(v.1.length:Int))) (cond (inB v2 v.1.length) ((Xh1 (v.1.getD v2.toNat Xc)).bind fun v4=>cond (decide ((v3++([(w64 ((17:Int)+v2),v4,())])).length≤2147483648)) (some (.inl (w64 (v2+1),v3++([(w64 ((17:Int)+v2),v4,())])))) none) none) (cond (decide ((v3++([(w64 ((17:Int)+v2),[],())])).length≤2147483648)) (some (.inl (w64 (v2+1),v3++([(w64 ((17:Int)+v2),[],())])))) none)) (some (.inr v3))
def Xf8 (v:Fs_):(Int×List Xj)→Option (List Xj):=
 Y9 fun s=>Xf8.B v s.1 s.2
def Xd0 (v:Fs_):Option (List Xj):=
 (Xf8 v (0,[])).bind fun v5=>some v5
namespace Xd0
def G:Gam:=mkG [(176,Xh1.FS)]
theorem Gok:GOk PR G:=.cons Xh1.ok .nil
end Xd0
namespace Xf8
def c:=Yap (Yaf Proofs.Tryz.f100) [1,1,0,1,0,0]
def sp:SP:=⟨[(0,.pt Xo),(3,.seg 3 []),(4,.cs I64)],[(3,.reg,.cd (.sl Xl))]⟩
def fr:=Yja sp (fun x s=>Xf8.B x.1.1 s.1 s.2) (fun x=>(x.1.2.2.1,x.2.1)) fun x (bb0:List Xj) _ kk0=>kk0 (.ex 0) ⟨[(3,.seg 3 [])],[sr 3 (.cd (.sl Xl) bb0)]⟩
theorem ok:Ya7 PR 35 1 (.loop c) fr:=
 Yxo Xe Xf h0 (G:=Xd0.G) Xd0.Gok [(0,([3],[3]))] (fun x s=>((x.1.1,x.1.2.1,s.1,x.1.2.2.2),(s.2,x.2.2)))
  (fun x s=>by simp only[B,mC,mB,mS,mO,mN];kernel_rfl)
end Xf8
namespace Xd0
def pts:List PT:=[.pt Xo]
def FS:FS:=Ybk [.sh] pts (fun x=>Xd0 x.1) fun t=>⟨[.cd (.sl Xl) t],[]⟩
theorem ok:Yb2 PR 100 FS:=
 Yxn Xe Xf Proofs.Tryz.f100 h0 (.R (.R (.L (.R (.one (.fr 0)))))) (G:=G) Gok (L:=mkL [(0,Xf8.fr)]) (l:=[(0,.loop Xf8.c)]) ⟨Lam.cons Xf8.ok,trivial⟩
  (fun x=>by simp only[Xd0,mC,mB,mS,mO,mN];kernel_rfl)
end Xd0
def Xdv.B (v:Xd) (v2:List Xj) (v3:Int) (v4:List Xj):Option ((Int×List Xj)⊕(List Xj)):=
 cond (decide (v3<(v2.length:Int))) (cond (inB v3 v2.length) ((Xgm v (v2.getD v3.toNat Xt).1).bind fun v5=>cond (inB v3 v2.length) ((Xgn v5 (v2.getD v3.toNat Xt).2.1).bind fun v6=>cond (!v6) (cond (inB v3 v2.length) (cond (inB v3 v2.length) ((Xaq (v2.getD v3.toNat Xt).2.1).bind fun v7=>cond (decide ((v4++([((v2.getD v3.toNat Xt).1,v7,())])).length≤2147483648)) (some (.inl (w64 (v3+1),v4++([((v2.getD v3.toNat Xt).1,v7,())])))) none) none) none) (some (.inl (w64 (v3+1),v4)))) none) none) (some (.inr v4))
def Xdv (v:Xd) (v2:List Xj):(Int×List Xj)→Option (List Xj):=
 Y9 fun s=>Xdv.B v v2 s.1 s.2
def Xdc (v:Xd) (v2:List Xj):Option (List Xj):=
 (Xdv v v2 (0,[])).bind fun v8=>some v8
namespace Xdc
def G:Gam:=mkG [(94,Xgm.FS),(175,Xgn.FS),(103,Xaq.FS)]
theorem Gok:GOk PR G:=.cons Xgm.ok (.cons Xgn.ok (.cons Xaq.ok .nil))
end Xdc
namespace Xdv
def c:=Yap (Yaf Proofs.Tryz.f99) [1,1,0,1,0,0]
def sp:SP:=⟨[(0,.pt Xh),(1,.cs (.sl Xl)),(5,.seg 5 []),(6,.cs I64)],[(5,.reg,.cd (.sl Xl))]⟩
def fr:=Yja sp (fun x s=>Xdv.B x.1.1 x.1.2.1 s.1 s.2) (fun x=>(x.1.2.2.2.1,x.2.1)) fun x (bb0:List Xj) _ kk0=>kk0 (.ex 0) ⟨[(5,.seg 5 [])],[sr 5 (.cd (.sl Xl) bb0)]⟩
theorem ok:Ya7 PR 44 2 (.loop c) fr:=
 Yxo Xe Xf h0 (G:=Xdc.G) Xdc.Gok [(0,([5],[5]))] (fun x s=>((x.1.1,x.1.2.1,x.1.2.2.1,s.1,x.1.2.2.2.2),(s.2,x.2.2)))
  (fun x s=>by simp only[B,mC,mB,mS,mO,mN];kernel_rfl)
end Xdv
namespace Xdc
def pts:List PT:=[.pt Xh,.cs (.sl Xl)]
def FS:FS:=Ybk [.sh,.sh] pts (fun x=>Xdc x.1 x.2.1) fun t=>⟨[.cd (.sl Xl) t],[]⟩
theorem ok:Yb2 PR 99 FS:=
 Yxn Xe Xf Proofs.Tryz.f99 h0 (.R (.R (.L (.R (.one (.fr 0)))))) (G:=G) Gok (L:=mkL [(0,Xdv.fr)]) (l:=[(0,.loop Xdv.c)]) ⟨Lam.cons Xdv.ok,trivial⟩
  (fun x=>by simp only[Xdc,mC,mB,mS,mO,mN];kernel_rfl)
end Xdc
def Xde.B (v:Fs_) (v3:Int) (v4:List Xj) (v5:List Int) (v6:Bool) (v7:Unit) (v8:Int) (v9:Xj):Option ((Int×Xj)⊕Xj):=
 cond (inB v3 v5.length) (cond (inB (v5.getD v3.toNat 0) v.2.1.length) ((some ((v.2.1.getD (v5.getD v3.toNat 0).toNat []).length:Int)).bind fun v10=>cond (decide (v8<v10)) (cond (inB v3 v5.length) (cond (inB (v5.getD v3.toNat 0) v.2.1.length) (cond (inB v8 ((v.2.1.getD (v5.getD v3.toNat 0).toNat []).length)) ((some ((v.2.1.getD (v5.getD v3.toNat 0).toNat []).getD v8.toNat 0)).bind fun v11=>cond (decide ((v9.2.1++([w64 v11])).length≤2147483648)) (some (.inl (w64 (v8+1),(v9.1,v9.2.1++([w64 v11]),v9.2.2)))) none) none) none) none) (some (.inr v9))) none) none
def Xde (v:Fs_) (v3:Int) (v4:List Xj) (v5:List Int) (v6:Bool) (v7:Unit):(Int×Xj)→Option Xj:=
 Y9 fun s=>Xde.B v v3 v4 v5 v6 v7 s.1 s.2
def Xd3.B (v:Fs_) (v5:List Int) (v6:Bool) (v7:Unit) (v3:Int) (v4:List Xj):Option ((Int×List Xj)⊕(List Xj)):=
 cond (decide (v3<(v5.length:Int))) (cond (inB v3 v5.length) ((Xde v v3 v4 v5 v6 v7 (0,(w64 ((27:Int)+(v5.getD v3.toNat 0)),[],()))).bind fun v12=>cond (decide ((v4++([(v12.1,v12.2.1,v12.2.2)])).length≤2147483648)) (some (.inl (w64 (v3+1),v4++([(v12.1,v12.2.1,v12.2.2)])))) none) none) (some (.inr v4))
def Xd3 (v:Fs_) (v5:List Int) (v6:Bool) (v7:Unit):(Int×List Xj)→Option (List Xj):=
 Y9 fun s=>Xd3.B v v5 v6 v7 s.1 s.2
def Xca (v:Fs_):Option (List Xj):=
 (Xg9 v.1).bind fun v2=>(Xd3 v v2.1 v2.2 () (0,[])).bind fun v13=>some v13
namespace Xca
def G:Gam:=mkG [(170,Xg9.FS)]
theorem Gok:GOk PR G:=.cons Xg9.ok .nil
end Xca
namespace Xde
def c:=Yap (Yaf Proofs.Tryz.f102) [1,1,1,0,1,0,0,1,0,0,1,0,1,0,0]
def sp:SP:=⟨[(0,.pt Xo),(3,.seg 3 []),(4,.seg 15 [.f1]),(6,.cs I64),(7,.loc 7 []),(8,.cs I64)],[(3,.reg,.cd (.sl Xl)),(7,.mem,.cd Xl),(15,.reg,.pr (.cd SI) (.pr (.cs .bool) (.cs .unit)))]⟩
def fr:=Yja sp (fun x s=>Xde.B x.1.1 x.1.2.2.2.1 x.2.1 x.2.2.2.1.1 x.2.2.2.1.2.1 x.2.2.2.1.2.2 s.1 s.2) (fun x=>(x.1.2.2.2.2.2.1,x.2.2.1)) fun x (bb0:Xj) _ kk0=>kk0 (.ex 2) ⟨[(0,.pt Xo x.1.1),(3,.seg 3 []),(4,.seg 15 [.f1]),(6,.cs I64 x.1.2.2.2.1),(7,.loc 7 [])],[sr 3 (.cd (.sl Xl) x.2.1),(7,some ⟨.mem,.cd Xl bb0⟩),(15,some ⟨.reg,.pr (.cd SI x.2.2.2.1.1) (.pr (.cs .bool x.2.2.2.1.2.1) (.cs .unit x.2.2.2.1.2.2))⟩)]⟩
theorem ok:Ya7 PR 69 1 (.loop c) fr:=
 Yxo Xe Xf h0 (G:=Xca.G) Xca.Gok [(2,([0,3,4,6,7],[3,7,15]))] (fun x s=>((x.1.1,x.1.2.1,x.1.2.2.1,x.1.2.2.2.1,x.1.2.2.2.2.1,s.1,x.1.2.2.2.2.2.2),(x.2.1,s.2,x.2.2.2)))
  (fun x s=>by simp only[B,mC,mB,mS,mO,mN];kernel_rfl)
end Xde
namespace Xd3
def c:=Yap (Yaf Proofs.Tryz.f102) [1,1,1,0,1,0,0]
def sp:SP:=⟨[(0,.pt Xo),(3,.seg 3 []),(4,.seg 15 [.f1]),(6,.cs I64)],[(3,.reg,.cd (.sl Xl)),(15,.reg,.pr (.cd SI) (.pr (.cs .bool) (.cs .unit)))]⟩
def fr:=Yja sp (fun x s=>Xd3.B x.1.1 x.2.2.1.1 x.2.2.1.2.1 x.2.2.1.2.2 s.1 s.2) (fun x=>(x.1.2.2.2.1,x.2.1)) fun x (bb0:List Xj) _ kk0=>kk0 (.ex 0) ⟨[(3,.seg 3 [])],[sr 3 (.cd (.sl Xl) bb0)]⟩
theorem ok:Ya7 PR 69 1 (.loop c) fr:=
 Yxs Xe Xf h0 (.R (.L (.one (.R (.L (.R (.one (.fr 1)))))))) (G:=Xca.G) Xca.Gok (L:=mkL [(1,Xde.fr)]) (l:=[(1,.loop Xde.c)]) ⟨Lam.cons Xde.ok,trivial⟩ [(0,([3],[3]))] (fun x s=>((x.1.1,x.1.2.1,x.1.2.2.1,s.1,x.1.2.2.2.2),(s.2,x.2.2)))
  (fun x s=>by simp only[B,mC,mB,mS,mO,mN];kernel_rfl)
end Xd3
namespace Xca
def pts:List PT:=[.pt Xo]
def FS:FS:=Ybk [.sh] pts (fun x=>Xca x.1) fun t=>⟨[.cd (.sl Xl) t],[]⟩
theorem ok:Yb2 PR 102 FS:=
 Yxn Xe Xf Proofs.Tryz.f102 h0 (.R (.R (.R (.L (.R (.one (.fr 0))))))) (G:=G) Gok (L:=mkL [(1,Xde.fr),(0,Xd3.fr)]) (l:=[(0,.loop Xd3.c)]) ⟨Lam.skip rfl (Lam.cons Xd3.ok),trivial⟩
  (fun x=>by simp only[Xca,mC,mB,mS,mO,mN];kernel_rfl)
end Xca
def Xew.B (v:List Xj) (v2:Int) (v3:List Xr):Option ((Int×List Xr)⊕(List Xr)):=
 cond (decide (v2<(v.length:Int))) (cond (inB v2 v.length) (cond (inB v2 v.length) ((Xaq (v.getD v2.toNat Xt).2.1).bind fun v4=>(some (v3++([(false,(v.getD v2.toNat Xt).1,v4,())]))).bind fun v5=>cond (decide (v5.length≤2147483648)) (some (.inl (w64 (v2+1),v5))) none) none) none) (some (.inr v3))
def Xew (v:List Xj):(Int×List Xr)→Option (List Xr):=
 Y9 fun s=>Xew.B v s.1 s.2
def Xcl (v:List Xj):Option (List Xr):=
 (Xew v (0,[])).bind fun v6=>some v6
namespace Xcl
def G:Gam:=mkG [(103,Xaq.FS)]
theorem Gok:GOk PR G:=.cons Xaq.ok .nil
end Xcl
namespace Xew
def c:=Yap (Yaf Proofs.Tryz.f101) [1,1,0,1,0,0]
def sp:SP:=⟨[(0,.cs (.sl Xl)),(3,.seg 3 []),(4,.cs I64)],[(3,.reg,.cd (.sl Xx))]⟩
def fr:=Yja sp (fun x s=>Xew.B x.1.1 s.1 s.2) (fun x=>(x.1.2.2.1,x.2.1)) fun x (bb0:List Xr) _ kk0=>kk0 (.ex 0) ⟨[(3,.seg 3 [])],[sr 3 (.cd (.sl Xx) bb0)]⟩
theorem ok:Ya7 PR 28 1 (.loop c) fr:=
 Yxo Xe Xf h0 (G:=Xcl.G) Xcl.Gok [(0,([3],[3]))] (fun x s=>((x.1.1,x.1.2.1,s.1,x.1.2.2.2),(s.2,x.2.2)))
  (fun x s=>by simp only[B,mC,mB,mS,mO,mN];kernel_rfl)
end Xew
namespace Xcl
def pts:List PT:=[.cs (.sl Xl)]
def FS:FS:=Ybk [.sh] pts (fun x=>Xcl x.1) fun t=>⟨[.cd (.sl Xx) t],[]⟩
theorem ok:Yb2 PR 101 FS:=
 Yxn Xe Xf Proofs.Tryz.f101 h0 (.R (.R (.L (.R (.one (.fr 0)))))) (G:=G) Gok (L:=mkL [(0,Xew.fr)]) (l:=[(0,.loop Xew.c)]) ⟨Lam.cons Xew.ok,trivial⟩
  (fun x=>by simp only[Xcl,mC,mB,mS,mO,mN];kernel_rfl)
end Xcl
def Xkz (v:Int):Option (List Xr):=
 some ([(true,0,[],()),(false,0,[7,w64 (v+1)],()),(true,0,[],())])
namespace Xkz
def pts:List PT:=[.cs I64]
def FS:FS:=Ybk [.sh] pts (fun x=>Xkz x.1) fun t=>⟨[.cd (.sl Xx) t],[]⟩
theorem ok:Yb2 PR 104 FS:=
 Yxn Xe Xf Proofs.Tryz.f104 h0 .no (G:=(mkG [])) .nil (L:=mkL []) (l:=[]) hT
  (fun x=>by simp only[Xkz,mC,mB,mS,mO,mN];kernel_rfl)
end Xkz
def Xeu.B (v3:Int) (v9:Int) (v5:List Xj) (v11:List Xr) (v10:Int) (v12:List Int):Option ((Int×List Int)⊕(List Int)):=
 cond (decide (v10<(v5.length:Int))) (cond (inB v10 v5.length) (cond (decide ((v12++([(v5.getD v10.toNat Xt).1])).length≤2147483648)) (some (.inl (w64 (v10+1),v12++([(v5.getD v10.toNat Xt).1])))) none) none) (some (.inr v12))
def Xeu (v3:Int) (v9:Int) (v5:List Xj) (v11:List Xr):(Int×List Int)→Option (List Int):=
 Y9 fun s=>Xeu.B v3 v9 v5 v11 s.1 s.2
def Xez.B (v3:Int) (v15:Int) (v5:List Xj) (v16:Int) (v17:List Xr):Option ((Int×List Xr)⊕(List Xr)):=
 cond (decide (v16<(v5.length:Int))) (cond (inB v16 v5.length) ((Xaq (v5.getD v16.toNat Xt).2.1).bind fun v18=>(some (v17++([(false,w64 ((2:Int)+v16),v18,())]))).bind fun v19=>cond (decide (v19.length≤2147483648)) (some (.inl (w64 (v16+1),v19))) none) none) (some (.inr v17))
def Xez (v3:Int) (v15:Int) (v5:List Xj):(Int×List Xr)→Option (List Xr):=
 Y9 fun s=>Xez.B v3 v15 v5 s.1 s.2
def Xb4 (v:Xd) (v2:Fs_) (v3:Int):Option (List Xr):=
 (Xd0 v2).bind fun v4=>(Xdc v v4).bind fun v5=>cond ((v5.length:Int) == 0) (some []) ((Xca v2).bind fun v6=>(Xdc v v6).bind fun v7=>(Xcl v7).bind fun v8=>cond (decide ((v8++([(true,0,[],())])).length≤2147483648)) ((Xeu v3 (v5.length:Int) v5 (v8++([(true,0,[],())])) (0,[1,v3,(v5.length:Int)])).bind fun v13=>(some ((v8++([(true,0,[],())]))++([(false,1,v13,())]))).bind fun v14=>cond (decide (v14.length≤2147483648)) ((Xez v3 (v5.length:Int) v5 (0,v14)).bind fun v20=>(some (v20++([(true,0,[],()),(false,w64 ((2:Int)+(v5.length:Int)),[2,v3,(v5.length:Int)],()),(true,0,[],())]))).bind fun v21=>cond (decide (v21.length≤2147483648)) ((Xcl v5).bind fun v22=>cond (decide ((v21++v22).length≤2147483648)) ((Xkz v3).bind fun v23=>cond (decide (((v21++v22)++v23).length≤2147483648)) (some ((v21++v22)++v23)) none) none) none) none) none)
namespace Xb4
def G:Gam:=mkG [(100,Xd0.FS),(99,Xdc.FS),(102,Xca.FS),(101,Xcl.FS),(103,Xaq.FS),(104,Xkz.FS)]
theorem Gok:GOk PR G:=.cons Xd0.ok (.cons Xdc.ok (.cons Xca.ok (.cons Xcl.ok (.cons Xaq.ok (.cons Xkz.ok .nil)))))
end Xb4
namespace Xeu
def c:=Yap (Yaf Proofs.Tryz.f48) [1,1,1,1,1,1,0,1,0,0]
def sp:SP:=⟨[(2,.cs I64),(7,.seg 7 []),(8,.cs I64),(9,.seg 9 []),(10,.seg 10 []),(11,.cs I64)],[(7,.reg,.cd (.sl Xl)),(9,.reg,.cd (.sl Xx)),(10,.reg,.cd SI)]⟩
def fr:=Yja sp (fun x s=>Xeu.B x.1.1 x.1.2.2.1 x.2.1 x.2.2.1 s.1 s.2) (fun x=>(x.1.2.2.2.2.2.1,x.2.2.2.1)) fun x (bb0:List Int) _ kk0=>kk0 (.ex 0) ⟨[(2,.cs I64 x.1.1),(7,.seg 7 []),(8,.cs I64 x.1.2.2.1),(9,.seg 9 []),(10,.seg 10 [])],[sr 7 (.cd (.sl Xl) x.2.1),sr 9 (.cd (.sl Xx) x.2.2.1),sr 10 (.cd SI bb0)]⟩
theorem ok:Ya7 PR 90 3 (.loop c) fr:=
 Yxo Xe Xf h0 (G:=Xb4.G) Xb4.Gok [(0,([2,7,8,9,10],[7,9,10]))] (fun x s=>((x.1.1,x.1.2.1,x.1.2.2.1,x.1.2.2.2.1,x.1.2.2.2.2.1,s.1,x.1.2.2.2.2.2.2),(x.2.1,x.2.2.1,s.2,x.2.2.2.2)))
  (fun x s=>by simp only[B,mC,mB,mS,mO,mN];kernel_rfl)
end Xeu
namespace Xez
def c:=Yap (Yaf Proofs.Tryz.f48) [1,1,1,1,1,1,1,1,0,1,0,0]
def sp:SP:=⟨[(2,.cs I64),(7,.seg 7 []),(8,.cs I64),(9,.seg 9 []),(12,.cs I64)],[(7,.reg,.cd (.sl Xl)),(9,.reg,.cd (.sl Xx))]⟩
def fr:=Yja sp (fun x s=>Xez.B x.1.1 x.1.2.2.1 x.2.1 s.1 s.2) (fun x=>(x.1.2.2.2.2.1,x.2.2.1)) fun x (bb0:List Xr) _ kk0=>kk0 (.ex 2) ⟨[(2,.cs I64 x.1.1),(7,.seg 7 []),(8,.cs I64 x.1.2.2.1),(9,.seg 9 [])],[sr 7 (.cd (.sl Xl) x.2.1),sr 9 (.cd (.sl Xx) bb0)]⟩
theorem ok:Ya7 PR 90 3 (.loop c) fr:=
 Yxo Xe Xf h0 (G:=Xb4.G) Xb4.Gok [(2,([2,7,8,9],[7,9]))] (fun x s=>((x.1.1,x.1.2.1,x.1.2.2.1,x.1.2.2.2.1,s.1,x.1.2.2.2.2.2),(x.2.1,s.2,x.2.2.2)))
  (fun x s=>by simp only[B,mC,mB,mS,mO,mN];kernel_rfl)
end Xez
namespace Xb4
def pts:List PT:=[.pt Xh,.pt Xo,.cs I64]
def FS:FS:=Ybk [.sh,.sh,.sh] pts (fun x=>Xb4 x.1 x.2.1 x.2.2.1) fun t=>⟨[.cd (.sl Xx) t],[]⟩
theorem ok:Yb2 PR 48 FS:=
 Yxn Xe Xf Proofs.Tryz.f48 h0 (.R (.R (.R (.R (.R (.R (.two (.R (.one (.fr 0))) (.R (.L (.R (.one (.fr 1)))))))))))) (G:=G) Gok (L:=mkL [(0,Xeu.fr),(1,Xez.fr)]) (l:=[(0,.loop Xeu.c),(1,.loop Xez.c)]) ⟨Lam.cons Xeu.ok,Lam.skip rfl (Lam.cons Xez.ok),trivial⟩
  (fun x=>by simp only[Xb4,mC,mB,mS,mO,mN];kernel_rfl)
end Xb4
def Xi5 (v:Xd) (v2:Fs_):Option Xfn:=
 (Xhw v).bind fun v3=>cond (v3.1 != 0) (some (v3.1,[],())) ((Xhd v2).bind fun v4=>cond (v4 != 0) (some (v4,[],())) (cond (decide (v3.2.1≥60000)) (some (8,[],())) ((Xb4 v v2 v3.2.1).bind fun v5=>some (0,v5,()))))
namespace Xi5
def G:Gam:=mkG [(46,Xhw.FS),(47,Xhd.FS),(48,Xb4.FS)]
def pts:List PT:=[.cs Xh,.cs Xo]
def FS:FS:=Ybk [.sh,.sh] pts (fun x=>Xi5 x.1 x.2.1) fun t=>⟨[.cd Xbj t],[]⟩
theorem ok:Yb2 PR 9 FS:=
 Yxn Xe Xf Proofs.Tryz.f9 ⟨[2,3],[],[],0⟩ .no (G:=G) (show GOk PR G from .cons Xhw.ok (.cons Xhd.ok (.cons Xb4.ok .nil))) (L:=mkL []) (l:=[]) hT
  (fun x=>by simp only[Xi5,mC,mB,mS,mO,mN];kernel_rfl)
end Xi5
def Xi8 (v:Xr):Option Int:=
 (some (cond v.1 (cond (v.2.1 != 0) true (decide ((v.2.2.1.length:Int)>0))) false)).bind fun v2=>cond v2 (some 1) ((Xan v.2.1 0 46).bind fun v3=>cond (!v3) (some 3) ((Xfg v.2.2.1).bind fun v4=>some v4))
namespace Xi8
def G:Gam:=mkG [(144,Xan.FS),(168,Xfg.FS)]
def pts:List PT:=[.cs Xx]
def FS:FS:=Ybk [.sh] pts (fun x=>Xi8 x.1) fun t=>⟨[.cs I64 t],[]⟩
theorem ok:Yb2 PR 213 FS:=
 Yxn Xe Xf Proofs.Tryz.f213 ⟨[1],[],[],0⟩ .no (G:=G) (show GOk PR G from .cons Xan.ok (.cons Xfg.ok .nil)) (L:=mkL []) (l:=[]) hT
  (fun x=>by simp only[Xi8,mC,mB,mS,mO,mN];kernel_rfl)
end Xi8
def Xgk.B (v:List Xr) (v2:Int):Option (Int⊕((Int⊕Unit))):=
 cond (decide (v2<(v.length:Int))) (cond (inB v2 v.length) ((Xi8 (v.getD v2.toNat Xhy)).bind fun v3=>cond (v3 != 0) (some (.inr (.inl v3))) (some (.inl (w64 (v2+1))))) none) (some (.inr (.inr ())))
def Xgk (v:List Xr):Int→Option ((Int⊕Unit)):=
 Y9 fun s=>Xgk.B v s
def Xer (v:List Xr):Option Int:=
 cond (decide ((v.length:Int)>120)) (some 2) ((Xgk v 0).bind fun v4=>sel v4 (fun v5=>some v5) (fun v6=>some 0))
namespace Xer
def G:Gam:=mkG [(213,Xi8.FS)]
theorem Gok:GOk PR G:=.cons Xi8.ok .nil
end Xer
namespace Xgk
def c:=Yap (Yaf Proofs.Tryz.f155) [1,1,0,1,0,0]
def sp:SP:=⟨[(0,.cs (.sl Xx)),(3,.cs I64)],[]⟩
def fr:=Yja sp (fun x s=>Xgk.B x.1.1 s) (fun x=>x.1.2.1) fun x (oo0:(Int⊕Unit)) _ kk0=>sel oo0 (fun bb0=>kk0 (.rt) ⟨[(2,.cs I64 bb0)],[]⟩) (fun cc0=>kk0 (.ex 0) ⟨[],[]⟩)
theorem ok:Ya7 PR 22 1 (.loop c) fr:=
 Yt2 Xe Xf h0 .no (G:=Xer.G) Xer.Gok (L:=mkL []) (l:=[]) hT [(0,([],[]))] ([2],[]) (fun x s=>((x.1.1,s,x.1.2.2),x.2))
  (fun x s=>by simp only[B,mC,mB,mS,mO,mN];kernel_rfl)
end Xgk
namespace Xer
def pts:List PT:=[.cs (.sl Xx)]
def FS:FS:=Ybk [.sh] pts (fun x=>Xer x.1) fun t=>⟨[.cs I64 t],[]⟩
theorem ok:Yb2 PR 155 FS:=
 Yxn Xe Xf Proofs.Tryz.f155 h0 (.R (.R (.L (.R (.one (.fr 0)))))) (G:=G) Gok (L:=mkL [(0,Xgk.fr)]) (l:=[(0,.loop Xgk.c)]) ⟨Lam.cons Xgk.ok,trivial⟩
  (fun x=>by simp only[Xer,mC,mB,mS,mO,mN];kernel_rfl)
end Xer
def Xd9.B (v:Xd) (v3:Xd) (v2:Int) (v4:Xd):Option ((Int×Xd)⊕Xd):=
 cond (decide (v2<(v.1.length:Int))) (cond (inB v2 v.1.length) ((Xaq (v.1.getD v2.toNat [])).bind fun v5=>cond (decide ((v4.1++([v5])).length≤2147483648)) (some (.inl (w64 (v2+1),(v4.1++([v5]),v4.2)))) none) none) (some (.inr v4))
def Xd9 (v:Xd) (v3:Xd):(Int×Xd)→Option Xd:=
 Y9 fun s=>Xd9.B v v3 s.1 s.2
def Xef.B (v:Xd) (v8:Xd) (v7:Int) (v9:Xd):Option ((Int×Xd)⊕Xd):=
 cond (decide (v7<(v.2.1.length:Int))) (cond (inB v7 v.2.1.length) (cond (inB v7 v.2.1.length) ((Xaq (v.2.1.getD v7.toNat Xt).2.1).bind fun v10=>(some (v9.2.1++([((v.2.1.getD v7.toNat Xt).1,v10,())]))).bind fun v11=>cond (decide (v11.length≤2147483648)) (some (.inl (w64 (v7+1),(v9.1,v11,v9.2.2)))) none) none) none) (some (.inr v9))
def Xef (v:Xd) (v8:Xd):(Int×Xd)→Option Xd:=
 Y9 fun s=>Xef.B v v8 s.1 s.2
def Xa0 (v:Xd):Option Xd:=
 (Xd9 v ([],[],()) (0,([],[],()))).bind fun v6=>(Xef v ([],[],()) (0,v6)).bind fun v12=>some (v12.1,v12.2.1,v12.2.2)
namespace Xa0
def G:Gam:=mkG [(103,Xaq.FS)]
theorem Gok:GOk PR G:=.cons Xaq.ok .nil
end Xa0
namespace Xd9
def c:=Yap (Yaf Proofs.Tryz.f193) [1,1,0,1,0,0]
def sp:SP:=⟨[(1,.pt Xh),(2,.loc 2 []),(3,.loc 3 []),(4,.cs I64)],[(2,.mem,.cd Xh),(3,.mem,.cd Xh)]⟩
def fr:=Yja sp (fun x s=>Xd9.B x.1.1 x.2.1 s.1 s.2) (fun x=>(x.1.2.2.2.1,x.2.2.1)) fun x (bb0:Xd) _ kk0=>kk0 (.ex 0) ⟨[(1,.pt Xh x.1.1),(2,.loc 2 []),(3,.loc 3 [])],[(2,some ⟨.mem,.cd Xh x.2.1⟩),(3,some ⟨.mem,.cd Xh bb0⟩)]⟩
theorem ok:Ya7 PR 52 1 (.loop c) fr:=
 Yxo Xe Xf ⟨[1],[],[],0⟩ (G:=Xa0.G) Xa0.Gok [(0,([1,2,3],[2,3]))] (fun x s=>((x.1.1,x.1.2.1,x.1.2.2.1,s.1,x.1.2.2.2.2),(x.2.1,s.2,x.2.2.2)))
  (fun x s=>by simp only[B,mC,mB,mS,mO,mN];kernel_rfl)
end Xd9
namespace Xef
def c:=Yap (Yaf Proofs.Tryz.f193) [1,1,1,0,1,0,0]
def sp:SP:=⟨[(1,.pt Xh),(2,.loc 2 []),(3,.loc 3 []),(5,.cs I64)],[(2,.mem,.cd Xh),(3,.mem,.cd Xh)]⟩
def fr:=Yja sp (fun x s=>Xef.B x.1.1 x.2.1 s.1 s.2) (fun x=>(x.1.2.2.2.1,x.2.2.1)) fun x (bb0:Xd) _ kk0=>kk0 (.ex 2) ⟨[(2,.loc 2 []),(3,.loc 3 [])],[(2,some ⟨.mem,.cd Xh x.2.1⟩),(3,some ⟨.mem,.cd Xh bb0⟩)]⟩
theorem ok:Ya7 PR 52 1 (.loop c) fr:=
 Yxo Xe Xf ⟨[1],[],[],0⟩ (G:=Xa0.G) Xa0.Gok [(2,([2,3],[2,3]))] (fun x s=>((x.1.1,x.1.2.1,x.1.2.2.1,s.1,x.1.2.2.2.2),(x.2.1,s.2,x.2.2.2)))
  (fun x s=>by simp only[B,mC,mB,mS,mO,mN];kernel_rfl)
end Xef
namespace Xa0
def pts:List PT:=[.cs Xh]
def FS:FS:=Ybk [.sh] pts (fun x=>Xa0 x.1) fun t=>⟨[.cd Xh t],[]⟩
theorem ok:Yb2 PR 193 FS:=
 Yxn Xe Xf Proofs.Tryz.f193 ⟨[1],[],[],0⟩ (.R (.R (.two (.R (.one (.fr 0))) (.L (.R (.one (.fr 1))))))) (G:=G) Gok (L:=mkL [(0,Xd9.fr),(1,Xef.fr)]) (l:=[(0,.loop Xd9.c),(1,.loop Xef.c)]) ⟨Lam.cons Xd9.ok,Lam.skip rfl (Lam.cons Xef.ok),trivial⟩
  (fun x=>by simp only[Xa0,mC,mB,mS,mO,mN];kernel_rfl)
end Xa0
def Xay.B (v2:List Bool) (v3:Bool) (v:Xd) (v6:Xd) (v5:Int) (v7:Xd):Option ((Int×Xd)⊕Xd):=
 cond (decide (v5<(v.2.1.length:Int))) (cond (cond ((!v3)&&(decide (v5<(v2.length:Int)))) (inB v5 v2.length) true) ((some (cond v3 true (cond (decide (v5<(v2.length:Int))) (v2.getD v5.toNat false) false))).bind fun v8=>cond v8 (cond (inB v5 v.2.1.length) (cond (inB v5 v.2.1.length) ((Xaq (v.2.1.getD v5.toNat Xt).2.1).bind fun v9=>cond (inB (v.2.1.getD v5.toNat Xt).1 v7.1.length) ((some (v7.1.set ((v.2.1.getD v5.toNat Xt).1.toNat) v9)).bind fun v10=>some (.inl (w64 (v5+1),(v10,v7.2)))) none) none) none) (some (.inl (w64 (v5+1),v7)))) none) (some (.inr v7))
def Xay (v2:List Bool) (v3:Bool) (v:Xd) (v6:Xd):(Int×Xd)→Option Xd:=
 Y9 fun s=>Xay.B v2 v3 v v6 s.1 s.2
def Xbo (v:Xd) (v2:List Bool) (v3:Bool):Option Xd:=
 (Xa0 v).bind fun v4=>(Xay v2 v3 v ([],[],()) (0,(v4.1,[],v4.2.2))).bind fun v11=>some (v11.1,v11.2.1,v11.2.2)
namespace Xbo
def G:Gam:=mkG [(193,Xa0.FS),(103,Xaq.FS)]
theorem Gok:GOk PR G:=.cons Xa0.ok (.cons Xaq.ok .nil)
end Xbo
namespace Xay
def c:=Yap (Yaf Proofs.Tryz.f130) [1,1,1,0,1,0,0]
def sp:SP:=⟨[(1,.cs (.sl .bool)),(2,.cs .bool),(3,.pt Xh),(6,.loc 6 []),(7,.loc 7 []),(8,.cs I64)],[(6,.mem,.cd Xh),(7,.mem,.cd Xh)]⟩
def fr:=Yja sp (fun x s=>Xay.B x.1.1 x.1.2.1 x.1.2.2.1 x.2.1 s.1 s.2) (fun x=>(x.1.2.2.2.2.2.1,x.2.2.1)) fun x (bb0:Xd) _ kk0=>kk0 (.ex 0) ⟨[(6,.loc 6 []),(7,.loc 7 [])],[(6,some ⟨.mem,.cd Xh x.2.1⟩),(7,some ⟨.mem,.cd Xh bb0⟩)]⟩
theorem ok:Ya7 PR 49 3 (.loop c) fr:=
 Yxo Xe Xf ⟨[3],[],[],0⟩ (G:=Xbo.G) Xbo.Gok [(0,([6,7],[6,7]))] (fun x s=>((x.1.1,x.1.2.1,x.1.2.2.1,x.1.2.2.2.1,x.1.2.2.2.2.1,s.1,x.1.2.2.2.2.2.2),(x.2.1,s.2,x.2.2.2)))
  (fun x s=>by simp only[B,mC,mB,mS,mO,mN];kernel_rfl)
end Xay
namespace Xbo
def pts:List PT:=[.cs Xh,.cs (.sl .bool),.cs .bool]
def FS:FS:=Ybk [.sh,.sh,.sh] pts (fun x=>Xbo x.1 x.2.1 x.2.2.1) fun t=>⟨[.cd Xh t],[]⟩
theorem ok:Yb2 PR 130 FS:=
 Yxn Xe Xf Proofs.Tryz.f130 ⟨[3],[],[],0⟩ (.R (.R (.R (.L (.R (.one (.fr 0))))))) (G:=G) Gok (L:=mkL [(0,Xay.fr)]) (l:=[(0,.loop Xay.c)]) ⟨Lam.cons Xay.ok,trivial⟩
  (fun x=>by simp only[Xbo,mC,mB,mS,mO,mN];kernel_rfl)
end Xbo
def Xkq (v:Xd) (v2:Int):Option Bool:=
 (Xan v2 0 (w64 ((v.1.length:Int)-1))).bind fun v3=>some v3
namespace Xkq
def G:Gam:=mkG [(144,Xan.FS)]
def pts:List PT:=[.pt Xh,.cs I64]
def FS:FS:=Ybk [.sh,.sh] pts (fun x=>Xkq x.1 x.2.1) fun t=>⟨[.cs .bool t],[]⟩
theorem ok:Yb2 PR 237 FS:=
 Yxn Xe Xf Proofs.Tryz.f237 h0 .no (G:=G) (show GOk PR G from .cons Xan.ok .nil) (L:=mkL []) (l:=[]) hT
  (fun x=>by simp only[Xkq,mC,mB,mS,mO,mN];kernel_rfl)
end Xkq
def Xgy (v:Xd) (v2:Int) (v3:List Int):Option Xn:=
 (Xb1 v).bind fun v4=>cond (v4 != 0) (some (v4,([],[],()),())) ((Xkq v v2).bind fun v5=>cond (!v5) (some (3,([],[],()),())) ((Xfg v3).bind fun v6=>cond (v6 != 0) (some (v6,([],[],()),())) (cond (decide ((v.2.1.length:Int)≥200)) (some (2,([],[],()),())) ((Xa0 v).bind fun v7=>(Xaq v3).bind fun v8=>cond (decide ((v7.2.1++([(v2,v8,())])).length≤2147483648)) (some (0,(v7.1,v7.2.1++([(v2,v8,())]),v7.2.2),())) none))))
namespace Xgy
def G:Gam:=mkG [(93,Xb1.FS),(237,Xkq.FS),(168,Xfg.FS),(193,Xa0.FS),(103,Xaq.FS)]
def pts:List PT:=[.cs Xh,.cs I64,.cs SI]
def FS:FS:=Ybk [.sh,.sh,.sh] pts (fun x=>Xgy x.1 x.2.1 x.2.2.1) fun t=>⟨[.cd Xk t],[]⟩
theorem ok:Yb2 PR 214 FS:=
 Yxn Xe Xf Proofs.Tryz.f214 ⟨[3],[],[],0⟩ .no (G:=G) (show GOk PR G from .cons Xb1.ok (.cons Xkq.ok (.cons Xfg.ok (.cons Xa0.ok (.cons Xaq.ok .nil))))) (L:=mkL []) (l:=[]) hT
  (fun x=>by simp only[Xgy,mC,mB,mS,mO,mN];kernel_rfl)
end Xgy
def Xbb.B (v2:List Xr) (v5:Xn) (v4:Int) (v6:Xn):Option ((Int×Xn)⊕((Xn⊕Xn))):=
 cond (decide (v4<(v2.length:Int))) (cond (inB v4 v2.length) (cond (v2.getD v4.toNat Xhy).1 ((Xbo (v6.2.1.1,v6.2.1.2.1,v6.2.1.2.2) [] true).bind fun v7=>some (.inl (w64 (v4+1),(v6.1,(v7.1,v7.2.1,v7.2.2),v6.2.2)))) (cond (inB v4 v2.length) (cond (inB v4 v2.length) ((Xgy (v6.2.1.1,v6.2.1.2.1,v6.2.1.2.2) (v2.getD v4.toNat Xhy).2.1 (v2.getD v4.toNat Xhy).2.2.1).bind fun v8=>cond (v8.1 != 0) (some (.inr (.inl (v8.1,(v8.2.1.1,v8.2.1.2.1,v8.2.1.2.2),v8.2.2)))) (some (.inl (w64 (v4+1),(v8.1,(v8.2.1.1,v8.2.1.2.1,v8.2.1.2.2),v8.2.2))))) none) none)) none) (some (.inr (.inr v6)))
def Xbb (v2:List Xr) (v5:Xn):(Int×Xn)→Option ((Xn⊕Xn)):=
 Y9 fun s=>Xbb.B v2 v5 s.1 s.2
def Xga (v:Xd) (v2:List Xr):Option Xn:=
 (Xa0 v).bind fun v3=>(Xbb v2 (0,([],[],()),()) (0,(0,(v3.1,v3.2.1,v3.2.2),()))).bind fun v9=>sel v9 (fun v10=>some (v10.1,(v10.2.1.1,v10.2.1.2.1,v10.2.1.2.2),v10.2.2)) (fun v11=>some (v11.1,(v11.2.1.1,v11.2.1.2.1,v11.2.1.2.2),v11.2.2))
namespace Xga
def G:Gam:=mkG [(193,Xa0.FS),(130,Xbo.FS),(214,Xgy.FS)]
theorem Gok:GOk PR G:=.cons Xa0.ok (.cons Xbo.ok (.cons Xgy.ok .nil))
end Xga
namespace Xbb
def c:=Yap (Yaf Proofs.Tryz.f156) [1,1,0,1,0,0]
def sp:SP:=⟨[(1,.cs (.sl Xx)),(4,.loc 4 []),(5,.loc 5 []),(6,.cs I64)],[(4,.mem,.cd Xk),(5,.mem,.cd Xk)]⟩
def fr:=Yja sp (fun x s=>Xbb.B x.1.1 x.2.1 s.1 s.2) (fun x=>(x.1.2.2.2.1,x.2.2.1)) fun x (oo0:(Xn⊕Xn)) _ kk0=>sel oo0 (fun bb0=>kk0 (.rt) ⟨[(4,.loc 4 [])],[(4,some ⟨.mem,.cd Xk bb0⟩)]⟩) (fun cc0=>kk0 (.ex 0) ⟨[(4,.loc 4 []),(5,.loc 5 [])],[(4,some ⟨.mem,.cd Xk x.2.1⟩),(5,some ⟨.mem,.cd Xk cc0⟩)]⟩)
theorem ok:Ya7 PR 43 2 (.loop c) fr:=
 Yt2 Xe Xf ⟨[2],[],[],0⟩ .no (G:=Xga.G) Xga.Gok (L:=mkL []) (l:=[]) hT [(0,([4,5],[4,5]))] ([4],[4]) (fun x s=>((x.1.1,x.1.2.1,x.1.2.2.1,s.1,x.1.2.2.2.2),(x.2.1,s.2,x.2.2.2)))
  (fun x s=>by simp only[B,mC,mB,mS,mO,mN];kernel_rfl)
end Xbb
namespace Xga
def pts:List PT:=[.cs Xh,.cs (.sl Xx)]
def FS:FS:=Ybk [.sh,.sh] pts (fun x=>Xga x.1 x.2.1) fun t=>⟨[.cd Xk t],[]⟩
theorem ok:Yb2 PR 156 FS:=
 Yxn Xe Xf Proofs.Tryz.f156 ⟨[2],[],[],0⟩ (.R (.R (.L (.R (.one (.fr 0)))))) (G:=G) Gok (L:=mkL [(0,Xbb.fr)]) (l:=[(0,.loop Xbb.c)]) ⟨Lam.cons Xbb.ok,trivial⟩
  (fun x=>by simp only[Xga,mC,mB,mS,mO,mN];kernel_rfl)
end Xga
def Xio (v:Xd) (v2:List Xr):Option Xn:=
 (Xb1 v).bind fun v3=>cond (v3 != 0) (some (v3,([],[],()),())) (cond ((v.1.length:Int) != 47) (some (1,([],[],()),())) ((Xer v2).bind fun v4=>cond (v4 != 0) (some (v4,([],[],()),())) ((Xga v v2).bind fun v5=>some (v5.1,(v5.2.1.1,v5.2.1.2.1,v5.2.1.2.2),v5.2.2))))
namespace Xio
def G:Gam:=mkG [(93,Xb1.FS),(155,Xer.FS),(156,Xga.FS)]
def pts:List PT:=[.cs Xh,.cs (.sl Xx)]
def FS:FS:=Ybk [.sh,.sh] pts (fun x=>Xio x.1 x.2.1) fun t=>⟨[.cd Xk t],[]⟩
theorem ok:Yb2 PR 79 FS:=
 Yxn Xe Xf Proofs.Tryz.f79 ⟨[2],[],[],0⟩ .no (G:=G) (show GOk PR G from .cons Xb1.ok (.cons Xer.ok (.cons Xga.ok .nil))) (L:=mkL []) (l:=[]) hT
  (fun x=>by simp only[Xio,mC,mB,mS,mO,mN];kernel_rfl)
end Xio
def Xhn (v:Xd) (v2:List Bool):Option Xn:=
 (Xb1 v).bind fun v3=>cond (v3 != 0) (some (v3,([],[],()),())) ((Xbo v v2 false).bind fun v4=>some (0,(v4.1,v4.2.1,v4.2.2),()))
namespace Xhn
def G:Gam:=mkG [(93,Xb1.FS),(130,Xbo.FS)]
def pts:List PT:=[.cs Xh,.cs (.sl .bool)]
def FS:FS:=Ybk [.sh,.sh] pts (fun x=>Xhn x.1 x.2.1) fun t=>⟨[.cd Xk t],[]⟩
theorem ok:Yb2 PR 145 FS:=
 Yxn Xe Xf Proofs.Tryz.f145 ⟨[2],[],[],0⟩ .no (G:=G) (show GOk PR G from .cons Xb1.ok (.cons Xbo.ok .nil)) (L:=mkL []) (l:=[]) hT
  (fun x=>by simp only[Xhn,mC,mB,mS,mO,mN];kernel_rfl)
end Xhn
def Xiy (v:Xd) (v2:Xfn) (v3:Int) (v4:List Bool):Option Xn:=
 cond (v2.1 != 0) (some (v2.1,([],[],()),())) ((Xan v3 0 (v2.2.1.length:Int)).bind fun v5=>cond (!v5) (some (3,([],[],()),())) (cond (decide ((0:Int)≤v3)&&decide (v3≤(v2.2.1.length:Int))) ((Xio v ((v2.2.1.take v3.toNat).drop 0)).bind fun v6=>cond (v6.1 != 0) (some (v6.1,(v6.2.1.1,v6.2.1.2.1,v6.2.1.2.2),v6.2.2)) ((Xhn (v6.2.1.1,v6.2.1.2.1,v6.2.1.2.2) v4).bind fun v7=>some (v7.1,(v7.2.1.1,v7.2.1.2.1,v7.2.1.2.2),v7.2.2))) none))
namespace Xiy
def G:Gam:=mkG [(144,Xan.FS),(79,Xio.FS),(145,Xhn.FS)]
def pts:List PT:=[.cs Xh,.cs Xbj,.cs I64,.cs (.sl .bool)]
def FS:FS:=Ybk [.sh,.sh,.sh,.sh] pts (fun x=>Xiy x.1 x.2.1 x.2.2.1 x.2.2.2.1) fun t=>⟨[.cd Xk t],[]⟩
theorem ok:Yb2 PR 75 FS:=
 Yxn Xe Xf Proofs.Tryz.f75 ⟨[4,5],[],[],0⟩ .no (G:=G) (show GOk PR G from .cons Xan.ok (.cons Xio.ok (.cons Xhn.ok .nil))) (L:=mkL []) (l:=[]) hT
  (fun x=>by simp only[Xiy,mC,mB,mS,mO,mN];kernel_rfl)
end Xiy
def Xhi (v:Xz) (v2:Int) (v3:List Bool):Option Xn:=
 (Xiv v).bind fun v4=>cond (v4 != 0) (some (v4,([],[],()),())) ((Xi5 v.1 v.2.1).bind fun v5=>(Xiy v.1 (v5.1,v5.2.1,v5.2.2) v2 v3).bind fun v6=>some (v6.1,(v6.2.1.1,v6.2.1.2.1,v6.2.1.2.2),v6.2.2))
namespace Xhi
def G:Gam:=mkG [(74,Xiv.FS),(9,Xi5.FS),(75,Xiy.FS)]
def pts:List PT:=[.cs Xp,.cs I64,.cs (.sl .bool)]
def FS:FS:=Ybk [.sh,.sh,.sh] pts (fun x=>Xhi x.1 x.2.1 x.2.2.1) fun t=>⟨[.cd Xk t],[]⟩
theorem ok:Yb2 PR 26 FS:=
 Yxn Xe Xf Proofs.Tryz.f26 ⟨[3],[],[],0⟩ .no (G:=G) (show GOk PR G from .cons Xiv.ok (.cons Xi5.ok (.cons Xiy.ok .nil))) (L:=mkL []) (l:=[]) hT
  (fun x=>by simp only[Xhi,mC,mB,mS,mO,mN];kernel_rfl)
end Xhi
def X7 (v:Int) (v2:Int) (v3:Int):Option Bool:=
 some (cond (decide (v≥v2)) (decide (v≤v3)) false)
namespace X7
def pts:List PT:=[.cs I64,.cs I64,.cs I64]
def FS:FS:=Ybk [.sh,.sh,.sh] pts (fun x=>X7 x.1 x.2.1 x.2.2.1) fun t=>⟨[.cs .bool t],[]⟩
theorem ok:Yb2 PR 150 FS:=
 Yxn Xe Xf Proofs.Tryz.f150 h0 .no (G:=(mkG [])) .nil (L:=mkL []) (l:=[]) hT
  (fun x=>by simp only[X7,mC,mB,mS,mO,mN];kernel_rfl)
end X7
def Xkw (v:Int):Option Bool:=
 (X7 v 0 65535).bind fun v2=>some (!v2)
namespace Xkw
def G:Gam:=mkG [(150,X7.FS)]
def pts:List PT:=[.cs I64]
def FS:FS:=Ybk [.sh] pts (fun x=>Xkw x.1) fun t=>⟨[.cs .bool t],[]⟩
theorem ok:Yb2 PR 222 FS:=
 Yxn Xe Xf Proofs.Tryz.f222 h0 .no (G:=G) (show GOk PR G from .cons X7.ok .nil) (L:=mkL []) (l:=[]) hT
  (fun x=>by simp only[Xkw,mC,mB,mS,mO,mN];kernel_rfl)
end Xkw
def Xek.B (v:List Int) (v2:Unit) (v3:Int) (v4:Int):Option (Int⊕((Int⊕Unit))):=
 cond (decide (v4<v3)) (cond (inB v4 v.length) ((Xkw (v.getD v4.toNat 0)).bind fun v5=>cond v5 (some (.inr (.inl v4))) (some (.inl (w64 (v4+1))))) none) (some (.inr (.inr ())))
def Xek (v:List Int) (v2:Unit) (v3:Int):Int→Option ((Int⊕Unit)):=
 Y9 fun s=>Xek.B v v2 v3 s
def Xfv (v:List Int) (v2:Unit):Option Int:=
 (Xek v v2 (v.length:Int) 0).bind fun v6=>sel v6 (fun v7=>some v7) (fun v8=>some (-1))
namespace Xfv
def G:Gam:=mkG [(222,Xkw.FS)]
theorem Gok:GOk PR G:=.cons Xkw.ok .nil
end Xfv
namespace Xek
def c:=Yap (Yaf Proofs.Tryz.f233) [1,0,1,0,0]
def sp:SP:=⟨[(0,.cs SI),(1,.clo 222 (.cs .unit)),(7,.cs I64),(8,.cs I64)],[]⟩
def fr:=Yja sp (fun x s=>Xek.B x.1.1 x.1.2.1 x.1.2.2.1 s) (fun x=>x.1.2.2.2.1) fun x (oo0:(Int⊕Unit)) _ kk0=>sel oo0 (fun bb0=>kk0 (.rt) ⟨[(4,.cs I64 bb0)],[]⟩) (fun cc0=>kk0 (.ex 0) ⟨[],[]⟩)
theorem ok:Ya7 PR 19 2 (.loop c) fr:=
 Yt2 Xe Xf h0 .no (G:=Xfv.G) Xfv.Gok (L:=mkL []) (l:=[]) hT [(0,([],[]))] ([4],[]) (fun x s=>((x.1.1,x.1.2.1,x.1.2.2.1,s,x.1.2.2.2.2),x.2))
  (fun x s=>by simp only[B,mC,mB,mS,mO,mN];kernel_rfl)
end Xek
namespace Xfv
def pts:List PT:=[.cs SI,.clo 222 (.cs .unit)]
def FS:FS:=Ybk [.sh,.sh] pts (fun x=>Xfv x.1 x.2.1) fun t=>⟨[.cs I64 t],[]⟩
theorem ok:Yb2 PR 233 FS:=
 Yxn Xe Xf Proofs.Tryz.f233 h0 (.R (.L (.R (.one (.fr 0))))) (G:=G) Gok (L:=mkL [(0,Xek.fr)]) (l:=[(0,.loop Xek.c)]) ⟨Lam.cons Xek.ok,trivial⟩
  (fun x=>by simp only[Xfv,mC,mB,mS,mO,mN];kernel_rfl)
end Xfv
def Xkg (v:List Int) (v2:Unit):Option Bool:=
 (Xfv v v2).bind fun v3=>some (decide (v3≥0))
namespace Xkg
def G:Gam:=mkG [(233,Xfv.FS)]
def pts:List PT:=[.cs SI,.clo 222 (.cs .unit)]
def FS:FS:=Ybk [.sh,.sh] pts (fun x=>Xkg x.1 x.2.1) fun t=>⟨[.cs .bool t],[]⟩
theorem ok:Yb2 PR 201 FS:=
 Yxn Xe Xf Proofs.Tryz.f201 h0 .no (G:=G) (show GOk PR G from .cons Xfv.ok .nil) (L:=mkL []) (l:=[]) hT
  (fun x=>by simp only[Xkg,mC,mB,mS,mO,mN];kernel_rfl)
end Xkg
def Xd2 (v:List Int):Option Int:=
 cond (decide ((v.length:Int)>64)) (some 2) ((Xkg v ()).bind fun v2=>cond v2 (some 3) (some 0))
namespace Xd2
def G:Gam:=mkG [(201,Xkg.FS)]
def pts:List PT:=[.cs SI]
def FS:FS:=Ybk [.sh] pts (fun x=>Xd2 x.1) fun t=>⟨[.cs I64 t],[]⟩
theorem ok:Yb2 PR 178 FS:=
 Yxn Xe Xf Proofs.Tryz.f178 h0 .no (G:=G) (show GOk PR G from .cons Xkg.ok .nil) (L:=mkL []) (l:=[]) hT
  (fun x=>by simp only[Xd2,mC,mB,mS,mO,mN];kernel_rfl)
end Xd2
def Xkv (v:List (List Int)):Option Int:=
 some (v.length:Int)
namespace Xkv
def pts:List PT:=[.cs (.sl SI)]
def FS:FS:=Ybk [.sh] pts (fun x=>Xkv x.1) fun t=>⟨[.cs I64 t],[]⟩
theorem ok:Yb2 PR 179 FS:=
 Yxn Xe Xf Proofs.Tryz.f179 h0 .no (G:=(mkG [])) .nil (L:=mkL []) (l:=[]) hT
  (fun x=>by simp only[Xkv,mC,mB,mS,mO,mN];kernel_rfl)
end Xkv
def Xfy.B (v:Xd) (v3:List (List Int)) (v4:Int) (v5:Int):Option (Int⊕((Int⊕Unit))):=
 cond (decide (v5<v4)) (cond (inB v5 v3.length) ((Xd2 (v3.getD v5.toNat [])).bind fun v6=>cond (v6 != 0) (some (.inr (.inl v6))) (some (.inl (w64 (v5+1))))) none) (some (.inr (.inr ())))
def Xfy (v:Xd) (v3:List (List Int)) (v4:Int):Int→Option ((Int⊕Unit)):=
 Y9 fun s=>Xfy.B v v3 v4 s
def Xf9.B (v:Xd) (v10:List Xj) (v11:Int) (v12:Int):Option (Int⊕((Int⊕Unit))):=
 cond (decide (v12<v11)) (cond (inB v12 v10.length) ((Xkv v.1).bind fun v13=>(X7 (v10.getD v12.toNat Xt).1 0 (w64 (v13-1))).bind fun v14=>cond (!v14) (some (.inr (.inl 3))) ((Xd2 (v10.getD v12.toNat Xt).2.1).bind fun v15=>cond (v15 != 0) (some (.inr (.inl v15))) (some (.inl (w64 (v12+1)))))) none) (some (.inr (.inr ())))
def Xf9 (v:Xd) (v10:List Xj) (v11:Int):Int→Option ((Int⊕Unit)):=
 Y9 fun s=>Xf9.B v v10 v11 s
def Xcg (v:Xd):Option Int:=
 (some (cond (decide ((v.1.length:Int)>60)) true (decide ((v.2.1.length:Int)>200)))).bind fun v2=>cond v2 (some 2) ((Xfy v v.1 (v.1.length:Int) 0).bind fun v7=>sel v7 (fun v8=>some v8) (fun v9=>(Xf9 v v.2.1 (v.2.1.length:Int) 0).bind fun v16=>sel v16 (fun v17=>some v17) (fun v18=>some 0)))
namespace Xcg
def G:Gam:=mkG [(178,Xd2.FS),(179,Xkv.FS),(150,X7.FS)]
theorem Gok:GOk PR G:=.cons Xd2.ok (.cons Xkv.ok (.cons X7.ok .nil))
end Xcg
namespace Xfy
def c:=Yap (Yaf Proofs.Tryz.f109) [1,1,0,1,0,0]
def sp:SP:=⟨[(1,.pt Xh),(20,.cs (.sl SI)),(21,.cs I64),(22,.cs I64)],[]⟩
def fr:=Yja sp (fun x s=>Xfy.B x.1.1 x.1.2.1 x.1.2.2.1 s) (fun x=>x.1.2.2.2.1) fun x (oo0:(Int⊕Unit)) _ kk0=>sel oo0 (fun bb0=>kk0 (.rt) ⟨[(2,.cs I64 bb0)],[]⟩) (fun cc0=>kk0 (.ex 0) ⟨[(1,.pt Xh x.1.1)],[]⟩)
theorem ok:Ya7 PR 54 1 (.loop c) fr:=
 Yt2 Xe Xf ⟨[1],[],[],0⟩ .no (G:=Xcg.G) Xcg.Gok (L:=mkL []) (l:=[]) hT [(0,([1],[]))] ([2],[]) (fun x s=>((x.1.1,x.1.2.1,x.1.2.2.1,s,x.1.2.2.2.2),x.2))
  (fun x s=>by simp only[B,mC,mB,mS,mO,mN];kernel_rfl)
end Xfy
namespace Xf9
def c:=Yap (Yaf Proofs.Tryz.f109) [1,1,1,0,1,0,0]
def sp:SP:=⟨[(1,.pt Xh),(33,.cs (.sl Xl)),(34,.cs I64),(35,.cs I64)],[]⟩
def fr:=Yja sp (fun x s=>Xf9.B x.1.1 x.1.2.1 x.1.2.2.1 s) (fun x=>x.1.2.2.2.1) fun x (oo0:(Int⊕Unit)) _ kk0=>sel oo0 (fun bb0=>kk0 (.rt) ⟨[(2,.cs I64 bb0)],[]⟩) (fun cc0=>kk0 (.ex 2) ⟨[],[]⟩)
theorem ok:Ya7 PR 54 1 (.loop c) fr:=
 Yt2 Xe Xf ⟨[1],[],[],0⟩ .no (G:=Xcg.G) Xcg.Gok (L:=mkL []) (l:=[]) hT [(2,([],[]))] ([2],[]) (fun x s=>((x.1.1,x.1.2.1,x.1.2.2.1,s,x.1.2.2.2.2),x.2))
  (fun x s=>by simp only[B,mC,mB,mS,mO,mN];kernel_rfl)
end Xf9
namespace Xcg
def pts:List PT:=[.cs Xh]
def FS:FS:=Ybk [.sh] pts (fun x=>Xcg x.1) fun t=>⟨[.cs I64 t],[]⟩
theorem ok:Yb2 PR 109 FS:=
 Yxn Xe Xf Proofs.Tryz.f109 ⟨[1],[],[],0⟩ (.R (.R (.two (.R (.one (.fr 0))) (.L (.R (.one (.fr 1))))))) (G:=G) Gok (L:=mkL [(0,Xfy.fr),(1,Xf9.fr)]) (l:=[(0,.loop Xfy.c),(1,.loop Xf9.c)]) ⟨Lam.cons Xfy.ok,Lam.skip rfl (Lam.cons Xf9.ok),trivial⟩
  (fun x=>by simp only[Xcg,mC,mB,mS,mO,mN];kernel_rfl)
end Xcg
noncomputable def Xck (d:Xd) (at_:Int):Option (List Int):=Yl3 d at_
def Xck.FS:FS:=Ybk [.sh,.sh] [.pt Yq,.cl .sh (.int .i64)] (fun x=>Yl3 x.1 x.2.1) fun y=>⟨[.cl .sh (.sl (.int .i64)) y],[]⟩
theorem Xck.ok:Yb2 Go.Proofs.Tryz.prog 110 Xck.FS:=
 Yv4 ⟨Go.Proofs.Tryz.f110,by kernel_rfl,by kernel_rfl,by kernel_rfl⟩ (fun bd od at_ A C nB cB nC cC hd w v h1 h2 h3 h4 h5 h6=>callsIn_wide.1 (Go.Proofs.Bk.block_in Fence.wide 3 trivial trivial trivial rfl (by omega) bd od at_ A C nB cB nC cC hd w v h1 h2 h3 h4 h5 h6))
def Xkm (v:Int):Option Bool:=
 (X7 v 1 60000).bind fun v2=>some v2
namespace Xkm
def G:Gam:=mkG [(150,X7.FS)]
def pts:List PT:=[.cs I64]
def FS:FS:=Ybk [.sh] pts (fun x=>Xkm x.1) fun t=>⟨[.cs .bool t],[]⟩
theorem ok:Yb2 PR 111 FS:=
 Yxn Xe Xf Proofs.Tryz.f111 h0 .no (G:=G) (show GOk PR G from .cons X7.ok .nil) (L:=mkL []) (l:=[]) hT
  (fun x=>by simp only[Xkm,mC,mB,mS,mO,mN];kernel_rfl)
end Xkm
def Xdt (v:Xd):Option (Int×Int):=
 (Xcg v).bind fun v2=>cond (v2 != 0) (some (0,v2)) (cond ((v.1.length:Int) != 47) (some (0,1)) ((Xck v 0).bind fun v3=>cond (cond (!((v3.length:Int) != 2)) (inB 0 v3.length) true) ((some (cond ((v3.length:Int) != 2) true ((v3.getD (0:Int).toNat 0) != 7))).bind fun v4=>cond v4 (some (0,5)) (cond (inB 1 v3.length) ((Xkm (v3.getD (1:Int).toNat 0)).bind fun v5=>cond (!v5) (some (0,5)) (cond (inB 1 v3.length) (some (v3.getD (1:Int).toNat 0,0)) none)) none)) none))
namespace Xdt
def G:Gam:=mkG [(109,Xcg.FS),(110,Xck.FS),(111,Xkm.FS)]
def pts:List PT:=[.cs Xh]
def FS:FS:=Ybk [.sh] pts (fun x=>Xdt x.1) fun t=>⟨[.cs I64 t.1,.cs I64 t.2],[]⟩
theorem ok:Yb2 PR 53 FS:=
 Yxn Xe Xf Proofs.Tryz.f53 ⟨[1],[],[],0⟩ .no (G:=G) (show GOk PR G from .cons Xcg.ok (.cons Xck.ok (.cons Xkm.ok .nil))) (L:=mkL []) (l:=[]) hT
  (fun x=>by simp only[Xdt,mC,mB,mS,mO,mN];kernel_rfl)
end Xdt
def Xbs (v:List Int):Option Int:=
 some (v.length:Int)
namespace Xbs
def pts:List PT:=[.cs SI]
def FS:FS:=Ybk [.sh] pts (fun x=>Xbs x.1) fun t=>⟨[.cs I64 t],[]⟩
theorem ok:Yb2 PR 138 FS:=
 Yxn Xe Xf Proofs.Tryz.f138 h0 .no (G:=(mkG [])) .nil (L:=mkL []) (l:=[]) hT
  (fun x=>by simp only[Xbs,mC,mB,mS,mO,mN];kernel_rfl)
end Xbs
def Xkl (v:Int):Option Int:=
 cond (!((8:Int) == 0)) (some (w64 ((w64 ((w64 (v+8))-1)).tdiv 8))) none
namespace Xkl
def pts:List PT:=[.cs I64]
def FS:FS:=Ybk [.sh] pts (fun x=>Xkl x.1) fun t=>⟨[.cs I64 t],[]⟩
theorem ok:Yb2 PR 257 FS:=
 Yxn Xe Xf Proofs.Tryz.f257 h0 .no (G:=(mkG [])) .nil (L:=mkL []) (l:=[]) hT
  (fun x=>by simp only[Xkl,mC,mB,mS,mO,mN];kernel_rfl)
end Xkl
def Xkn (v:Int):Option Bool:=
 (X7 v 0 19).bind fun v2=>some (!v2)
namespace Xkn
def G:Gam:=mkG [(150,X7.FS)]
def pts:List PT:=[.cs I64]
def FS:FS:=Ybk [.sh] pts (fun x=>Xkn x.1) fun t=>⟨[.cs .bool t],[]⟩
theorem ok:Yb2 PR 258 FS:=
 Yxn Xe Xf Proofs.Tryz.f258 h0 .no (G:=G) (show GOk PR G from .cons X7.ok .nil) (L:=mkL []) (l:=[]) hT
  (fun x=>by simp only[Xkn,mC,mB,mS,mO,mN];kernel_rfl)
end Xkn
def Xf2.B (v:List Int) (v2:Unit) (v3:Int) (v4:Int):Option (Int⊕((Int⊕Unit))):=
 cond (decide (v4<v3)) (cond (inB v4 v.length) ((Xkn (v.getD v4.toNat 0)).bind fun v5=>cond v5 (some (.inr (.inl v4))) (some (.inl (w64 (v4+1))))) none) (some (.inr (.inr ())))
def Xf2 (v:List Int) (v2:Unit) (v3:Int):Int→Option ((Int⊕Unit)):=
 Y9 fun s=>Xf2.B v v2 v3 s
def Xgb (v:List Int) (v2:Unit):Option Int:=
 (Xf2 v v2 (v.length:Int) 0).bind fun v6=>sel v6 (fun v7=>some v7) (fun v8=>some (-1))
namespace Xgb
def G:Gam:=mkG [(258,Xkn.FS)]
theorem Gok:GOk PR G:=.cons Xkn.ok .nil
end Xgb
namespace Xf2
def c:=Yap (Yaf Proofs.Tryz.f233) [1,0,1,0,0]
def sp:SP:=⟨[(0,.cs SI),(1,.clo 258 (.cs .unit)),(7,.cs I64),(8,.cs I64)],[]⟩
def fr:=Yja sp (fun x s=>Xf2.B x.1.1 x.1.2.1 x.1.2.2.1 s) (fun x=>x.1.2.2.2.1) fun x (oo0:(Int⊕Unit)) _ kk0=>sel oo0 (fun bb0=>kk0 (.rt) ⟨[(4,.cs I64 bb0)],[]⟩) (fun cc0=>kk0 (.ex 0) ⟨[],[]⟩)
theorem ok:Ya7 PR 19 2 (.loop c) fr:=
 Yt2 Xe Xf h0 .no (G:=Xgb.G) Xgb.Gok (L:=mkL []) (l:=[]) hT [(0,([],[]))] ([4],[]) (fun x s=>((x.1.1,x.1.2.1,x.1.2.2.1,s,x.1.2.2.2.2),x.2))
  (fun x s=>by simp only[B,mC,mB,mS,mO,mN];kernel_rfl)
end Xf2
namespace Xgb
def pts:List PT:=[.cs SI,.clo 258 (.cs .unit)]
def FS:FS:=Ybk [.sh,.sh] pts (fun x=>Xgb x.1 x.2.1) fun t=>⟨[.cs I64 t],[]⟩
theorem ok:Yb2 PR 233 FS:=
 Yxn Xe Xf Proofs.Tryz.f233 h0 (.R (.L (.R (.one (.fr 0))))) (G:=G) Gok (L:=mkL [(0,Xf2.fr)]) (l:=[(0,.loop Xf2.c)]) ⟨Lam.cons Xf2.ok,trivial⟩
  (fun x=>by simp only[Xgb,mC,mB,mS,mO,mN];kernel_rfl)
end Xgb
def Xi6 (v:List Int) (v2:Unit):Option Bool:=
 (Xgb v v2).bind fun v3=>some (decide (v3≥0))
namespace Xi6
def G:Gam:=mkG [(233,Xgb.FS)]
def pts:List PT:=[.cs SI,.clo 258 (.cs .unit)]
def FS:FS:=Ybk [.sh,.sh] pts (fun x=>Xi6 x.1 x.2.1) fun t=>⟨[.cs .bool t],[]⟩
theorem ok:Yb2 PR 201 FS:=
 Yxn Xe Xf Proofs.Tryz.f201 h0 .no (G:=G) (show GOk PR G from .cons Xgb.ok .nil) (L:=mkL []) (l:=[]) hT
  (fun x=>by simp only[Xi6,mC,mB,mS,mO,mN];kernel_rfl)
end Xi6
def Xgj.B (v:List Int) (v2:Int) (v3:Int) (v4:Int):Option (Int⊕((Int⊕Unit))):=
 cond (decide (v4<v3)) (cond (inB v4 v.length) (cond (v2 == (v.getD v4.toNat 0)) (some (.inr (.inl v4))) (some (.inl (w64 (v4+1))))) none) (some (.inr (.inr ())))
def Xgj (v:List Int) (v2:Int) (v3:Int):Int→Option ((Int⊕Unit)):=
 Y9 fun s=>Xgj.B v v2 v3 s
def Xkj (v:List Int) (v2:Int):Option Int:=
 (Xgj v v2 (v.length:Int) 0).bind fun v5=>sel v5 (fun v6=>some v6) (fun v7=>some (-1))
namespace Xgj
def c:=Yap (Yaf Proofs.Tryz.f212) [1,0,1,0,0]
def sp:SP:=⟨[(0,.cs SI),(1,.cs I64),(7,.cs I64),(8,.cs I64)],[]⟩
def fr:=Yja sp (fun x s=>Xgj.B x.1.1 x.1.2.1 x.1.2.2.1 s) (fun x=>x.1.2.2.2.1) fun x (oo0:(Int⊕Unit)) _ kk0=>sel oo0 (fun bb0=>kk0 (.rt) ⟨[(4,.cs I64 bb0)],[]⟩) (fun cc0=>kk0 (.ex 0) ⟨[],[]⟩)
theorem ok:Ya7 PR 19 2 (.loop c) fr:=
 Yt2 Xe Xf h0 .no (G:=(mkG [])) .nil (L:=mkL []) (l:=[]) hT [(0,([],[]))] ([4],[]) (fun x s=>((x.1.1,x.1.2.1,x.1.2.2.1,s,x.1.2.2.2.2),x.2))
  (fun x s=>by simp only[B,mC,mB,mS,mO,mN];kernel_rfl)
end Xgj
namespace Xkj
def pts:List PT:=[.cs SI,.cs I64]
def FS:FS:=Ybk [.sh,.sh] pts (fun x=>Xkj x.1 x.2.1) fun t=>⟨[.cs I64 t],[]⟩
theorem ok:Yb2 PR 212 FS:=
 Yxn Xe Xf Proofs.Tryz.f212 h0 (.R (.L (.R (.one (.fr 0))))) (G:=(mkG [])) .nil (L:=mkL [(0,Xgj.fr)]) (l:=[(0,.loop Xgj.c)]) ⟨Lam.cons Xgj.ok,trivial⟩
  (fun x=>by simp only[Xkj,mC,mB,mS,mO,mN];kernel_rfl)
end Xkj
def Xcd (v:List Int) (v2:Int):Option Bool:=
 (Xkj v v2).bind fun v3=>some (decide (v3≥0))
namespace Xcd
def G:Gam:=mkG [(212,Xkj.FS)]
def pts:List PT:=[.cs SI,.cs I64]
def FS:FS:=Ybk [.sh,.sh] pts (fun x=>Xcd x.1 x.2.1) fun t=>⟨[.cs .bool t],[]⟩
theorem ok:Yb2 PR 148 FS:=
 Yxn Xe Xf Proofs.Tryz.f148 h0 .no (G:=G) (show GOk PR G from .cons Xkj.ok .nil) (L:=mkL []) (l:=[]) hT
  (fun x=>by simp only[Xcd,mC,mB,mS,mO,mN];kernel_rfl)
end Xcd
def Xdy.B (v:Xa) (v7:List Int) (v8:Int) (v9:Int):Option (Int⊕((Int⊕Unit))):=
 cond (decide (v9<v8)) (cond (inB v9 v7.length) (cond (decide ((0:Int)≤v9)&&decide (v9≤(v.2.2.2.1.length:Int))) ((Xcd ((v.2.2.2.1.take v9.toNat).drop 0) (v7.getD v9.toNat 0)).bind fun v10=>cond v10 (some (.inr (.inl 7))) (some (.inl (w64 (v9+1))))) none) none) (some (.inr (.inr ())))
def Xdy (v:Xa) (v7:List Int) (v8:Int):Int→Option ((Int⊕Unit)):=
 Y9 fun s=>Xdy.B v v7 v8 s
def Xdn (v:Xa):Option Int:=
 (X7 v.2.1 1 60).bind fun v2=>cond (!v2) (some 3) ((X7 v.2.2.1 0 32).bind fun v3=>cond (!v3) (some 3) ((Xbs v.2.2.2.1).bind fun v4=>(Xkl v.2.2.1).bind fun v5=>cond (v4 != v5) (some 1) ((Xi6 v.2.2.2.1 ()).bind fun v6=>cond v6 (some 3) ((Xdy v v.2.2.2.1 (v.2.2.2.1.length:Int) 0).bind fun v11=>sel v11 (fun v12=>some v12) (fun v13=>some 0)))))
namespace Xdn
def G:Gam:=mkG [(150,X7.FS),(138,Xbs.FS),(257,Xkl.FS),(201,Xi6.FS),(148,Xcd.FS)]
theorem Gok:GOk PR G:=.cons X7.ok (.cons Xbs.ok (.cons Xkl.ok (.cons Xi6.ok (.cons Xcd.ok .nil))))
end Xdn
namespace Xdy
def c:=Yap (Yaf Proofs.Tryz.f241) [1,1,0,1,0,0]
def sp:SP:=⟨[(1,.pt Xb),(29,.cs SI),(30,.cs I64),(31,.cs I64)],[]⟩
def fr:=Yja sp (fun x s=>Xdy.B x.1.1 x.1.2.1 x.1.2.2.1 s) (fun x=>x.1.2.2.2.1) fun x (oo0:(Int⊕Unit)) _ kk0=>sel oo0 (fun bb0=>kk0 (.rt) ⟨[(2,.cs I64 bb0)],[]⟩) (fun cc0=>kk0 (.ex 1) ⟨[],[]⟩)
theorem ok:Ya7 PR 43 1 (.loop c) fr:=
 Yt2 Xe Xf ⟨[1],[],[],0⟩ .no (G:=Xdn.G) Xdn.Gok (L:=mkL []) (l:=[]) hT [(1,([],[]))] ([2],[]) (fun x s=>((x.1.1,x.1.2.1,x.1.2.2.1,s,x.1.2.2.2.2),x.2))
  (fun x s=>by simp only[B,mC,mB,mS,mO,mN];kernel_rfl)
end Xdy
namespace Xdn
def pts:List PT:=[.cs Xb]
def FS:FS:=Ybk [.sh] pts (fun x=>Xdn x.1) fun t=>⟨[.cs I64 t],[]⟩
theorem ok:Yb2 PR 241 FS:=
 Yxn Xe Xf Proofs.Tryz.f241 ⟨[1],[],[],0⟩ (.R (.R (.L (.R (.one (.fr 0)))))) (G:=G) Gok (L:=mkL [(0,Xdy.fr)]) (l:=[(0,.loop Xdy.c)]) ⟨Lam.cons Xdy.ok,trivial⟩
  (fun x=>by simp only[Xdn,mC,mB,mS,mO,mN];kernel_rfl)
end Xdn
def Xfz.B (v:List UInt8) (v2:Int) (v3:Int):Option (Int⊕((Int⊕Unit))):=
 cond (decide (v3<v2)) (cond (inB v3 v.length) (cond (cond (!(decide (((v.getD v3.toNat 0).toNat:Int)<97))) (inB v3 v.length) true) ((some (cond (decide (((v.getD v3.toNat 0).toNat:Int)<97)) true (decide (((v.getD v3.toNat 0).toNat:Int)>122)))).bind fun v4=>cond v4 (some (.inr (.inl 5))) (some (.inl (w64 (v3+1))))) none) none) (some (.inr (.inr ())))
def Xfz (v:List UInt8) (v2:Int):Int→Option ((Int⊕Unit)):=
 Y9 fun s=>Xfz.B v v2 s
def Xih (v:List UInt8):Option Int:=
 cond (v == ([]:List UInt8)) (some 5) ((Xfz v (v.length:Int) 0).bind fun v5=>sel v5 (fun v6=>some v6) (fun v7=>cond (decide ((v.length:Int)>4)) (some 2) (some 0)))
namespace Xfz
def c:=Yap (Yaf Proofs.Tryz.f259) [1,1,0,1,0,0]
def sp:SP:=⟨[(0,.cs .str),(7,.cs I64),(8,.cs I64)],[]⟩
def fr:=Yja sp (fun x s=>Xfz.B x.1.1 x.1.2.1 s) (fun x=>x.1.2.2.1) fun x (oo0:(Int⊕Unit)) _ kk0=>sel oo0 (fun bb0=>kk0 (.rt) ⟨[(2,.cs I64 bb0)],[]⟩) (fun cc0=>kk0 (.ex 0) ⟨[(0,.cs .str x.1.1)],[]⟩)
theorem ok:Ya7 PR 25 1 (.loop c) fr:=
 Yt2 Xe Xf h0 .no (G:=(mkG [])) .nil (L:=mkL []) (l:=[]) hT [(0,([0],[]))] ([2],[]) (fun x s=>((x.1.1,x.1.2.1,s,x.1.2.2.2),x.2))
  (fun x s=>by simp only[B,mC,mB,mS,mO,mN];kernel_rfl)
end Xfz
namespace Xih
def pts:List PT:=[.cs .str]
def FS:FS:=Ybk [.sh] pts (fun x=>Xih x.1) fun t=>⟨[.cs I64 t],[]⟩
theorem ok:Yb2 PR 259 FS:=
 Yxn Xe Xf Proofs.Tryz.f259 h0 (.R (.R (.L (.R (.one (.fr 0)))))) (G:=(mkG [])) .nil (L:=mkL [(0,Xfz.fr)]) (l:=[(0,.loop Xfz.c)]) ⟨Lam.cons Xfz.ok,trivial⟩
  (fun x=>by simp only[Xih,mC,mB,mS,mO,mN];kernel_rfl)
end Xih
def Xd8.B (v:Xa) (v2:List Xg) (v3:Int) (v4:Int):Option (Int⊕((Int⊕Unit))):=
 cond (decide (v4<v3)) (cond (inB v4 v2.length) ((Xih (v2.getD v4.toNat Xm).1).bind fun v5=>cond (v5 != 0) (some (.inr (.inl v5))) ((X7 (v2.getD v4.toNat Xm).2.1 0 9).bind fun v6=>cond (!v6) (some (.inr (.inl 3))) (cond (cond (decide (v4>0)) (inB (w64 (v4-1)) v.2.2.2.2.1.length) true) ((some (cond (decide (v4>0)) (!leB (v.2.2.2.2.1.getD (w64 (v4-1)).toNat Xm).1 (v2.getD v4.toNat Xm).1) false)).bind fun v7=>cond v7 (some (.inr (.inl 1))) (some (.inl (w64 (v4+1))))) none))) none) (some (.inr (.inr ())))
def Xd8 (v:Xa) (v2:List Xg) (v3:Int):Int→Option ((Int⊕Unit)):=
 Y9 fun s=>Xd8.B v v2 v3 s
def Xel (v:Xa):Option Int:=
 cond (decide ((v.2.2.2.2.1.length:Int)>6)) (some 2) ((Xd8 v v.2.2.2.2.1 (v.2.2.2.2.1.length:Int) 0).bind fun v8=>sel v8 (fun v9=>some v9) (fun v10=>some 0))
namespace Xel
def G:Gam:=mkG [(259,Xih.FS),(150,X7.FS)]
theorem Gok:GOk PR G:=.cons Xih.ok (.cons X7.ok .nil)
end Xel
namespace Xd8
def c:=Yap (Yaf Proofs.Tryz.f242) [1,1,0,1,0,0]
def sp:SP:=⟨[(1,.pt Xb),(11,.cs (.sl Xi)),(12,.cs I64),(13,.cs I64)],[]⟩
def fr:=Yja sp (fun x s=>Xd8.B x.1.1 x.1.2.1 x.1.2.2.1 s) (fun x=>x.1.2.2.2.1) fun x (oo0:(Int⊕Unit)) _ kk0=>sel oo0 (fun bb0=>kk0 (.rt) ⟨[(2,.cs I64 bb0)],[]⟩) (fun cc0=>kk0 (.ex 0) ⟨[],[]⟩)
theorem ok:Ya7 PR 43 1 (.loop c) fr:=
 Yt2 Xe Xf ⟨[1],[],[],0⟩ .no (G:=Xel.G) Xel.Gok (L:=mkL []) (l:=[]) hT [(0,([],[]))] ([2],[]) (fun x s=>((x.1.1,x.1.2.1,x.1.2.2.1,s,x.1.2.2.2.2),x.2))
  (fun x s=>by simp only[B,mC,mB,mS,mO,mN];kernel_rfl)
end Xd8
namespace Xel
def pts:List PT:=[.cs Xb]
def FS:FS:=Ybk [.sh] pts (fun x=>Xel x.1) fun t=>⟨[.cs I64 t],[]⟩
theorem ok:Yb2 PR 242 FS:=
 Yxn Xe Xf Proofs.Tryz.f242 ⟨[1],[],[],0⟩ (.R (.R (.L (.R (.one (.fr 0)))))) (G:=G) Gok (L:=mkL [(0,Xd8.fr)]) (l:=[(0,.loop Xd8.c)]) ⟨Lam.cons Xd8.ok,trivial⟩
  (fun x=>by simp only[Xel,mC,mB,mS,mO,mN];kernel_rfl)
end Xel
def Xem (v:Xa):Option Int:=
 (some (cond (cond (v.2.1 == 0) (v.2.2.1 == 0) false) ((v.2.2.2.1.length:Int) == 0) false)).bind fun v2=>(X7 v.1 0 2).bind fun v3=>cond (!v3) (some 1) (cond (cond (v.1 != 1) (!v2) false) (some 1) ((some (cond (v.1 != 2) (!((v.2.2.2.2.1.length:Int) == 0)) false)).bind fun v4=>cond v4 (some 1) (cond (v.1 == 1) ((Xdn v).bind fun v5=>some v5) ((Xel v).bind fun v6=>some v6))))
namespace Xem
def G:Gam:=mkG [(150,X7.FS),(241,Xdn.FS),(242,Xel.FS)]
def pts:List PT:=[.cs Xb]
def FS:FS:=Ybk [.sh] pts (fun x=>Xem x.1) fun t=>⟨[.cs I64 t],[]⟩
theorem ok:Yb2 PR 232 FS:=
 Yxn Xe Xf Proofs.Tryz.f232 ⟨[1],[],[],0⟩ .no (G:=G) (show GOk PR G from .cons X7.ok (.cons Xdn.ok (.cons Xel.ok .nil))) (L:=mkL []) (l:=[]) hT
  (fun x=>by simp only[Xem,mC,mB,mS,mO,mN];kernel_rfl)
end Xem
def Xgf.B (v:List Xa) (v2:Int) (v3:Int):Option (Int⊕((Int⊕Unit))):=
 cond (decide (v3<v2)) (cond (inB v3 v.length) ((Xem (v.getD v3.toNat Xc)).bind fun v4=>cond (v4 != 0) (some (.inr (.inl v4))) (some (.inl (w64 (v3+1))))) none) (some (.inr (.inr ())))
def Xgf (v:List Xa) (v2:Int):Int→Option ((Int⊕Unit)):=
 Y9 fun s=>Xgf.B v v2 s
def Xeq (v:List Xa):Option Int:=
 cond (decide ((v.length:Int)>10)) (some 2) ((Xgf v (v.length:Int) 0).bind fun v5=>sel v5 (fun v6=>some v6) (fun v7=>some 0))
namespace Xeq
def G:Gam:=mkG [(232,Xem.FS)]
theorem Gok:GOk PR G:=.cons Xem.ok .nil
end Xeq
namespace Xgf
def c:=Yap (Yaf Proofs.Tryz.f224) [1,1,0,1,0,0]
def sp:SP:=⟨[(9,.cs (.sl Xb)),(10,.cs I64),(11,.cs I64)],[]⟩
def fr:=Yja sp (fun x s=>Xgf.B x.1.1 x.1.2.1 s) (fun x=>x.1.2.2.1) fun x (oo0:(Int⊕Unit)) _ kk0=>sel oo0 (fun bb0=>kk0 (.rt) ⟨[(2,.cs I64 bb0)],[]⟩) (fun cc0=>kk0 (.ex 0) ⟨[],[]⟩)
theorem ok:Ya7 PR 21 1 (.loop c) fr:=
 Yt2 Xe Xf h0 .no (G:=Xeq.G) Xeq.Gok (L:=mkL []) (l:=[]) hT [(0,([],[]))] ([2],[]) (fun x s=>((x.1.1,x.1.2.1,s,x.1.2.2.2),x.2))
  (fun x s=>by simp only[B,mC,mB,mS,mO,mN];kernel_rfl)
end Xgf
namespace Xeq
def pts:List PT:=[.cs (.sl Xb)]
def FS:FS:=Ybk [.sh] pts (fun x=>Xeq x.1) fun t=>⟨[.cs I64 t],[]⟩
theorem ok:Yb2 PR 224 FS:=
 Yxn Xe Xf Proofs.Tryz.f224 h0 (.R (.R (.L (.R (.one (.fr 0)))))) (G:=G) Gok (L:=mkL [(0,Xgf.fr)]) (l:=[(0,.loop Xgf.c)]) ⟨Lam.cons Xgf.ok,trivial⟩
  (fun x=>by simp only[Xeq,mC,mB,mS,mO,mN];kernel_rfl)
end Xeq
def Xiq (v:Fs_):Option Int:=
 (Xeq v.1).bind fun v2=>cond (v2 != 0) (some v2) (cond (cond (!((v.1.length:Int) == 0)) (inB 0 v.1.length) true) ((some (cond ((v.1.length:Int) == 0) true ((v.1.getD (0:Int).toNat Xc).1 != 2))).bind fun v3=>cond (cond v3 true ((v.2.1.length:Int) != 20)) (some 1) (some 0)) none)
namespace Xiq
def G:Gam:=mkG [(224,Xeq.FS)]
def pts:List PT:=[.cs Xo]
def FS:FS:=Ybk [.sh] pts (fun x=>Xiq x.1) fun t=>⟨[.cs I64 t],[]⟩
theorem ok:Yb2 PR 181 FS:=
 Yxn Xe Xf Proofs.Tryz.f181 ⟨[1],[],[],0⟩ .no (G:=G) (show GOk PR G from .cons Xeq.ok .nil) (L:=mkL []) (l:=[]) hT
  (fun x=>by simp only[Xiq,mC,mB,mS,mO,mN];kernel_rfl)
end Xiq
def Xkp (v:List Int):Option Bool:=
 some (decide ((v.length:Int)>8))
namespace Xkp
def pts:List PT:=[.cs SB]
def FS:FS:=Ybk [.sh] pts (fun x=>Xkp x.1) fun t=>⟨[.cs .bool t],[]⟩
theorem ok:Yb2 PR 183 FS:=
 Yxn Xe Xf Proofs.Tryz.f183 h0 .no (G:=(mkG [])) .nil (L:=mkL []) (l:=[]) hT
  (fun x=>by simp only[Xkp,mC,mB,mS,mO,mN];kernel_rfl)
end Xkp
def Xgl.B (v:List (List Int)) (v2:Unit) (v3:Int) (v4:Int):Option (Int⊕((Int⊕Unit))):=
 cond (decide (v4<v3)) (cond (inB v4 v.length) ((Xkp (v.getD v4.toNat [])).bind fun v5=>cond v5 (some (.inr (.inl v4))) (some (.inl (w64 (v4+1))))) none) (some (.inr (.inr ())))
def Xgl (v:List (List Int)) (v2:Unit) (v3:Int):Int→Option ((Int⊕Unit)):=
 Y9 fun s=>Xgl.B v v2 v3 s
def Xf4 (v:List (List Int)) (v2:Unit):Option Int:=
 (Xgl v v2 (v.length:Int) 0).bind fun v6=>sel v6 (fun v7=>some v7) (fun v8=>some (-1))
namespace Xf4
def G:Gam:=mkG [(183,Xkp.FS)]
theorem Gok:GOk PR G:=.cons Xkp.ok .nil
end Xf4
namespace Xgl
def c:=Yap (Yaf Proofs.Tryz.f225) [1,0,1,0,0]
def sp:SP:=⟨[(0,.cs (.sl SB)),(1,.clo 183 (.cs .unit)),(7,.cs I64),(8,.cs I64)],[]⟩
def fr:=Yja sp (fun x s=>Xgl.B x.1.1 x.1.2.1 x.1.2.2.1 s) (fun x=>x.1.2.2.2.1) fun x (oo0:(Int⊕Unit)) _ kk0=>sel oo0 (fun bb0=>kk0 (.rt) ⟨[(4,.cs I64 bb0)],[]⟩) (fun cc0=>kk0 (.ex 0) ⟨[],[]⟩)
theorem ok:Ya7 PR 19 2 (.loop c) fr:=
 Yt2 Xe Xf h0 .no (G:=Xf4.G) Xf4.Gok (L:=mkL []) (l:=[]) hT [(0,([],[]))] ([4],[]) (fun x s=>((x.1.1,x.1.2.1,x.1.2.2.1,s,x.1.2.2.2.2),x.2))
  (fun x s=>by simp only[B,mC,mB,mS,mO,mN];kernel_rfl)
end Xgl
namespace Xf4
def pts:List PT:=[.cs (.sl SB),.clo 183 (.cs .unit)]
def FS:FS:=Ybk [.sh,.sh] pts (fun x=>Xf4 x.1 x.2.1) fun t=>⟨[.cs I64 t],[]⟩
theorem ok:Yb2 PR 225 FS:=
 Yxn Xe Xf Proofs.Tryz.f225 h0 (.R (.L (.R (.one (.fr 0))))) (G:=G) Gok (L:=mkL [(0,Xgl.fr)]) (l:=[(0,.loop Xgl.c)]) ⟨Lam.cons Xgl.ok,trivial⟩
  (fun x=>by simp only[Xf4,mC,mB,mS,mO,mN];kernel_rfl)
end Xf4
def Xir (v:List (List Int)) (v2:Unit):Option Bool:=
 (Xf4 v v2).bind fun v3=>some (decide (v3≥0))
namespace Xir
def G:Gam:=mkG [(225,Xf4.FS)]
def pts:List PT:=[.cs (.sl SB),.clo 183 (.cs .unit)]
def FS:FS:=Ybk [.sh,.sh] pts (fun x=>Xir x.1 x.2.1) fun t=>⟨[.cs .bool t],[]⟩
theorem ok:Yb2 PR 182 FS:=
 Yxn Xe Xf Proofs.Tryz.f182 h0 .no (G:=G) (show GOk PR G from .cons Xf4.ok .nil) (L:=mkL []) (l:=[]) hT
  (fun x=>by simp only[Xir,mC,mB,mS,mO,mN];kernel_rfl)
end Xir
noncomputable def Xkt (s:List Int):Option (List Int):=Yub s
def Xkt.FS:FS:=Ybk [.mu] [.cl .deep (.sl (.int .i64))] (fun x=>Xkt x.1) fun y=>⟨[],[.cl .deep (.sl (.int .i64)) y]⟩
theorem Xkt.ok:Yb2 Go.Proofs.Tryz.prog 210 Xkt.FS:=
 Ywt ⟨Go.Proofs.Tryz.f210,by kernel_rfl,by kernel_rfl,by kernel_rfl⟩ (fun blk off cap zs w h1 h2 h3=>Go.Proofs.AnyM.slices_Sort_int Go.Proofs.Tryz.Xoa blk off cap zs w h1 h2 h3) (fun p cap w=>Go.Proofs.AnyM.slices_Sort_int_none Go.Proofs.Tryz.Xoa p cap w)
noncomputable def Xal (s:List Int):Option (List Int):=Ymd s
noncomputable def Xal.FS:FS:=Ybk [.sh] [.cl .sh (.sl (.int .i64))] (fun x=>Xal x.1) fun y=>⟨[.cl .deep (.sl (.int .i64)) y],[]⟩
theorem Xal.ok:Yb2 Go.Proofs.Tryz.prog 118 Xal.FS:=
 Ywd (hn:=⟨[],[],[],0⟩) Xe Xf (fn:=Go.Proofs.Tryz.f118) (by kernel_rfl) (Ygs (by kernel_rfl)) (by kernel_rfl) (by kernel_rfl) .deep (.int .i64) 51 51 2 (by kernel_rfl) (by kernel_rfl) (by kernel_rfl) (by kernel_rfl) (by kernel_rfl) (by kernel_rfl) (by kernel_rfl) (by kernel_rfl) (fun xs=>by kernel_rfl) (fun xs=>by kernel_rfl) (fun xs=>by kernel_rfl) (fun xs=>by kernel_rfl)
def Xby.B (v5:Nat) (v6:Nat) (v4:Int) (v7:Int) (v8:List Int):Option ((Int×Int×List Int)⊕(Int×List Int)):=
 cond (decide (v7<(v6:Int))) (cond (inB v7 v6) (cond (inB (w64 (v7-1)) v6) ((some ((v8.getD (v5+v7.toNat) 0) != (v8.getD (v5+(w64 (v7-1)).toNat) 0))).bind fun v9=>cond v9 (cond (inB v7 v6) (cond (inB v4 v8.length) (some (.inl (w64 (v4+1),w64 (v7+1),v8.set v4.toNat (v8.getD (v5+v7.toNat) 0)))) none) none) (some (.inl (v4,w64 (v7+1),v8)))) none) none) (some (.inr (v4,v8)))
def Xby (v5:Nat) (v6:Nat):(Int×Int×List Int)→Option (Int×List Int):=
 Y9 fun s=>Xby.B v5 v6 s.1 s.2.1 s.2.2
def Xba.B (v:List Int) (v2:Int):Option (Int⊕(((Nat×Nat×List Int)⊕Unit))):=
 cond (decide (v2<(v.length:Int))) (cond (inB v2 v.length) (cond (inB (w64 (v2-1)) v.length) ((some ((v.getD v2.toNat 0) == (v.getD ((w64 (v2-1)).toNat) 0))).bind fun v3=>cond v3 (cond (decide ((0:Int)≤v2)&&decide (v2≤(v.length:Int))) ((Xby v2.toNat (v.length-v2.toNat) (v2,1,v)).bind fun v10=>cond (decide ((0:Int)≤v10.1)&&decide (v10.1≤(v10.2.length:Int))) ((some (splice v10.2 v10.1.toNat (List.replicate (v10.2.length-v10.1.toNat) 0))).bind fun v11=>cond (decide ((0:Int)≤v10.1)&&decide (v10.1≤(v11.length:Int))) (some (.inr (.inl (0,v10.1.toNat-0,v11)))) none) none) none) (some (.inl (w64 (v2+1))))) none) none) (some (.inr (.inr ())))
def Xba (v:List Int):Int→Option (((Nat×Nat×List Int)⊕Unit)):=
 Y9 fun s=>Xba.B v s
def Xim (v:List Int):Option (List Int):=
 cond (decide ((v.length:Int)<2)) (some v) ((Xba v 1).bind fun v12=>sel v12 (fun v13=>some ((v13.2.2.drop v13.1).take v13.2.1)) (fun v14=>some v))
namespace Xby
def c:=Yap (Yaf Proofs.Tryz.f211) [1,1,0,1,0,0,1,0,0,1,0,1,0,1,0,0]
def sp:SP:=⟨[(0,.seg 0 []),(3,.cs I64),(4,.sub 0 []),(5,.cs I64)],[(0,.reg,.cd SI)]⟩
def fr:=Yja sp (fun x s=>Xby.B x.1.2.2.1.2.1 x.1.2.2.1.2.2 s.1 s.2.1 s.2.2) (fun x=>(x.1.2.1,x.1.2.2.2.1,x.2.1)) fun x (bb0:Int×List Int) _ kk0=>kk0 (.ex 2) ⟨[(0,.seg 0 []),(3,.cs I64 bb0.1)],[sr 0 (.cd SI bb0.2)]⟩
theorem ok:Ya7 PR 61 1 (.loop c) fr:=
 Yxd Xe Xf h0 [(2,([0,3],[0]))] (fun x s=>((x.1.1,s.1,x.1.2.2.1,s.2.1,x.1.2.2.2.2),(s.2.2,x.2.2)))
  (fun x s=>by simp only[B,mC,mB,mS,mO,mN];kernel_rfl)
end Xby
namespace Xba
def c:=Yap (Yaf Proofs.Tryz.f211) [1,1,0,1,0,0]
def sp:SP:=⟨[(0,.seg 0 []),(3,.cs I64)],[(0,.reg,.cd SI)]⟩
def fr:=Yja sp (fun x s=>Xba.B x.2.1 s) (fun x=>x.1.2.1) fun x (oo0:((Nat×Nat×List Int)⊕Unit)) _ kk0=>sel oo0 (fun bb0=>kk0 (.rt) ⟨[(2,.sub 0 [] bb0.1 bb0.2.1)],[sr 0 (.cd SI bb0.2.2)]⟩) (fun cc0=>kk0 (.ex 0) ⟨[(0,.seg 0 [])],[sr 0 (.cd SI x.2.1)]⟩)
theorem ok:Ya7 PR 61 1 (.loop c) fr:=
 Yt2 Xe Xf h0 (.R (.L (.one (.R (.L (.R (.L (.R (.one (.fr 1)))))))))) (G:=(mkG [])) .nil (L:=mkL [(1,Xby.fr)]) (l:=[(1,.loop Xby.c)]) ⟨Lam.cons Xby.ok,trivial⟩ [(0,([0],[0]))] ([2],[0]) (fun x s=>((x.1.1,s,x.1.2.2),x.2))
  (fun x s=>by simp only[B,mC,mB,mS,mO,mN];kernel_rfl)
end Xba
namespace Xim
def pts:List PT:=[.cd SI]
def FS:FS:=Ybk [.mv] pts (fun x=>Xim x.1) fun t=>⟨[.cd SI t],[]⟩
theorem ok:Yb2 PR 211 FS:=
 Yxn Xe Xf Proofs.Tryz.f211 h0 (.R (.R (.L (.R (.one (.fr 0)))))) (G:=(mkG [])) .nil (L:=mkL [(1,Xby.fr),(0,Xba.fr)]) (l:=[(0,.loop Xba.c)]) ⟨Lam.skip rfl (Lam.cons Xba.ok),trivial⟩
  (fun x=>by simp only[Xim,mC,mB,mS,mO,mN];kernel_rfl)
end Xim
def Xe0.B (v:List Xa) (v2:Int) (v3:Int) (v4:List Int):Option ((Int×List Int)⊕(List Int)):=
 cond (decide (v3<v2)) (cond (inB v3 v.length) (cond (decide ((v4++(v.getD v3.toNat Xc).2.2.2.1).length≤2147483648)) (some (.inl (w64 (v3+1),v4++(v.getD v3.toNat Xc).2.2.2.1))) none) none) (some (.inr v4))
def Xe0 (v:List Xa) (v2:Int):(Int×List Int)→Option (List Int):=
 Y9 fun s=>Xe0.B v v2 s.1 s.2
def Xaj (v:List Xa):Option ((List Int)×Bool):=
 (Xe0 v (v.length:Int) (0,[])).bind fun v5=>(Xkt v5).bind fun v6=>(Xal v6).bind fun v7=>(Xim v7).bind fun v8=>some (v6,(v8.length:Int) == (v6.length:Int))
namespace Xaj
def G:Gam:=mkG [(210,Xkt.FS),(118,Xal.FS),(211,Xim.FS)]
theorem Gok:GOk PR G:=.cons Xkt.ok (.cons Xal.ok (.cons Xim.ok .nil))
end Xaj
namespace Xe0
def c:=Yap (Yaf Proofs.Tryz.f147) [1,1,0,1,0,0]
def sp:SP:=⟨[(4,.seg 4 []),(7,.cs (.sl Xb)),(8,.cs I64),(9,.cs I64)],[(4,.reg,.cd SI)]⟩
def fr:=Yja sp (fun x s=>Xe0.B x.1.2.1 x.1.2.2.1 s.1 s.2) (fun x=>(x.1.2.2.2.1,x.2.1)) fun x (bb0:List Int) _ kk0=>kk0 (.ex 0) ⟨[(4,.seg 4 [])],[sr 4 (.cd SI bb0)]⟩
theorem ok:Ya7 PR 28 1 (.loop c) fr:=
 Yxo Xe Xf h0 (G:=Xaj.G) Xaj.Gok [(0,([4],[4]))] (fun x s=>((x.1.1,x.1.2.1,x.1.2.2.1,s.1,x.1.2.2.2.2),(s.2,x.2.2)))
  (fun x s=>by simp only[B,mC,mB,mS,mO,mN];kernel_rfl)
end Xe0
namespace Xaj
def pts:List PT:=[.cs (.sl Xb)]
def FS:FS:=Ybk [.sh] pts (fun x=>Xaj x.1) fun t=>⟨[.cd SI t.1,.cs .bool t.2],[]⟩
theorem ok:Yb2 PR 147 FS:=
 Yxn Xe Xf Proofs.Tryz.f147 h0 (.R (.R (.L (.R (.one (.fr 0)))))) (G:=G) Gok (L:=mkL [(0,Xe0.fr)]) (l:=[(0,.loop Xe0.c)]) ⟨Lam.cons Xe0.ok,trivial⟩
  (fun x=>by simp only[Xaj,mC,mB,mS,mO,mN];kernel_rfl)
end Xaj
def Xf7 (v:List Xa):Option Int:=
 some (v.length:Int)
namespace Xf7
def pts:List PT:=[.cs (.sl Xb)]
def FS:FS:=Ybk [.sh] pts (fun x=>Xf7 x.1) fun t=>⟨[.cs I64 t],[]⟩
theorem ok:Yb2 PR 184 FS:=
 Yxn Xe Xf Proofs.Tryz.f184 h0 .no (G:=(mkG [])) .nil (L:=mkL []) (l:=[]) hT
  (fun x=>by simp only[Xf7,mC,mB,mS,mO,mN];kernel_rfl)
end Xf7
def Xcw.B (v:Fs_) (v5:List Xa) (v6:Int) (v7:Int) (v9:List Xg) (v8:Int) (v10:Int):Option (Int⊕((Int⊕Unit))):=
 cond (decide (v10<v8)) (cond (inB v10 v9.length) ((Xf7 v.1).bind fun v11=>(some (decide ((v9.getD v10.toNat Xm).2.1≥v11))).bind fun v12=>cond (cond (!v12) (inB (v9.getD v10.toNat Xm).2.1 v.1.length) true) ((some (cond v12 true ((v.1.getD (v9.getD v10.toNat Xm).2.1.toNat Xc).1 == 0))).bind fun v13=>cond v13 (some (.inr (.inl 4))) (some (.inl (w64 (v10+1))))) none) none) (some (.inr (.inr ())))
def Xcw (v:Fs_) (v5:List Xa) (v6:Int) (v7:Int) (v9:List Xg) (v8:Int):Int→Option ((Int⊕Unit)):=
 Y9 fun s=>Xcw.B v v5 v6 v7 v9 v8 s
def Xge.B (v:Fs_) (v5:List Xa) (v6:Int) (v7:Int):Option (Int⊕((Int⊕Unit))):=
 cond (decide (v7<v6)) (cond (inB v7 v5.length) ((some ((v5.getD v7.toNat Xc).2.2.2.2.1.length:Int)).bind fun v8=>(Xcw v v5 v6 v7 (v5.getD v7.toNat Xc).2.2.2.2.1 v8 0).bind fun v14=>sel v14 (fun v15=>some (.inr (.inl v15))) (fun v16=>some (.inl (w64 (v7+1))))) none) (some (.inr (.inr ())))
def Xge (v:Fs_) (v5:List Xa) (v6:Int):Int→Option ((Int⊕Unit)):=
 Y9 fun s=>Xge.B v v5 v6 s
def Xbd (v:Fs_):Option Int:=
 (Xiq v).bind fun v2=>cond (v2 != 0) (some v2) ((Xir v.2.1 ()).bind fun v3=>cond v3 (some 2) ((Xaj v.1).bind fun v4=>cond (!v4.2) (some 7) ((Xge v v.1 (v.1.length:Int) 0).bind fun v17=>sel v17 (fun v18=>some v18) (fun v19=>some 0))))
namespace Xbd
def G:Gam:=mkG [(181,Xiq.FS),(182,Xir.FS),(147,Xaj.FS),(184,Xf7.FS)]
theorem Gok:GOk PR G:=.cons Xiq.ok (.cons Xir.ok (.cons Xaj.ok (.cons Xf7.ok .nil)))
end Xbd
namespace Xcw
def c:=Yap (Yaf Proofs.Tryz.f112) [1,1,1,1,0,1,0,0,1,1,0,0,1,1,0,0]
def sp:SP:=⟨[(1,.pt Xo),(27,.cs (.sl Xb)),(28,.cs I64),(29,.cs I64),(34,.cs (.sl Xi)),(35,.cs I64),(36,.cs I64)],[]⟩
def fr:=Yja sp (fun x s=>Xcw.B x.1.1 x.1.2.1 x.1.2.2.1 x.1.2.2.2.1 x.1.2.2.2.2.1 x.1.2.2.2.2.2.1 s) (fun x=>x.1.2.2.2.2.2.2.1) fun x (oo0:(Int⊕Unit)) _ kk0=>sel oo0 (fun bb0=>kk0 (.rt) ⟨[(2,.cs I64 bb0)],[]⟩) (fun cc0=>kk0 (.ex 2) ⟨[(1,.pt Xo x.1.1),(27,.cs (.sl Xb) x.1.2.1),(28,.cs I64 x.1.2.2.1),(29,.cs I64 x.1.2.2.2.1)],[]⟩)
theorem ok:Ya7 PR 58 1 (.loop c) fr:=
 Yt2 Xe Xf ⟨[1],[],[],0⟩ .no (G:=Xbd.G) Xbd.Gok (L:=mkL []) (l:=[]) hT [(2,([1,27,28,29],[]))] ([2],[]) (fun x s=>((x.1.1,x.1.2.1,x.1.2.2.1,x.1.2.2.2.1,x.1.2.2.2.2.1,x.1.2.2.2.2.2.1,s,x.1.2.2.2.2.2.2.2),x.2))
  (fun x s=>by simp only[B,mC,mB,mS,mO,mN];kernel_rfl)
end Xcw
namespace Xge
def c:=Yap (Yaf Proofs.Tryz.f112) [1,1,1,1,0,1,0,0]
def sp:SP:=⟨[(1,.pt Xo),(27,.cs (.sl Xb)),(28,.cs I64),(29,.cs I64)],[]⟩
def fr:=Yja sp (fun x s=>Xge.B x.1.1 x.1.2.1 x.1.2.2.1 s) (fun x=>x.1.2.2.2.1) fun x (oo0:(Int⊕Unit)) _ kk0=>sel oo0 (fun bb0=>kk0 (.rt) ⟨[(2,.cs I64 bb0)],[]⟩) (fun cc0=>kk0 (.ex 0) ⟨[],[]⟩)
theorem ok:Ya7 PR 58 1 (.loop c) fr:=
 Yt2 Xe Xf ⟨[1],[],[],0⟩ (.R (.R (.L (.one (.R (.R (.one (.fr 1)))))))) (G:=Xbd.G) Xbd.Gok (L:=mkL [(1,Xcw.fr)]) (l:=[(1,.loop Xcw.c)]) ⟨Lam.cons Xcw.ok,trivial⟩ [(0,([],[]))] ([2],[]) (fun x s=>((x.1.1,x.1.2.1,x.1.2.2.1,s,x.1.2.2.2.2),x.2))
  (fun x s=>by simp only[B,mC,mB,mS,mO,mN];kernel_rfl)
end Xge
namespace Xbd
def pts:List PT:=[.cs Xo]
def FS:FS:=Ybk [.sh] pts (fun x=>Xbd x.1) fun t=>⟨[.cs I64 t],[]⟩
theorem ok:Yb2 PR 112 FS:=
 Yxn Xe Xf Proofs.Tryz.f112 ⟨[1],[],[],0⟩ (.R (.R (.R (.R (.L (.R (.one (.fr 0)))))))) (G:=G) Gok (L:=mkL [(1,Xcw.fr),(0,Xge.fr)]) (l:=[(0,.loop Xge.c)]) ⟨Lam.skip rfl (Lam.cons Xge.ok),trivial⟩
  (fun x=>by simp only[Xbd,mC,mB,mS,mO,mN];kernel_rfl)
end Xbd
def Xdb.B (v:List Xa) (v8:List Xg) (v9:Int) (v7:List Bool) (v10:Int) (v11:List Int):Option ((Int×List Int)⊕(List Int)):=
 cond (decide (v10<v9)) (cond (inB v10 v8.length) (cond (decide ((v11++([(v8.getD v10.toNat Xm).2.1])).length≤2147483648)) (some (.inl (w64 (v10+1),v11++([(v8.getD v10.toNat Xm).2.1])))) none) none) (some (.inr v11))
def Xdb (v:List Xa) (v8:List Xg) (v9:Int) (v7:List Bool):(Int×List Int)→Option (List Int):=
 Y9 fun s=>Xdb.B v v8 v9 v7 s.1 s.2
def Xbn.B (v:List Xa) (v3:List Bool) (v4:List Int):Option (((List Bool)×List Int)⊕(List Bool)):=
 cond (decide ((v4.length:Int)>0)) (cond (inB (w64 ((v4.length:Int)-1)) v4.length) (cond (decide ((0:Int)≤(w64 ((v4.length:Int)-1)))&&decide ((w64 ((v4.length:Int)-1))≤(v4.length:Int))) ((some ((v4.drop 0).take (((w64 ((v4.length:Int)-1)).toNat)-0))).bind fun v5=>cond (inB (v4.getD ((w64 ((v4.length:Int)-1)).toNat) 0) v3.length) ((some (v3.getD ((v4.getD ((w64 ((v4.length:Int)-1)).toNat) 0).toNat) false)).bind fun v6=>cond v6 (some (.inl (v3,v5))) (cond (inB (v4.getD ((w64 ((v4.length:Int)-1)).toNat) 0) v3.length) ((some (v3.set ((v4.getD ((w64 ((v4.length:Int)-1)).toNat) 0).toNat) true)).bind fun v7=>cond (inB (v4.getD ((w64 ((v4.length:Int)-1)).toNat) 0) v.length) ((some (v.getD (v4.getD ((w64 ((v4.length:Int)-1)).toNat) 0).toNat Xc).2.2.2.2.1).bind fun v8=>(Xdb v v8 (v8.length:Int) v7 (0,v5)).bind fun v12=>some (.inl (v7,v12))) none) none)) none) none) none) (some (.inr v3))
def Xbn (v:List Xa):((List Bool)×List Int)→Option (List Bool):=
 Y9 fun s=>Xbn.B v s.1 s.2
def Xdk.B (v14:Int) (v13:List Bool) (v15:Int) (v16:List Int):Option ((Int×List Int)⊕(List Int)):=
 cond (decide (v15<v14)) (cond (inB v15 v13.length) (cond (v13.getD v15.toNat false) (cond (decide ((v16++([v15])).length≤2147483648)) (some (.inl (w64 (v15+1),v16++([v15])))) none) (some (.inl (w64 (v15+1),v16)))) none) (some (.inr v16))
def Xdk (v14:Int) (v13:List Bool):(Int×List Int)→Option (List Int):=
 Y9 fun s=>Xdk.B v14 v13 s.1 s.2
def Xhq (v:List Xa) (v2:Int):Option (List Int):=
 cond (decide ((0:Int)≤(v.length:Int))&&(decide ((v.length:Int)≤(v.length:Int))&&decide ((v.length:Int)≤2147483648))) ((Xbn v (List.replicate (v.length:Int).toNat false,[v2])).bind fun v13=>(Xdk (v13.length:Int) v13 (0,[])).bind fun v17=>some v17) none
namespace Xdb
def c:=Yap (Yaf Proofs.Tryz.f185) [1,1,1,0,0,0,1,0,1,1,1,1,1,0,0]
def sp:SP:=⟨[(0,.cs (.sl Xb)),(5,.seg 5 []),(6,.seg 6 []),(43,.cs (.sl Xi)),(44,.cs I64),(45,.cs I64)],[(5,.reg,.cd (.sl .bool)),(6,.reg,.cd SI)]⟩
def fr:=Yja sp (fun x s=>Xdb.B x.1.1 x.1.2.2.2.1 x.1.2.2.2.2.1 x.2.1 s.1 s.2) (fun x=>(x.1.2.2.2.2.2.1,x.2.2.1)) fun x (bb0:List Int) _ kk0=>kk0 (.ex 2) ⟨[(0,.cs (.sl Xb) x.1.1),(5,.seg 5 []),(6,.seg 6 [])],[sr 5 (.cd (.sl .bool) x.2.1),sr 6 (.cd SI bb0)]⟩
theorem ok:Ya7 PR 69 2 (.loop c) fr:=
 Yxd Xe Xf h0 [(2,([0,5,6],[5,6]))] (fun x s=>((x.1.1,x.1.2.1,x.1.2.2.1,x.1.2.2.2.1,x.1.2.2.2.2.1,s.1,x.1.2.2.2.2.2.2),(x.2.1,s.2,x.2.2.2)))
  (fun x s=>by simp only[B,mC,mB,mS,mO,mN];kernel_rfl)
end Xdb
namespace Xbn
def c:=Yap (Yaf Proofs.Tryz.f185) [1,1,1,0,0,0]
def sp:SP:=⟨[(0,.cs (.sl Xb)),(5,.seg 5 []),(6,.seg 6 [])],[(5,.reg,.cd (.sl .bool)),(6,.reg,.cd SI)]⟩
def fr:=Yja sp (fun x s=>Xbn.B x.1.1 s.1 s.2) (fun x=>(x.2.1,x.2.2.1)) fun x (bb0:List Bool) _ kk0=>kk0 (.ex 0) ⟨[(5,.seg 5 [])],[sr 5 (.cd (.sl .bool) bb0)]⟩
theorem ok:Ya7 PR 69 2 (.loop c) fr:=
 Yxp Xe Xf h0 (.R (.one (.R (.R (.R (.R (.R (.one (.fr 1))))))))) (L:=mkL [(1,Xdb.fr)]) (l:=[(1,.loop Xdb.c)]) ⟨Lam.cons Xdb.ok,trivial⟩ [(0,([5],[5]))] (fun x s=>(x.1,(s.1,s.2,x.2.2.2)))
  (fun x s=>by simp only[B,mC,mB,mS,mO,mN];kernel_rfl)
end Xbn
namespace Xdk
def c:=Yap (Yaf Proofs.Tryz.f185) [1,1,1,1,1,0,1,0,0]
def sp:SP:=⟨[(10,.seg 10 []),(55,.seg 5 []),(56,.cs I64),(57,.cs I64)],[(5,.reg,.cd (.sl .bool)),(10,.reg,.cd SI)]⟩
def fr:=Yja sp (fun x s=>Xdk.B x.1.2.2.1 x.2.1 s.1 s.2) (fun x=>(x.1.2.2.2.1,x.2.2.1)) fun x (bb0:List Int) _ kk0=>kk0 (.ex 4) ⟨[(10,.seg 10 [])],[sr 10 (.cd SI bb0)]⟩
theorem ok:Ya7 PR 69 2 (.loop c) fr:=
 Yxd Xe Xf h0 [(4,([10],[10]))] (fun x s=>((x.1.1,x.1.2.1,x.1.2.2.1,s.1,x.1.2.2.2.2),(x.2.1,s.2,x.2.2.2)))
  (fun x s=>by simp only[B,mC,mB,mS,mO,mN];kernel_rfl)
end Xdk
namespace Xhq
def pts:List PT:=[.cs (.sl Xb),.cs I64]
def FS:FS:=Ybk [.sh,.sh] pts (fun x=>Xhq x.1 x.2.1) fun t=>⟨[.cd SI t],[]⟩
theorem ok:Yb2 PR 185 FS:=
 Yxn Xe Xf Proofs.Tryz.f185 h0 (.R (.R (.R (.two (.one (.fr 0)) (.R (.L (.R (.one (.fr 2))))))))) (G:=(mkG [])) .nil (L:=mkL [(1,Xdb.fr),(0,Xbn.fr),(2,Xdk.fr)]) (l:=[(0,.loop Xbn.c),(2,.loop Xdk.c)]) ⟨Lam.skip rfl (Lam.cons Xbn.ok),Lam.skip rfl (Lam.skip rfl (Lam.cons Xdk.ok)),trivial⟩
  (fun x=>by simp only[Xhq,mC,mB,mS,mO,mN];kernel_rfl)
end Xhq
def Xdd.B (v2:Int) (v:List Xa) (v4:Int) (v5:Int) (v8:List Xg) (v6:Int) (v7:Int) (v9:Int):Option ((Int×Int)⊕Int):=
 cond (decide (v9<v6)) (cond (inB v9 v8.length) (cond ((v8.getD v9.toNat Xm).2.1 == v2) (some (.inl (w64 (v7+1),w64 (v9+1)))) (some (.inl (v7,w64 (v9+1))))) none) (some (.inr v7))
def Xdd (v2:Int) (v:List Xa) (v4:Int) (v5:Int) (v8:List Xg) (v6:Int):(Int×Int)→Option Int:=
 Y9 fun s=>Xdd.B v2 v v4 v5 v8 v6 s.1 s.2
def Xev.B (v2:Int) (v:List Xa) (v4:Int) (v3:Int) (v5:Int):Option ((Int×Int)⊕Int):=
 cond (decide (v5<v4)) (cond (inB v5 v.length) ((some ((v.getD v5.toNat Xc).2.2.2.2.1.length:Int)).bind fun v6=>(Xdd v2 v v4 v5 (v.getD v5.toNat Xc).2.2.2.2.1 v6 (v3,0)).bind fun v10=>some (.inl (v10,w64 (v5+1)))) none) (some (.inr v3))
def Xev (v2:Int) (v:List Xa) (v4:Int):(Int×Int)→Option Int:=
 Y9 fun s=>Xev.B v2 v v4 s.1 s.2
def Xh2 (v:List Xa) (v2:Int):Option Int:=
 (Xev v2 v (v.length:Int) (0,0)).bind fun v11=>some v11
namespace Xdd
def c:=Yap (Yaf Proofs.Tryz.f186) [1,1,0,1,0,0,1,1,0,0,1,1,0,0]
def sp:SP:=⟨[(1,.cs I64),(5,.cs I64),(10,.cs (.sl Xb)),(11,.cs I64),(12,.cs I64),(17,.cs (.sl Xi)),(18,.cs I64),(19,.cs I64)],[]⟩
def fr:=Yja sp (fun x s=>Xdd.B x.1.1 x.1.2.2.1 x.1.2.2.2.1 x.1.2.2.2.2.1 x.1.2.2.2.2.2.1 x.1.2.2.2.2.2.2.1 s.1 s.2) (fun x=>(x.1.2.1,x.1.2.2.2.2.2.2.2.1)) fun x (bb0:Int) _ kk0=>kk0 (.ex 2) ⟨[(1,.cs I64 x.1.1),(5,.cs I64 bb0),(10,.cs (.sl Xb) x.1.2.2.1),(11,.cs I64 x.1.2.2.2.1),(12,.cs I64 x.1.2.2.2.2.1)],[]⟩
theorem ok:Ya7 PR 32 2 (.loop c) fr:=
 Yxd Xe Xf h0 [(2,([1,5,10,11,12],[]))] (fun x s=>((x.1.1,s.1,x.1.2.2.1,x.1.2.2.2.1,x.1.2.2.2.2.1,x.1.2.2.2.2.2.1,x.1.2.2.2.2.2.2.1,s.2,x.1.2.2.2.2.2.2.2.2),x.2))
  (fun x s=>by simp only[B,mC,mB,mS,mO,mN];kernel_rfl)
end Xdd
namespace Xev
def c:=Yap (Yaf Proofs.Tryz.f186) [1,1,0,1,0,0]
def sp:SP:=⟨[(1,.cs I64),(5,.cs I64),(10,.cs (.sl Xb)),(11,.cs I64),(12,.cs I64)],[]⟩
def fr:=Yja sp (fun x s=>Xev.B x.1.1 x.1.2.2.1 x.1.2.2.2.1 s.1 s.2) (fun x=>(x.1.2.1,x.1.2.2.2.2.1)) fun x (bb0:Int) _ kk0=>kk0 (.ex 0) ⟨[(5,.cs I64 bb0)],[]⟩
theorem ok:Ya7 PR 32 2 (.loop c) fr:=
 Yxp Xe Xf h0 (.R (.R (.L (.one (.R (.R (.one (.fr 1)))))))) (L:=mkL [(1,Xdd.fr)]) (l:=[(1,.loop Xdd.c)]) ⟨Lam.cons Xdd.ok,trivial⟩ [(0,([5],[]))] (fun x s=>((x.1.1,s.1,x.1.2.2.1,x.1.2.2.2.1,s.2,x.1.2.2.2.2.2),x.2))
  (fun x s=>by simp only[B,mC,mB,mS,mO,mN];kernel_rfl)
end Xev
namespace Xh2
def pts:List PT:=[.cs (.sl Xb),.cs I64]
def FS:FS:=Ybk [.sh,.sh] pts (fun x=>Xh2 x.1 x.2.1) fun t=>⟨[.cs I64 t],[]⟩
theorem ok:Yb2 PR 186 FS:=
 Yxn Xe Xf Proofs.Tryz.f186 h0 (.R (.R (.L (.R (.one (.fr 0)))))) (G:=(mkG [])) .nil (L:=mkL [(1,Xdd.fr),(0,Xev.fr)]) (l:=[(0,.loop Xev.c)]) ⟨Lam.skip rfl (Lam.cons Xev.ok),trivial⟩
  (fun x=>by simp only[Xh2,mC,mB,mS,mO,mN];kernel_rfl)
end Xh2
def Xgd.B (v:Fs_) (v3:List Xa) (v4:Int) (v2:List Int) (v5:Int):Option (Int⊕((Int⊕Unit))):=
 cond (decide (v5<v4)) (cond (inB v5 v3.length) ((Xh2 v.1 v5).bind fun v6=>(some (cond ((v3.getD v5.toNat Xc).1 == 1) ((v3.getD v5.toNat Xc).2.1 != v6) false)).bind fun v7=>cond v7 (some (.inr (.inl 1))) ((some (cond ((v3.getD v5.toNat Xc).1 == 2) (v5 == 0) false)).bind fun v8=>cond (cond v8 (v6 != 0) false) (some (.inr (.inl 1))) ((some (cond ((v3.getD v5.toNat Xc).1 == 2) (decide (v5>0)) false)).bind fun v9=>cond (cond v9 (v6 != 1) false) (some (.inr (.inl 1))) (cond ((v3.getD v5.toNat Xc).1 != 0) ((Xcd v2 v5).bind fun v10=>cond (!v10) (some (.inr (.inl 1))) (some (.inl (w64 (v5+1))))) (some (.inl (w64 (v5+1)))))))) none) (some (.inr (.inr ())))
def Xgd (v:Fs_) (v3:List Xa) (v4:Int) (v2:List Int):Int→Option ((Int⊕Unit)):=
 Y9 fun s=>Xgd.B v v3 v4 v2 s
def Xej (v:Fs_):Option Int:=
 (Xhq v.1 0).bind fun v2=>(Xgd v v.1 (v.1.length:Int) v2 0).bind fun v11=>sel v11 (fun v12=>some v12) (fun v13=>some 0)
namespace Xej
def G:Gam:=mkG [(185,Xhq.FS),(186,Xh2.FS),(148,Xcd.FS)]
theorem Gok:GOk PR G:=.cons Xhq.ok (.cons Xh2.ok (.cons Xcd.ok .nil))
end Xej
namespace Xgd
def c:=Yap (Yaf Proofs.Tryz.f113) [1,1,0,1,0,0]
def sp:SP:=⟨[(1,.pt Xo),(3,.seg 3 []),(12,.cs (.sl Xb)),(13,.cs I64),(14,.cs I64)],[(3,.reg,.cd SI)]⟩
def fr:=Yja sp (fun x s=>Xgd.B x.1.1 x.1.2.2.1 x.1.2.2.2.1 x.2.1 s) (fun x=>x.1.2.2.2.2.1) fun x (oo0:(Int⊕Unit)) _ kk0=>sel oo0 (fun bb0=>kk0 (.rt) ⟨[(2,.cs I64 bb0)],[]⟩) (fun cc0=>kk0 (.ex 0) ⟨[],[]⟩)
theorem ok:Ya7 PR 66 1 (.loop c) fr:=
 Yt2 Xe Xf ⟨[1],[],[],0⟩ .no (G:=Xej.G) Xej.Gok (L:=mkL []) (l:=[]) hT [(0,([],[]))] ([2],[]) (fun x s=>((x.1.1,x.1.2.1,x.1.2.2.1,x.1.2.2.2.1,s,x.1.2.2.2.2.2),x.2))
  (fun x s=>by simp only[B,mC,mB,mS,mO,mN];kernel_rfl)
end Xgd
namespace Xej
def pts:List PT:=[.cs Xo]
def FS:FS:=Ybk [.sh] pts (fun x=>Xej x.1) fun t=>⟨[.cs I64 t],[]⟩
theorem ok:Yb2 PR 113 FS:=
 Yxn Xe Xf Proofs.Tryz.f113 ⟨[1],[],[],0⟩ (.R (.R (.L (.R (.one (.fr 0)))))) (G:=G) Gok (L:=mkL [(0,Xgd.fr)]) (l:=[(0,.loop Xgd.c)]) ⟨Lam.cons Xgd.ok,trivial⟩
  (fun x=>by simp only[Xej,mC,mB,mS,mO,mN];kernel_rfl)
end Xej
def Xcv.B (v:List Xa) (v2:Int) (v3:Int) (v7:List Int) (v6:Int) (v4:List Int) (v10:Xa) (v8:Int) (v9:List Int):Option ((Int×List Int)⊕(List Int)):=
 cond (decide (v8<v6)) (cond (inB v8 v7.length) ((some (cond (decide ((w64 (v10.2.2.1-(w64 (v8*8))))<8)) (w64 (v10.2.2.1-(w64 (v8*8)))) 8)).bind fun v11=>cond (inB (v7.getD v8.toNat 0) 20) (some (.inl (w64 (v8+1),v9.set ((v7.getD v8.toNat 0).toNat) v11))) none) none) (some (.inr v9))
def Xcv (v:List Xa) (v2:Int) (v3:Int) (v7:List Int) (v6:Int) (v4:List Int) (v10:Xa):(Int×List Int)→Option (List Int):=
 Y9 fun s=>Xcv.B v v2 v3 v7 v6 v4 v10 s.1 s.2
def Xe6.B (v:List Xa) (v2:Int) (v4:List Int) (v3:Int) (v5:List Int):Option ((Int×List Int)⊕(List Int)):=
 cond (decide (v3<v2)) (cond (inB v3 v.length) ((some ((v.getD v3.toNat Xc).2.2.2.1.length:Int)).bind fun v6=>(Xcv v v2 v3 (v.getD v3.toNat Xc).2.2.2.1 v6 v4 (v.getD v3.toNat Xc) (0,v5)).bind fun v12=>some (.inl (w64 (v3+1),v12))) none) (some (.inr v5))
def Xe6 (v:List Xa) (v2:Int) (v4:List Int):(Int×List Int)→Option (List Int):=
 Y9 fun s=>Xe6.B v v2 v4 s.1 s.2
def Xf1 (v:List Xa):Option (List Int):=
 (Xe6 v (v.length:Int) (List.replicate 20 0) (0,(List.replicate 20 0))).bind fun v13=>some v13
namespace Xcv
def c:=Yap (Yaf Proofs.Tryz.f139) [1,1,0,1,0,0,1,1,0,0,1,1,0,0]
def sp:SP:=⟨[(2,.loc 2 []),(3,.loc 3 []),(5,.loc 5 []),(8,.cs (.sl Xb)),(9,.cs I64),(10,.cs I64),(15,.cs SI),(16,.cs I64),(17,.cs I64)],[(2,.mem,.cd (.arr 20 I64)),(3,.mem,.cd (.arr 20 I64)),(5,.mem,.cs Xb)]⟩
def fr:=Yja sp (fun x s=>Xcv.B x.1.2.2.2.1 x.1.2.2.2.2.1 x.1.2.2.2.2.2.1 x.1.2.2.2.2.2.2.1 x.1.2.2.2.2.2.2.2.1 x.2.1 x.2.2.2.1 s.1 s.2) (fun x=>(x.1.2.2.2.2.2.2.2.2.1,x.2.2.1)) fun x (bb0:List Int) _ kk0=>kk0 (.ex 2) ⟨[(2,.loc 2 []),(3,.loc 3 []),(8,.cs (.sl Xb) x.1.2.2.2.1),(9,.cs I64 x.1.2.2.2.2.1),(10,.cs I64 x.1.2.2.2.2.2.1)],[(2,some ⟨.mem,.cd (.arr 20 I64) x.2.1⟩),(3,some ⟨.mem,.cd (.arr 20 I64) bb0⟩)]⟩
theorem ok:Ya7 PR 33 1 (.loop c) fr:=
 Yxd Xe Xf h0 [(2,([2,3,8,9,10],[2,3]))] (fun x s=>((x.1.1,x.1.2.1,x.1.2.2.1,x.1.2.2.2.1,x.1.2.2.2.2.1,x.1.2.2.2.2.2.1,x.1.2.2.2.2.2.2.1,x.1.2.2.2.2.2.2.2.1,s.1,x.1.2.2.2.2.2.2.2.2.2),(x.2.1,s.2,x.2.2.2)))
  (fun x s=>by simp only[B,mC,mB,mS,mO,mN];kernel_rfl)
end Xcv
namespace Xe6
def c:=Yap (Yaf Proofs.Tryz.f139) [1,1,0,1,0,0]
def sp:SP:=⟨[(2,.loc 2 []),(3,.loc 3 []),(8,.cs (.sl Xb)),(9,.cs I64),(10,.cs I64)],[(2,.mem,.cd (.arr 20 I64)),(3,.mem,.cd (.arr 20 I64))]⟩
def fr:=Yja sp (fun x s=>Xe6.B x.1.2.2.1 x.1.2.2.2.1 x.2.1 s.1 s.2) (fun x=>(x.1.2.2.2.2.1,x.2.2.1)) fun x (bb0:List Int) _ kk0=>kk0 (.ex 0) ⟨[(2,.loc 2 []),(3,.loc 3 [])],[(2,some ⟨.mem,.cd (.arr 20 I64) x.2.1⟩),(3,some ⟨.mem,.cd (.arr 20 I64) bb0⟩)]⟩
theorem ok:Ya7 PR 33 1 (.loop c) fr:=
 Yxp Xe Xf h0 (.R (.R (.L (.one (.R (.R (.one (.fr 1)))))))) (L:=mkL [(1,Xcv.fr)]) (l:=[(1,.loop Xcv.c)]) ⟨Lam.cons Xcv.ok,trivial⟩ [(0,([2,3],[2,3]))] (fun x s=>((x.1.1,x.1.2.1,x.1.2.2.1,x.1.2.2.2.1,s.1,x.1.2.2.2.2.2),(x.2.1,s.2,x.2.2.2)))
  (fun x s=>by simp only[B,mC,mB,mS,mO,mN];kernel_rfl)
end Xe6
namespace Xf1
def pts:List PT:=[.cs (.sl Xb)]
def FS:FS:=Ybk [.sh] pts (fun x=>Xf1 x.1) fun t=>⟨[.cs (.arr 20 I64) t],[]⟩
theorem ok:Yb2 PR 139 FS:=
 Yxn Xe Xf Proofs.Tryz.f139 h0 (.R (.R (.L (.R (.one (.fr 0)))))) (G:=(mkG [])) .nil (L:=mkL [(1,Xcv.fr),(0,Xe6.fr)]) (l:=[(0,.loop Xe6.c)]) ⟨Lam.skip rfl (Lam.cons Xe6.ok),trivial⟩
  (fun x=>by simp only[Xf1,mC,mB,mS,mO,mN];kernel_rfl)
end Xf1
def Xku (v:List Int):Option Int:=
 some (v.length:Int)
namespace Xku
def pts:List PT:=[.cs SB]
def FS:FS:=Ybk [.sh] pts (fun x=>Xku x.1) fun t=>⟨[.cs I64 t],[]⟩
theorem ok:Yb2 PR 141 FS:=
 Yxn Xe Xf Proofs.Tryz.f141 h0 .no (G:=(mkG [])) .nil (L:=mkL []) (l:=[]) hT
  (fun x=>by simp only[Xku,mC,mB,mS,mO,mN];kernel_rfl)
end Xku
def Xg1.B (v:Fs_) (v2:List Int) (v3:Int):Option (Int⊕((Int⊕Unit))):=
 cond (decide (v3<20)) (cond (inB v3 20) (cond (inB v3 v.2.1.length) ((Xku (v.2.1.getD v3.toNat [])).bind fun v4=>cond (v4 != (v2.getD v3.toNat 0)) (some (.inr (.inl 1))) (some (.inl (w64 (v3+1))))) none) none) (some (.inr (.inr ())))
def Xg1 (v:Fs_) (v2:List Int):Int→Option ((Int⊕Unit)):=
 Y9 fun s=>Xg1.B v v2 s
def Xe7 (v:Fs_):Option Int:=
 (Xf1 v.1).bind fun v2=>(Xg1 v v2 0).bind fun v5=>sel v5 (fun v6=>some v6) (fun v7=>some 0)
namespace Xe7
def G:Gam:=mkG [(139,Xf1.FS),(141,Xku.FS)]
theorem Gok:GOk PR G:=.cons Xf1.ok (.cons Xku.ok .nil)
end Xe7
namespace Xg1
def c:=Yap (Yaf Proofs.Tryz.f114) [1,0,1,0,0]
def sp:SP:=⟨[(1,.pt Xo),(7,.cs (.arr 20 I64)),(8,.cs I64)],[]⟩
def fr:=Yja sp (fun x s=>Xg1.B x.1.1 x.1.2.1 s) (fun x=>x.1.2.2.1) fun x (oo0:(Int⊕Unit)) _ kk0=>sel oo0 (fun bb0=>kk0 (.rt) ⟨[(2,.cs I64 bb0)],[]⟩) (fun cc0=>kk0 (.ex 0) ⟨[],[]⟩)
theorem ok:Ya7 PR 21 1 (.loop c) fr:=
 Yt2 Xe Xf ⟨[1],[],[],0⟩ .no (G:=Xe7.G) Xe7.Gok (L:=mkL []) (l:=[]) hT [(0,([],[]))] ([2],[]) (fun x s=>((x.1.1,x.1.2.1,s,x.1.2.2.2),x.2))
  (fun x s=>by simp only[B,mC,mB,mS,mO,mN];kernel_rfl)
end Xg1
namespace Xe7
def pts:List PT:=[.cs Xo]
def FS:FS:=Ybk [.sh] pts (fun x=>Xe7 x.1) fun t=>⟨[.cs I64 t],[]⟩
theorem ok:Yb2 PR 114 FS:=
 Yxn Xe Xf Proofs.Tryz.f114 ⟨[1],[],[],0⟩ (.R (.L (.R (.one (.fr 0))))) (G:=G) Gok (L:=mkL [(0,Xg1.fr)]) (l:=[(0,.loop Xg1.c)]) ⟨Lam.cons Xg1.ok,trivial⟩
  (fun x=>by simp only[Xe7,mC,mB,mS,mO,mN];kernel_rfl)
end Xe7
def Xc7 (v:Fs_):Option Int:=
 (Xbd v).bind fun v2=>cond (v2 != 0) (some v2) ((Xej v).bind fun v3=>cond (v3 != 0) (some v3) ((Xe7 v).bind fun v4=>some v4))
namespace Xc7
def G:Gam:=mkG [(112,Xbd.FS),(113,Xej.FS),(114,Xe7.FS)]
def pts:List PT:=[.cs Xo]
def FS:FS:=Ybk [.sh] pts (fun x=>Xc7 x.1) fun t=>⟨[.cs I64 t],[]⟩
theorem ok:Yb2 PR 54 FS:=
 Yxn Xe Xf Proofs.Tryz.f54 ⟨[1],[],[],0⟩ .no (G:=G) (show GOk PR G from .cons Xbd.ok (.cons Xej.ok (.cons Xe7.ok .nil))) (L:=mkL []) (l:=[]) hT
  (fun x=>by simp only[Xc7,mC,mB,mS,mO,mN];kernel_rfl)
end Xc7
end Mf
