import Derived.Test.YthaonimonnheeaaGreatPlanSyncH
import Derived.Test.YthaonimonnheeaaGreatPlanSyncJ
import Derived.Test.YthaonimonnheeaaGreatProg
import Derived.KernelRfl
import Derived.Shelf.SortM.Plain
import Derived.Shelf.SortM.SortNone
import Derived.Shelf.SlGeneric
import Derived.Ground.SlgmProg
namespace Go.Proofs
open Go.Shelf
def Tryz.Xjq:Go.Shelf.Ren:=⟨fun | 5=>210 | 8=>236 | 7=>235 | 19=>252 | 20=>253 | 10=>243 | 11=>244 | 12=>245 | 13=>246 | 14=>247 | 15=>248 | 16=>249 | 17=>250 | 18=>251 | 30=>260 | 31=>261 | 32=>262 | 33=>263 | 34=>264 | 35=>265 | 40=>266 | n=>n,fun | 23=>51 | 25=>2 | 3=>3 | 32=>258 | 22=>51 | 0=>0 | 44=>270 | 46=>272 | 4=>4 | 36=>262 | 35=>261 | 41=>267 | 5=>5 | 9=>9 | 53=>275 | 57=>279 | 63=>281 | 64=>282 | n=>n,fun | n=>n⟩
theorem Tryz.Xj3:Go.Proofs.SlLaysM.n5 Tryz.prog Tryz.Xjq:={
 mixed:=by kernel_rfl
 f5:=⟨Tryz.f210.name,by decide,Tryz.func210.trans (congrArg some (by kernel_rfl))⟩
 f7:=⟨Tryz.f235.name,by decide,Tryz.func235.trans (congrArg some (by kernel_rfl))⟩
 f8:=Tryz.func236.trans (congrArg some (by kernel_rfl))
 f10:=⟨Tryz.f243.name,by decide,Tryz.func243.trans (congrArg some (by kernel_rfl))⟩
 f11:=⟨Tryz.f244.name,by decide,Tryz.func244.trans (congrArg some (by kernel_rfl))⟩
 f12:=⟨Tryz.f245.name,by decide,Tryz.func245.trans (congrArg some (by kernel_rfl))⟩
 f13:=⟨Tryz.f246.name,by decide,Tryz.func246.trans (congrArg some (by kernel_rfl))⟩
 f14:=⟨Tryz.f247.name,by decide,Tryz.func247.trans (congrArg some (by kernel_rfl))⟩
 f15:=⟨Tryz.f248.name,by decide,Tryz.func248.trans (congrArg some (by kernel_rfl))⟩
 f16:=⟨Tryz.f249.name,by decide,Tryz.func249.trans (congrArg some (by kernel_rfl))⟩
 f17:=⟨Tryz.f250.name,by decide,Tryz.func250.trans (congrArg some (by kernel_rfl))⟩
 f18:=⟨Tryz.f251.name,by decide,Tryz.func251.trans (congrArg some (by kernel_rfl))⟩
 f19:=Tryz.func252.trans (congrArg some (by kernel_rfl))
 f20:=Tryz.func253.trans (congrArg some (by kernel_rfl))
 f30:=⟨Tryz.f260.name,by decide,Tryz.func260.trans (congrArg some (by kernel_rfl))⟩
 f31:=Tryz.func261.trans (congrArg some (by kernel_rfl))
 f32:=Tryz.func262.trans (congrArg some (by kernel_rfl))
 f33:=⟨Tryz.f263.name,by decide,Tryz.func263.trans (congrArg some (by kernel_rfl))⟩
 f34:=⟨Tryz.f264.name,by decide,Tryz.func264.trans (congrArg some (by kernel_rfl))⟩
 f35:=⟨Tryz.f265.name,by decide,Tryz.func265.trans (congrArg some (by kernel_rfl))⟩
 f40:=⟨Tryz.f266.name,by decide,Tryz.func266.trans (congrArg some (by kernel_rfl))⟩
 t0:=Tryz.underlying0
 a0:=Tryz.isAgg0
 z0:=Tryz.sizeOf0
 v0:=Tryz.zeroValue0
 t3:=Tryz.underlying3
 a3:=Tryz.isAgg3
 z3:=Tryz.sizeOf3
 v3:=Tryz.zeroValue3
 t4:=Tryz.underlying4
 a4:=Tryz.isAgg4
 z4:=Tryz.sizeOf4
 v4:=Tryz.zeroValue4
 t5:=Tryz.underlying5
 a5:=Tryz.isAgg5
 z5:=Tryz.sizeOf5
 v5:=Tryz.zeroValue5
 t9:=Tryz.underlying9
 a9:=Tryz.isAgg9
 z9:=Tryz.sizeOf9
 v9:=Tryz.zeroValue9
 t22:=Tryz.underlying51
 a22:=Tryz.isAgg51
 z22:=Tryz.sizeOf51
 v22:=Tryz.zeroValue51
 t23:=Tryz.underlying51
 a23:=Tryz.isAgg51
 z23:=Tryz.sizeOf51
 v23:=Tryz.zeroValue51
 t25:=Tryz.underlying2
 a25:=Tryz.isAgg2
 z25:=Tryz.sizeOf2
 v25:=Tryz.zeroValue2
 t32:=Tryz.underlying258
 a32:=Tryz.isAgg258
 z32:=Tryz.sizeOf258
 v32:=Tryz.zeroValue258
 t35:=Tryz.underlying261
 a35:=Tryz.isAgg261
 z35:=Tryz.sizeOf261
 v35:=Tryz.zeroValue261
 t36:=Tryz.underlying262
 a36:=Tryz.isAgg262
 z36:=Tryz.sizeOf262
 v36:=Tryz.zeroValue262
 t41:=Tryz.underlying267
 a41:=Tryz.isAgg267
 z41:=Tryz.sizeOf267
 v41:=Tryz.zeroValue267
 t44:=Tryz.underlying270
 a44:=Tryz.isAgg270
 z44:=Tryz.sizeOf270
 v44:=Tryz.zeroValue270
 t46:=Tryz.underlying272
 a46:=Tryz.isAgg272
 z46:=Tryz.sizeOf272
 v46:=Tryz.zeroValue272
 t53:=Tryz.underlying275
 a53:=Tryz.isAgg275
 z53:=Tryz.sizeOf275
 v53:=Tryz.zeroValue275
 t57:=Tryz.underlying279
 a57:=Tryz.isAgg279
 z57:=Tryz.sizeOf279
 v57:=Tryz.zeroValue279
 t63:=Tryz.underlying281
 a63:=Tryz.isAgg281
 z63:=Tryz.sizeOf281
 v63:=Tryz.zeroValue281
 t64:=Tryz.underlying282
 a64:=Tryz.isAgg282
 z64:=Tryz.sizeOf282
 v64:=Tryz.zeroValue282 }
end Go.Proofs
noncomputable section
namespace Mf
open Go
set_option linter.unusedVariables false
set_option linter.unusedSimpArgs false
set_option maxRecDepth 100000
abbrev Xi:Ty:=(.pair (.int .i64) (.pair (.sl (.int .i64)) .unit))
abbrev Xg:Type:=Int×(List Int)×Unit
def Xq:Xg:=(0,[],())
abbrev Xj:Ty:=(.pair (.sl (.sl (.int .i64))) (.pair (.sl Xi) .unit))
abbrev Xk:Type:=(List (List Int))×(List Xg)×Unit
def Xor:Xk:=([],[],())
abbrev Xp:Ty:=(.pair .bool Xi)
abbrev Xl:Type:=Bool×Xg
def Xar:Xl:=(false,0,[],())
abbrev Xh:Ty:=(.pair .str (.pair (.int .i64) .unit))
abbrev Xf:Type:=(List UInt8)×Int×Unit
def Xo:Xf:=([],0,())
abbrev Xc:Ty:=(.pair (.int .i64) (.pair (.int .i64) (.pair (.int .i64) (.pair (.sl (.int .i64)) (.pair (.sl Xh) .unit)))))
abbrev Xa:Type:=Int×Int×Int×(List Int)×(List Xf)×Unit
def Xb:Xa:=(0,0,0,[],[],())
abbrev Xn:Ty:=(.pair (.sl Xc) (.pair (.sl (.sl (.int .u8))) .unit))
abbrev Fs_:Type:=(List Xa)×(List (List Int))×Unit
def Xoy:Fs_:=([],[],())
abbrev Xe6:Ty:=(.pair Xj (.pair Xn (.pair Xn .unit)))
abbrev Xks:Type:=Xk×Fs_×Fs_×Unit
def Xop:Xks:=(([],[],()),([],[],()),([],[],()),())
abbrev Xc5:Ty:=(.pair (.int .i64) (.pair (.int .i64) (.pair (.int .i64) (.pair (.sl (.int .u8)) (.pair (.sl .str) (.pair Xn .unit))))))
abbrev Xhm:Type:=Int×Int×Int×(List Int)×(List (List UInt8))×Fs_×Unit
def Xk9:Xhm:=(0,0,0,[],[],([],[],()),())
abbrev Xfh:Ty:=(.pair (.int .i64) (.pair Xj .unit))
abbrev Xjl:Type:=Int×Xk×Unit
def Xla:Xjl:=(0,([],[],()),())
abbrev Xij:Ty:=(.pair (.int .i64) (.pair Xn .unit))
abbrev Xkf:Type:=Int×Fs_×Unit
def Xlr:Xkf:=(0,([],[],()),())
abbrev Xdy:Ty:=(.pair (.int .i64) (.pair (.int .i64) .unit))
abbrev Xia:Type:=Int×Int×Unit
def Xld:Xia:=(0,0,())
abbrev Xm:Ty:=(.pair (.int .i64) (.pair (.sl Xp) .unit))
abbrev Xv:Type:=Int×(List Xl)×Unit
def Xk7:Xv:=(0,[],())
abbrev Xem:Ty:=(.pair (.int .i64) (.pair Xc5 (.pair Xe6 .unit)))
abbrev Xi1:Type:=Int×Xhm×Xks×Unit
def Xk6:Xi1:=(0,(0,0,0,[],[],([],[],()),()),(([],[],()),([],[],()),([],[],()),()),())
abbrev Xk5:Ty:=(.pair Xn (.pair (.sl .bool) (.pair (.sl (.sl Xh)) (.pair (.int .i64) (.pair (.sl (.int .i64)) (.pair (.sl (.int .i64)) .unit))))))
abbrev Xmq:Type:=Fs_×(List Bool)×(List (List Xf))×Int×(List Int)×(List Int)×Unit
def Xox:Xmq:=(([],[],()),[],[],0,[],[],())
abbrev Xeo:Ty:=(.pair (.int .i64) (.pair (.int .i64) (.pair .bool (.pair (.int .u8) .unit))))
abbrev Xi8:Type:=Int×Int×Bool×Int×Unit
def Xk8:Xi8:=(0,0,false,0,())
abbrev Xan:Ty:=(.pair .str (.pair (.int .u64) .unit))
abbrev Xed:Type:=(List UInt8)×Int×Unit
def Xjn:Xed:=([],0,())
abbrev PR:Program:=Go.Proofs.Tryz.prog
def tb:Tb:=[(2,⟨.int .i64,(.int .i64),8⟩),(3,⟨.int .i64,(.int .i64),8⟩),(4,⟨.bool,.bool,1⟩),(5,⟨.int .u8,(.int .u8),1⟩),(6,⟨.int .u8,(.int .u8),1⟩),(7,⟨.st [0,1,2,3],Xeo,24⟩),(8,⟨.st [0,1,2,3],Xeo,24⟩),(9,⟨.str,.str,16⟩),(10,⟨.str,.str,16⟩),(11,⟨.str,.str,16⟩),(12,⟨.int .u64,(.int .u64),8⟩),(13,⟨.st [0,1],Xan,24⟩),(14,⟨.st [0,1],Xan,24⟩),(21,⟨.int .i32,(.int .i32),4⟩),(22,⟨.sl 51,(.sl (.sl (.int .i64))),24⟩),(23,⟨.sl 133,(.sl Xi),24⟩),(24,⟨.st [0,1],Xj,48⟩),(25,⟨.st [0,1],Xj,48⟩),(26,⟨.sl 137,(.sl Xc),24⟩),(27,⟨.sl 76,(.sl (.sl (.int .u8))),24⟩),(28,⟨.st [0,1],Xn,48⟩),(29,⟨.st [0,1],Xn,48⟩),(32,⟨.sl 147,(.sl Xp),24⟩),(33,⟨.st [0,1],Xm,32⟩),(34,⟨.st [0,1],Xm,32⟩),(36,⟨.sl 148,(.sl Xi),24⟩),(37,⟨.st [0,1],Xj,48⟩),(38,⟨.st [0,1],Xj,48⟩),(40,⟨.sl 154,(.sl Xc),24⟩),(41,⟨.st [0,1],Xn,48⟩),(42,⟨.st [0,1],Xn,48⟩),(51,⟨.sl 2,(.sl (.int .i64)),24⟩),(52,⟨.st [0,1],Xi,32⟩),(53,⟨.st [0,1],Xi,32⟩),(58,⟨.st [0,2,4],Xe6,144⟩),(59,⟨.st [0,2,4],Xe6,144⟩),(60,⟨.sl 4,(.sl .bool),24⟩),(62,⟨.st [0,1],Xfh,56⟩),(63,⟨.st [0,1],Xfh,56⟩),(65,⟨.st [0,2,4],Xe6,144⟩),(66,⟨.st [0,2,4],Xe6,144⟩),(76,⟨.sl 5,(.sl (.int .u8)),24⟩),(77,⟨.sl 9,(.sl .str),24⟩),(78,⟨.st [0,1,2,3,4,5],Xc5,120⟩),(79,⟨.st [0,1,2,3,4,5],Xc5,120⟩),(80,⟨.st [0,1,8],Xem,272⟩),(81,⟨.st [0,1,8],Xem,272⟩),(90,⟨.st [0,1],Xdy,16⟩),(91,⟨.st [0,1],Xdy,16⟩),(132,⟨.st [0,1],Xi,32⟩),(133,⟨.st [0,1],Xi,32⟩),(135,⟨.sl 245,(.sl Xh),24⟩),(136,⟨.st [0,1,2,3,4],Xc,72⟩),(137,⟨.st [0,1,2,3,4],Xc,72⟩),(146,⟨.st [0,1,2],Xp,40⟩),(147,⟨.st [0,1,2],Xp,40⟩),(148,⟨.st [0,1],Xi,32⟩),(152,⟨.sl 200,(.sl Xh),24⟩),(153,⟨.st [0,1,2,3,4],Xc,72⟩),(154,⟨.st [0,1,2,3,4],Xc,72⟩),(170,⟨.st [0,1],Xij,56⟩),(171,⟨.st [0,1],Xij,56⟩),(180,⟨.sl 152,(.sl (.sl Xh)),24⟩),(181,⟨.st [0,2,3,4,5,6],Xk5,152⟩),(182,⟨.st [0,2,3,4,5,6],Xk5,152⟩),(184,⟨.arr 20 2,(.arr 20 (.int .i64)),160⟩),(199,⟨.st [0,1],Xh,24⟩),(200,⟨.st [0,1],Xh,24⟩),(218,⟨.sl 32,(.sl (.sl Xp)),24⟩),(245,⟨.st [0,1],Xh,24⟩),(258,⟨.int .u64,(.int .u64),8⟩),(261,⟨.int .i64,(.int .i64),8⟩),(270,⟨.int .u32,(.int .u32),4⟩),(272,⟨.int .u64,(.int .u64),8⟩),(275,⟨.int .u64,(.int .u64),8⟩),(291,⟨.int .u8,(.int .u8),1⟩),(292,⟨.int .u8,(.int .u8),1⟩),(295,⟨.int .i32,(.int .i32),4⟩),(296,⟨.int .i32,(.int .i32),4⟩)]
theorem Xe:Yag Go.Proofs.Tryz.prog tb:=Yxi (by kernel_rfl)
theorem Xd:Go.Proofs.Tryz.prog.follows .mixedOrders=true:=by kernel_rfl
def Zq0 (a:List Int) (left:Int):Option Int:=
 cond (decide ((w64 (left-(a.length:Int)))<0)) (some (-1)) (some (w64 (left-(a.length:Int))))
namespace Zq0
def pts:List PT:=[.cs SI,.cs I64]
def FS:FS:=Ybk [.sh,.sh] pts (fun x=>Zq0 x.1 x.2.1) fun t=>⟨[.cs I64 t],[]⟩
theorem ok:Yb2 PR 89 FS:=
 Yxn Xe Xd Proofs.Tryz.f89 h0 .no (G:=(mkG [])) .nil (L:=mkL []) (l:=[]) hT
  (fun x=>by simp only[Zq0,mC,mB,mS,mO,mN];kernel_rfl)
end Zq0
def Zq1.B (a:List (List Int)) (left_:Int) (i_:Int):Option ((Int×Int)⊕((Int⊕Int))):=
 cond (decide (i_<(a.length:Int))) (cond (inB i_ a.length) ((Zq0 (a.getD i_.toNat []) left_).bind fun r=>cond (decide (r<0)) (some (.inr (.inl (-1)))) (some (.inl (r,w64 (i_+1))))) none) (some (.inr (.inr left_)))
def Zq1 (a:List (List Int)):(Int×Int)→Option ((Int⊕Int)):=
 Y9 fun s=>Zq1.B a s.1 s.2
def Zq2 (a:List (List Int)) (left:Int):Option Int:=
 cond (decide ((w64 (left-(a.length:Int)))<0)) (some (-1)) ((Zq1 a (w64 (left-(a.length:Int)),0)).bind fun o=>sel o (fun b=>some b) (fun c=>some c))
namespace Zq2
def G:Gam:=mkG [(89,Zq0.FS)]
theorem Gok:GOk PR G:=.cons Zq0.ok .nil
end Zq2
namespace Zq1
def c:=Yap (Yaf Proofs.Tryz.f42) [1,1,1,0,1,0,0]
def sp:SP:=⟨[(0,.cs (.sl SI)),(1,.cs I64),(5,.cs I64)],[]⟩
def fr:=Yja sp (fun x s=>Zq1.B x.1.1 s.1 s.2) (fun x=>(x.1.2.1,x.1.2.2.1)) fun x (oo0:(Int⊕Int)) _ kk0=>sel oo0 (fun bb0=>kk0 (.rt) ⟨[(4,.cs I64 bb0)],[]⟩) (fun cc0=>kk0 (.ex 0) ⟨[(1,.cs I64 cc0)],[]⟩)
theorem ok:Ya7 PR 27 2 (.loop c) fr:=
 Yt2 Xe Xd h0 .no (G:=Zq2.G) Zq2.Gok (L:=mkL []) (l:=[]) hT [(0,([1],[]))] ([4],[]) (fun x s=>((x.1.1,s.1,s.2,x.1.2.2.2),x.2))
  (fun x s=>by simp only[B,mC,mB,mS,mO,mN];kernel_rfl)
end Zq1
namespace Zq2
def pts:List PT:=[.cs (.sl SI),.cs I64]
def FS:FS:=Ybk [.sh,.sh] pts (fun x=>Zq2 x.1 x.2.1) fun t=>⟨[.cs I64 t],[]⟩
theorem ok:Yb2 PR 42 FS:=
 Yxn Xe Xd Proofs.Tryz.f42 h0 (.R (.R (.R (.L (.R (.one (.fr 0))))))) (G:=G) Gok (L:=mkL [(0,Zq1.fr)]) (l:=[(0,.loop Zq1.c)]) ⟨Lam.cons Zq1.ok,trivial⟩
  (fun x=>by simp only[Zq2,mC,mB,mS,mO,mN];kernel_rfl)
end Zq2
def Zq3 (a:Xg) (left:Int):Option Int:=
 (Zq0 a.2.1 left).bind fun r=>cond (decide (r<0)) (some (-1)) (some r)
namespace Zq3
def G:Gam:=mkG [(89,Zq0.FS)]
def pts:List PT:=[.cs Xi,.cs I64]
def FS:FS:=Ybk [.sh,.sh] pts (fun x=>Zq3 x.1 x.2.1) fun t=>⟨[.cs I64 t],[]⟩
theorem ok:Yb2 PR 90 FS:=
 Yxn Xe Xd Proofs.Tryz.f90 ⟨[2],[],[],0⟩ .no (G:=G) (show GOk PR G from .cons Zq0.ok .nil) (L:=mkL []) (l:=[]) hT
  (fun x=>by simp only[Zq3,mC,mB,mS,mO,mN];kernel_rfl)
end Zq3
def Zq4.B (a:List Xg) (left_:Int) (i_:Int):Option ((Int×Int)⊕((Int⊕Int))):=
 cond (decide (i_<(a.length:Int))) (cond (inB i_ a.length) ((Zq3 (a.getD i_.toNat Xq) left_).bind fun r=>cond (decide (r<0)) (some (.inr (.inl (-1)))) (some (.inl (r,w64 (i_+1))))) none) (some (.inr (.inr left_)))
def Zq4 (a:List Xg):(Int×Int)→Option ((Int⊕Int)):=
 Y9 fun s=>Zq4.B a s.1 s.2
def Zq5 (a:List Xg) (left:Int):Option Int:=
 cond (decide ((w64 (left-(a.length:Int)))<0)) (some (-1)) ((Zq4 a (w64 (left-(a.length:Int)),0)).bind fun o=>sel o (fun b=>some b) (fun c=>some c))
namespace Zq5
def G:Gam:=mkG [(90,Zq3.FS)]
theorem Gok:GOk PR G:=.cons Zq3.ok .nil
end Zq5
namespace Zq4
def c:=Yap (Yaf Proofs.Tryz.f43) [1,1,1,0,1,0,0]
def sp:SP:=⟨[(0,.cs (.sl Xi)),(1,.cs I64),(5,.cs I64)],[]⟩
def fr:=Yja sp (fun x s=>Zq4.B x.1.1 s.1 s.2) (fun x=>(x.1.2.1,x.1.2.2.1)) fun x (oo0:(Int⊕Int)) _ kk0=>sel oo0 (fun bb0=>kk0 (.rt) ⟨[(4,.cs I64 bb0)],[]⟩) (fun cc0=>kk0 (.ex 0) ⟨[(1,.cs I64 cc0)],[]⟩)
theorem ok:Ya7 PR 27 2 (.loop c) fr:=
 Yt2 Xe Xd h0 .no (G:=Zq5.G) Zq5.Gok (L:=mkL []) (l:=[]) hT [(0,([1],[]))] ([4],[]) (fun x s=>((x.1.1,s.1,s.2,x.1.2.2.2),x.2))
  (fun x s=>by simp only[B,mC,mB,mS,mO,mN];kernel_rfl)
end Zq4
namespace Zq5
def pts:List PT:=[.cs (.sl Xi),.cs I64]
def FS:FS:=Ybk [.sh,.sh] pts (fun x=>Zq5 x.1 x.2.1) fun t=>⟨[.cs I64 t],[]⟩
theorem ok:Yb2 PR 43 FS:=
 Yxn Xe Xd Proofs.Tryz.f43 h0 (.R (.R (.R (.L (.R (.one (.fr 0))))))) (G:=G) Gok (L:=mkL [(0,Zq4.fr)]) (l:=[(0,.loop Zq4.c)]) ⟨Lam.cons Zq4.ok,trivial⟩
  (fun x=>by simp only[Zq5,mC,mB,mS,mO,mN];kernel_rfl)
end Zq5
def Zq6 (a:Xk) (left:Int):Option Int:=
 (Zq2 a.1 left).bind fun r=>cond (decide (r<0)) (some (-1)) ((Zq5 a.2.1 r).bind fun r2=>cond (decide (r2<0)) (some (-1)) (some r2))
namespace Zq6
def G:Gam:=mkG [(42,Zq2.FS),(43,Zq5.FS)]
def pts:List PT:=[.cs Xj,.cs I64]
def FS:FS:=Ybk [.sh,.sh] pts (fun x=>Zq6 x.1 x.2.1) fun t=>⟨[.cs I64 t],[]⟩
theorem ok:Yb2 PR 7 FS:=
 Yxn Xe Xd Proofs.Tryz.f7 ⟨[2],[],[],0⟩ .no (G:=G) (show GOk PR G from .cons Zq2.ok (.cons Zq5.ok .nil)) (L:=mkL []) (l:=[]) hT
  (fun x=>by simp only[Zq6,mC,mB,mS,mO,mN];kernel_rfl)
end Zq6
def Zq7 (a:Xf) (left:Int):Option Int:=
 cond (decide ((w64 (left-(a.1.length:Int)))<0)) (some (-1)) (some (w64 (left-(a.1.length:Int))))
namespace Zq7
def pts:List PT:=[.cs Xh,.cs I64]
def FS:FS:=Ybk [.sh,.sh] pts (fun x=>Zq7 x.1 x.2.1) fun t=>⟨[.cs I64 t],[]⟩
theorem ok:Yb2 PR 219 FS:=
 Yxn Xe Xd Proofs.Tryz.f219 ⟨[2],[],[],0⟩ .no (G:=(mkG [])) .nil (L:=mkL []) (l:=[]) hT
  (fun x=>by simp only[Zq7,mC,mB,mS,mO,mN];kernel_rfl)
end Zq7
def Zq8.B (a:List Xf) (left_:Int) (i_:Int):Option ((Int×Int)⊕((Int⊕Int))):=
 cond (decide (i_<(a.length:Int))) (cond (inB i_ a.length) ((Zq7 (a.getD i_.toNat Xo) left_).bind fun r=>cond (decide (r<0)) (some (.inr (.inl (-1)))) (some (.inl (r,w64 (i_+1))))) none) (some (.inr (.inr left_)))
def Zq8 (a:List Xf):(Int×Int)→Option ((Int⊕Int)):=
 Y9 fun s=>Zq8.B a s.1 s.2
def Zq9 (a:List Xf) (left:Int):Option Int:=
 cond (decide ((w64 (left-(a.length:Int)))<0)) (some (-1)) ((Zq8 a (w64 (left-(a.length:Int)),0)).bind fun o=>sel o (fun b=>some b) (fun c=>some c))
namespace Zq9
def G:Gam:=mkG [(219,Zq7.FS)]
theorem Gok:GOk PR G:=.cons Zq7.ok .nil
end Zq9
namespace Zq8
def c:=Yap (Yaf Proofs.Tryz.f167) [1,1,1,0,1,0,0]
def sp:SP:=⟨[(0,.cs (.sl Xh)),(1,.cs I64),(5,.cs I64)],[]⟩
def fr:=Yja sp (fun x s=>Zq8.B x.1.1 s.1 s.2) (fun x=>(x.1.2.1,x.1.2.2.1)) fun x (oo0:(Int⊕Int)) _ kk0=>sel oo0 (fun bb0=>kk0 (.rt) ⟨[(4,.cs I64 bb0)],[]⟩) (fun cc0=>kk0 (.ex 0) ⟨[(1,.cs I64 cc0)],[]⟩)
theorem ok:Ya7 PR 27 2 (.loop c) fr:=
 Yt2 Xe Xd h0 .no (G:=Zq9.G) Zq9.Gok (L:=mkL []) (l:=[]) hT [(0,([1],[]))] ([4],[]) (fun x s=>((x.1.1,s.1,s.2,x.1.2.2.2),x.2))
  (fun x s=>by simp only[B,mC,mB,mS,mO,mN];kernel_rfl)
end Zq8
namespace Zq9
def pts:List PT:=[.cs (.sl Xh),.cs I64]
def FS:FS:=Ybk [.sh,.sh] pts (fun x=>Zq9 x.1 x.2.1) fun t=>⟨[.cs I64 t],[]⟩
theorem ok:Yb2 PR 167 FS:=
 Yxn Xe Xd Proofs.Tryz.f167 h0 (.R (.R (.R (.L (.R (.one (.fr 0))))))) (G:=G) Gok (L:=mkL [(0,Zq8.fr)]) (l:=[(0,.loop Zq8.c)]) ⟨Lam.cons Zq8.ok,trivial⟩
  (fun x=>by simp only[Zq9,mC,mB,mS,mO,mN];kernel_rfl)
end Zq9
def Xiv (a:Xa) (left:Int):Option Int:=
 (Zq0 a.2.2.2.1 left).bind fun r=>cond (decide (r<0)) (some (-1)) ((Zq9 a.2.2.2.2.1 r).bind fun r2=>cond (decide (r2<0)) (some (-1)) (some r2))
namespace Xiv
def G:Gam:=mkG [(89,Zq0.FS),(167,Zq9.FS)]
def pts:List PT:=[.cs Xc,.cs I64]
def FS:FS:=Ybk [.sh,.sh] pts (fun x=>Xiv x.1 x.2.1) fun t=>⟨[.cs I64 t],[]⟩
theorem ok:Yb2 PR 91 FS:=
 Yxn Xe Xd Proofs.Tryz.f91 ⟨[2],[],[],0⟩ .no (G:=G) (show GOk PR G from .cons Zq0.ok (.cons Zq9.ok .nil)) (L:=mkL []) (l:=[]) hT
  (fun x=>by simp only[Xiv,mC,mB,mS,mO,mN];kernel_rfl)
end Xiv
def Xf9.B (a:List Xa) (left_:Int) (i_:Int):Option ((Int×Int)⊕((Int⊕Int))):=
 cond (decide (i_<(a.length:Int))) (cond (inB i_ a.length) ((Xiv (a.getD i_.toNat Xb) left_).bind fun r=>cond (decide (r<0)) (some (.inr (.inl (-1)))) (some (.inl (r,w64 (i_+1))))) none) (some (.inr (.inr left_)))
def Xf9 (a:List Xa):(Int×Int)→Option ((Int⊕Int)):=
 Y9 fun s=>Xf9.B a s.1 s.2
def Xgf (a:List Xa) (left:Int):Option Int:=
 cond (decide ((w64 (left-(a.length:Int)))<0)) (some (-1)) ((Xf9 a (w64 (left-(a.length:Int)),0)).bind fun o=>sel o (fun b=>some b) (fun c=>some c))
namespace Xgf
def G:Gam:=mkG [(91,Xiv.FS)]
theorem Gok:GOk PR G:=.cons Xiv.ok .nil
end Xgf
namespace Xf9
def c:=Yap (Yaf Proofs.Tryz.f44) [1,1,1,0,1,0,0]
def sp:SP:=⟨[(0,.cs (.sl Xc)),(1,.cs I64),(5,.cs I64)],[]⟩
def fr:=Yja sp (fun x s=>Xf9.B x.1.1 s.1 s.2) (fun x=>(x.1.2.1,x.1.2.2.1)) fun x (oo0:(Int⊕Int)) _ kk0=>sel oo0 (fun bb0=>kk0 (.rt) ⟨[(4,.cs I64 bb0)],[]⟩) (fun cc0=>kk0 (.ex 0) ⟨[(1,.cs I64 cc0)],[]⟩)
theorem ok:Ya7 PR 27 2 (.loop c) fr:=
 Yt2 Xe Xd h0 .no (G:=Xgf.G) Xgf.Gok (L:=mkL []) (l:=[]) hT [(0,([1],[]))] ([4],[]) (fun x s=>((x.1.1,s.1,s.2,x.1.2.2.2),x.2))
  (fun x s=>by simp only[B,mC,mB,mS,mO,mN];kernel_rfl)
end Xf9
namespace Xgf
def pts:List PT:=[.cs (.sl Xc),.cs I64]
def FS:FS:=Ybk [.sh,.sh] pts (fun x=>Xgf x.1 x.2.1) fun t=>⟨[.cs I64 t],[]⟩
theorem ok:Yb2 PR 44 FS:=
 Yxn Xe Xd Proofs.Tryz.f44 h0 (.R (.R (.R (.L (.R (.one (.fr 0))))))) (G:=G) Gok (L:=mkL [(0,Xf9.fr)]) (l:=[(0,.loop Xf9.c)]) ⟨Lam.cons Xf9.ok,trivial⟩
  (fun x=>by simp only[Xgf,mC,mB,mS,mO,mN];kernel_rfl)
end Xgf
def Xi9 (a:List Int) (left:Int):Option Int:=
 cond (decide ((w64 (left-(a.length:Int)))<0)) (some (-1)) (some (w64 (left-(a.length:Int))))
namespace Xi9
def pts:List PT:=[.cs SB,.cs I64]
def FS:FS:=Ybk [.sh,.sh] pts (fun x=>Xi9 x.1 x.2.1) fun t=>⟨[.cs I64 t],[]⟩
theorem ok:Yb2 PR 92 FS:=
 Yxn Xe Xd Proofs.Tryz.f92 h0 .no (G:=(mkG [])) .nil (L:=mkL []) (l:=[]) hT
  (fun x=>by simp only[Xi9,mC,mB,mS,mO,mN];kernel_rfl)
end Xi9
def Xg5.B (a:List (List Int)) (left_:Int) (i_:Int):Option ((Int×Int)⊕((Int⊕Int))):=
 cond (decide (i_<(a.length:Int))) (cond (inB i_ a.length) ((Xi9 (a.getD i_.toNat []) left_).bind fun r=>cond (decide (r<0)) (some (.inr (.inl (-1)))) (some (.inl (r,w64 (i_+1))))) none) (some (.inr (.inr left_)))
def Xg5 (a:List (List Int)):(Int×Int)→Option ((Int⊕Int)):=
 Y9 fun s=>Xg5.B a s.1 s.2
def Xgn (a:List (List Int)) (left:Int):Option Int:=
 cond (decide ((w64 (left-(a.length:Int)))<0)) (some (-1)) ((Xg5 a (w64 (left-(a.length:Int)),0)).bind fun o=>sel o (fun b=>some b) (fun c=>some c))
namespace Xgn
def G:Gam:=mkG [(92,Xi9.FS)]
theorem Gok:GOk PR G:=.cons Xi9.ok .nil
end Xgn
namespace Xg5
def c:=Yap (Yaf Proofs.Tryz.f45) [1,1,1,0,1,0,0]
def sp:SP:=⟨[(0,.cs (.sl SB)),(1,.cs I64),(5,.cs I64)],[]⟩
def fr:=Yja sp (fun x s=>Xg5.B x.1.1 s.1 s.2) (fun x=>(x.1.2.1,x.1.2.2.1)) fun x (oo0:(Int⊕Int)) _ kk0=>sel oo0 (fun bb0=>kk0 (.rt) ⟨[(4,.cs I64 bb0)],[]⟩) (fun cc0=>kk0 (.ex 0) ⟨[(1,.cs I64 cc0)],[]⟩)
theorem ok:Ya7 PR 27 2 (.loop c) fr:=
 Yt2 Xe Xd h0 .no (G:=Xgn.G) Xgn.Gok (L:=mkL []) (l:=[]) hT [(0,([1],[]))] ([4],[]) (fun x s=>((x.1.1,s.1,s.2,x.1.2.2.2),x.2))
  (fun x s=>by simp only[B,mC,mB,mS,mO,mN];kernel_rfl)
end Xg5
namespace Xgn
def pts:List PT:=[.cs (.sl SB),.cs I64]
def FS:FS:=Ybk [.sh,.sh] pts (fun x=>Xgn x.1 x.2.1) fun t=>⟨[.cs I64 t],[]⟩
theorem ok:Yb2 PR 45 FS:=
 Yxn Xe Xd Proofs.Tryz.f45 h0 (.R (.R (.R (.L (.R (.one (.fr 0))))))) (G:=G) Gok (L:=mkL [(0,Xg5.fr)]) (l:=[(0,.loop Xg5.c)]) ⟨Lam.cons Xg5.ok,trivial⟩
  (fun x=>by simp only[Xgn,mC,mB,mS,mO,mN];kernel_rfl)
end Xgn
def Xje (a:Fs_) (left:Int):Option Int:=
 (Xgf a.1 left).bind fun r=>cond (decide (r<0)) (some (-1)) ((Xgn a.2.1 r).bind fun r2=>cond (decide (r2<0)) (some (-1)) (some r2))
namespace Xje
def G:Gam:=mkG [(44,Xgf.FS),(45,Xgn.FS)]
def pts:List PT:=[.cs Xn,.cs I64]
def FS:FS:=Ybk [.sh,.sh] pts (fun x=>Xje x.1 x.2.1) fun t=>⟨[.cs I64 t],[]⟩
theorem ok:Yb2 PR 8 FS:=
 Yxn Xe Xd Proofs.Tryz.f8 ⟨[2],[],[],0⟩ .no (G:=G) (show GOk PR G from .cons Xgf.ok (.cons Xgn.ok .nil)) (L:=mkL []) (l:=[]) hT
  (fun x=>by simp only[Xje,mC,mB,mS,mO,mN];kernel_rfl)
end Xje
def Xgh.B (a:List Int) (i_:Int) (out_:List Int):Option ((Int×List Int)⊕(List Int)):=
 cond (decide (i_<(a.length:Int))) (cond (inB i_ a.length) (cond (inB i_ out_.length) (some (.inl (w64 (i_+1),out_.set i_.toNat (a.getD i_.toNat 0)))) none) none) (some (.inr out_))
def Xgh (a:List Int):(Int×List Int)→Option (List Int):=
 Y9 fun s=>Xgh.B a s.1 s.2
def Xev (a:List Int):Option (List Int):=
 cond (decide ((0:Int)≤(a.length:Int))&&(decide ((a.length:Int)≤(a.length:Int))&&decide ((a.length:Int)≤2147483648))) ((Xgh a (0,List.replicate (a.length:Int).toNat 0)).bind fun o=>some o) none
namespace Xgh
def c:=Yap (Yaf Proofs.Tryz.f105) [1,1,0,1,0,0]
def sp:SP:=⟨[(0,.cs SI),(3,.seg 3 []),(4,.cs I64)],[(3,.reg,.cd SI)]⟩
def fr:=Yja sp (fun x s=>Xgh.B x.1.1 s.1 s.2) (fun x=>(x.1.2.2.1,x.2.1)) fun x (bb0:List Int) _ kk0=>kk0 (.ex 0) ⟨[(3,.seg 3 [])],[sr 3 (.cd SI bb0)]⟩
theorem ok:Ya7 PR 22 1 (.loop c) fr:=
 Yxd Xe Xd h0 [(0,([3],[3]))] (fun x s=>((x.1.1,x.1.2.1,s.1,x.1.2.2.2),(s.2,x.2.2)))
  (fun x s=>by simp only[B,mC,mB,mS,mO,mN];kernel_rfl)
end Xgh
namespace Xev
def pts:List PT:=[.cs SI]
def FS:FS:=Ybk [.sh] pts (fun x=>Xev x.1) fun t=>⟨[.cd SI t],[]⟩
theorem ok:Yb2 PR 105 FS:=
 Yxn Xe Xd Proofs.Tryz.f105 h0 (.R (.R (.L (.R (.one (.fr 0)))))) (G:=(mkG [])) .nil (L:=mkL [(0,Xgh.fr)]) (l:=[(0,.loop Xgh.c)]) ⟨Lam.cons Xgh.ok,trivial⟩
  (fun x=>by simp only[Xev,mC,mB,mS,mO,mN];kernel_rfl)
end Xev
def Xgy.B (a:List (List Int)) (i_:Int) (out_:List (List Int)):Option ((Int×List (List Int))⊕(List (List Int))):=
 cond (decide (i_<(a.length:Int))) (cond (inB i_ a.length) ((Xev (a.getD i_.toNat [])).bind fun r=>cond (inB i_ out_.length) (some (.inl (w64 (i_+1),out_.set i_.toNat r))) none) none) (some (.inr out_))
def Xgy (a:List (List Int)):(Int×List (List Int))→Option (List (List Int)):=
 Y9 fun s=>Xgy.B a s.1 s.2
def Xf4 (a:List (List Int)):Option (List (List Int)):=
 cond (decide ((0:Int)≤(a.length:Int))&&(decide ((a.length:Int)≤(a.length:Int))&&decide ((a.length:Int)≤2147483648))) ((some (List.replicate (a.length:Int).toNat ([]:List Int))).bind fun v=>(Xgy a (0,v)).bind fun o=>some o) none
namespace Xf4
def G:Gam:=mkG [(105,Xev.FS)]
theorem Gok:GOk PR G:=.cons Xev.ok .nil
end Xf4
namespace Xgy
def c:=Yap (Yaf Proofs.Tryz.f49) [1,1,0,1,0,0]
def sp:SP:=⟨[(0,.cs (.sl SI)),(3,.seg 3 []),(4,.cs I64)],[(3,.reg,.cd (.sl SI))]⟩
def fr:=Yja sp (fun x s=>Xgy.B x.1.1 s.1 s.2) (fun x=>(x.1.2.2.1,x.2.1)) fun x (bb0:List (List Int)) _ kk0=>kk0 (.ex 0) ⟨[(3,.seg 3 [])],[sr 3 (.cd (.sl SI) bb0)]⟩
theorem ok:Ya7 PR 23 1 (.loop c) fr:=
 Yxo Xe Xd h0 (G:=Xf4.G) Xf4.Gok [(0,([3],[3]))] (fun x s=>((x.1.1,x.1.2.1,s.1,x.1.2.2.2),(s.2,x.2.2)))
  (fun x s=>by simp only[B,mC,mB,mS,mO,mN];kernel_rfl)
end Xgy
namespace Xf4
def pts:List PT:=[.cs (.sl SI)]
def FS:FS:=Ybk [.sh] pts (fun x=>Xf4 x.1) fun t=>⟨[.cd (.sl SI) t],[]⟩
theorem ok:Yb2 PR 49 FS:=
 Yxn Xe Xd Proofs.Tryz.f49 h0 (.R (.R (.L (.R (.one (.fr 0)))))) (G:=G) Gok (L:=mkL [(0,Xgy.fr)]) (l:=[(0,.loop Xgy.c)]) ⟨Lam.cons Xgy.ok,trivial⟩
  (fun x=>by simp only[Xf4,mC,mB,mS,mO,mN];kernel_rfl)
end Xf4
def Xiy (a:Xg):Option Xg:=
 (Xev a.2.1).bind fun r=>some (a.1,r,())
namespace Xiy
def G:Gam:=mkG [(105,Xev.FS)]
def pts:List PT:=[.cs Xi]
def FS:FS:=Ybk [.sh] pts (fun x=>Xiy x.1) fun t=>⟨[.cd Xi t],[]⟩
theorem ok:Yb2 PR 106 FS:=
 Yxn Xe Xd Proofs.Tryz.f106 ⟨[1],[],[],0⟩ .no (G:=G) (show GOk PR G from .cons Xev.ok .nil) (L:=mkL []) (l:=[]) hT
  (fun x=>by simp only[Xiy,mC,mB,mS,mO,mN];kernel_rfl)
end Xiy
def Xgx.B (a:List Xg) (i_:Int) (out_:List Xg):Option ((Int×List Xg)⊕(List Xg)):=
 cond (decide (i_<(a.length:Int))) (cond (inB i_ a.length) ((Xiy (a.getD i_.toNat Xq)).bind fun r=>cond (inB i_ out_.length) (some (.inl (w64 (i_+1),out_.set i_.toNat (r.1,r.2.1,r.2.2)))) none) none) (some (.inr out_))
def Xgx (a:List Xg):(Int×List Xg)→Option (List Xg):=
 Y9 fun s=>Xgx.B a s.1 s.2
def Xgc (a:List Xg):Option (List Xg):=
 cond (decide ((0:Int)≤(a.length:Int))&&(decide ((a.length:Int)≤(a.length:Int))&&decide ((a.length:Int)≤2147483648))) ((Xgx a (0,List.replicate (a.length:Int).toNat Xq)).bind fun o=>some o) none
namespace Xgc
def G:Gam:=mkG [(106,Xiy.FS)]
theorem Gok:GOk PR G:=.cons Xiy.ok .nil
end Xgc
namespace Xgx
def c:=Yap (Yaf Proofs.Tryz.f50) [1,1,0,1,0,0]
def sp:SP:=⟨[(0,.cs (.sl Xi)),(3,.seg 3 []),(4,.cs I64)],[(3,.reg,.cd (.sl Xi))]⟩
def fr:=Yja sp (fun x s=>Xgx.B x.1.1 s.1 s.2) (fun x=>(x.1.2.2.1,x.2.1)) fun x (bb0:List Xg) _ kk0=>kk0 (.ex 0) ⟨[(3,.seg 3 [])],[sr 3 (.cd (.sl Xi) bb0)]⟩
theorem ok:Ya7 PR 23 1 (.loop c) fr:=
 Yxo Xe Xd h0 (G:=Xgc.G) Xgc.Gok [(0,([3],[3]))] (fun x s=>((x.1.1,x.1.2.1,s.1,x.1.2.2.2),(s.2,x.2.2)))
  (fun x s=>by simp only[B,mC,mB,mS,mO,mN];kernel_rfl)
end Xgx
namespace Xgc
def pts:List PT:=[.cs (.sl Xi)]
def FS:FS:=Ybk [.sh] pts (fun x=>Xgc x.1) fun t=>⟨[.cd (.sl Xi) t],[]⟩
theorem ok:Yb2 PR 50 FS:=
 Yxn Xe Xd Proofs.Tryz.f50 h0 (.R (.R (.L (.R (.one (.fr 0)))))) (G:=G) Gok (L:=mkL [(0,Xgx.fr)]) (l:=[(0,.loop Xgx.c)]) ⟨Lam.cons Xgx.ok,trivial⟩
  (fun x=>by simp only[Xgc,mC,mB,mS,mO,mN];kernel_rfl)
end Xgc
def Xhy (a:Xk):Option Xk:=
 (Xf4 a.1).bind fun r=>(Xgc a.2.1).bind fun r2=>some (r,r2,())
namespace Xhy
def G:Gam:=mkG [(49,Xf4.FS),(50,Xgc.FS)]
def pts:List PT:=[.cs Xj]
def FS:FS:=Ybk [.sh] pts (fun x=>Xhy x.1) fun t=>⟨[.cd Xj t],[]⟩
theorem ok:Yb2 PR 10 FS:=
 Yxn Xe Xd Proofs.Tryz.f10 ⟨[1],[],[],0⟩ .no (G:=G) (show GOk PR G from .cons Xf4.ok (.cons Xgc.ok .nil)) (L:=mkL []) (l:=[]) hT
  (fun x=>by simp only[Xhy,mC,mB,mS,mO,mN];kernel_rfl)
end Xhy
def Xjg (a:Xf):Option Xf:=
 some (a.1,a.2.1,())
namespace Xjg
def pts:List PT:=[.cs Xh]
def FS:FS:=Ybk [.sh] pts (fun x=>Xjg x.1) fun t=>⟨[.cs Xh t],[]⟩
theorem ok:Yb2 PR 221 FS:=
 Yxn Xe Xd Proofs.Tryz.f221 ⟨[1],[],[],0⟩ .no (G:=(mkG [])) .nil (L:=mkL []) (l:=[]) hT
  (fun x=>by simp only[Xjg,mC,mB,mS,mO,mN];kernel_rfl)
end Xjg
def Xgs.B (a:List Xf) (i_:Int) (out_:List Xf):Option ((Int×List Xf)⊕(List Xf)):=
 cond (decide (i_<(a.length:Int))) (cond (inB i_ a.length) ((Xjg (a.getD i_.toNat Xo)).bind fun r=>cond (inB i_ out_.length) (some (.inl (w64 (i_+1),out_.set i_.toNat r))) none) none) (some (.inr out_))
def Xgs (a:List Xf):(Int×List Xf)→Option (List Xf):=
 Y9 fun s=>Xgs.B a s.1 s.2
def Xg1 (a:List Xf):Option (List Xf):=
 cond (decide ((0:Int)≤(a.length:Int))&&(decide ((a.length:Int)≤(a.length:Int))&&decide ((a.length:Int)≤2147483648))) ((Xgs a (0,List.replicate (a.length:Int).toNat Xo)).bind fun o=>some o) none
namespace Xg1
def G:Gam:=mkG [(221,Xjg.FS)]
theorem Gok:GOk PR G:=.cons Xjg.ok .nil
end Xg1
namespace Xgs
def c:=Yap (Yaf Proofs.Tryz.f177) [1,1,0,1,0,0]
def sp:SP:=⟨[(0,.cs (.sl Xh)),(3,.seg 3 []),(4,.cs I64)],[(3,.reg,.cd (.sl Xh))]⟩
def fr:=Yja sp (fun x s=>Xgs.B x.1.1 s.1 s.2) (fun x=>(x.1.2.2.1,x.2.1)) fun x (bb0:List Xf) _ kk0=>kk0 (.ex 0) ⟨[(3,.seg 3 [])],[sr 3 (.cd (.sl Xh) bb0)]⟩
theorem ok:Ya7 PR 23 1 (.loop c) fr:=
 Yxo Xe Xd h0 (G:=Xg1.G) Xg1.Gok [(0,([3],[3]))] (fun x s=>((x.1.1,x.1.2.1,s.1,x.1.2.2.2),(s.2,x.2.2)))
  (fun x s=>by simp only[B,mC,mB,mS,mO,mN];kernel_rfl)
end Xgs
namespace Xg1
def pts:List PT:=[.cs (.sl Xh)]
def FS:FS:=Ybk [.sh] pts (fun x=>Xg1 x.1) fun t=>⟨[.cd (.sl Xh) t],[]⟩
theorem ok:Yb2 PR 177 FS:=
 Yxn Xe Xd Proofs.Tryz.f177 h0 (.R (.R (.L (.R (.one (.fr 0)))))) (G:=G) Gok (L:=mkL [(0,Xgs.fr)]) (l:=[(0,.loop Xgs.c)]) ⟨Lam.cons Xgs.ok,trivial⟩
  (fun x=>by simp only[Xg1,mC,mB,mS,mO,mN];kernel_rfl)
end Xg1
def Xjc (a:Xa):Option Xa:=
 (Xev a.2.2.2.1).bind fun r=>(Xg1 a.2.2.2.2.1).bind fun r2=>some (a.1,a.2.1,a.2.2.1,r,r2,())
namespace Xjc
def G:Gam:=mkG [(105,Xev.FS),(177,Xg1.FS)]
def pts:List PT:=[.cs Xc]
def FS:FS:=Ybk [.sh] pts (fun x=>Xjc x.1) fun t=>⟨[.cd Xc t],[]⟩
theorem ok:Yb2 PR 107 FS:=
 Yxn Xe Xd Proofs.Tryz.f107 ⟨[1],[],[],0⟩ .no (G:=G) (show GOk PR G from .cons Xev.ok (.cons Xg1.ok .nil)) (L:=mkL []) (l:=[]) hT
  (fun x=>by simp only[Xjc,mC,mB,mS,mO,mN];kernel_rfl)
end Xjc
def Xf6.B (a:List Xa) (i_:Int) (out_:List Xa):Option ((Int×List Xa)⊕(List Xa)):=
 cond (decide (i_<(a.length:Int))) (cond (inB i_ a.length) ((Xjc (a.getD i_.toNat Xb)).bind fun r=>cond (inB i_ out_.length) ((some (out_.set i_.toNat (r.1,r.2.1,r.2.2.1,r.2.2.2.1,r.2.2.2.2.1,r.2.2.2.2.2))).bind fun out_2=>some (.inl (w64 (i_+1),out_2))) none) none) (some (.inr out_))
def Xf6 (a:List Xa):(Int×List Xa)→Option (List Xa):=
 Y9 fun s=>Xf6.B a s.1 s.2
def Xgz (a:List Xa):Option (List Xa):=
 cond (decide ((0:Int)≤(a.length:Int))&&(decide ((a.length:Int)≤(a.length:Int))&&decide ((a.length:Int)≤2147483648))) ((Xf6 a (0,List.replicate (a.length:Int).toNat Xb)).bind fun o=>some o) none
namespace Xgz
def G:Gam:=mkG [(107,Xjc.FS)]
theorem Gok:GOk PR G:=.cons Xjc.ok .nil
end Xgz
namespace Xf6
def c:=Yap (Yaf Proofs.Tryz.f51) [1,1,0,1,0,0]
def sp:SP:=⟨[(0,.cs (.sl Xc)),(3,.seg 3 []),(4,.cs I64)],[(3,.reg,.cd (.sl Xc))]⟩
def fr:=Yja sp (fun x s=>Xf6.B x.1.1 s.1 s.2) (fun x=>(x.1.2.2.1,x.2.1)) fun x (bb0:List Xa) _ kk0=>kk0 (.ex 0) ⟨[(3,.seg 3 [])],[sr 3 (.cd (.sl Xc) bb0)]⟩
theorem ok:Ya7 PR 23 1 (.loop c) fr:=
 Yxo Xe Xd h0 (G:=Xgz.G) Xgz.Gok [(0,([3],[3]))] (fun x s=>((x.1.1,x.1.2.1,s.1,x.1.2.2.2),(s.2,x.2.2)))
  (fun x s=>by simp only[B,mC,mB,mS,mO,mN];kernel_rfl)
end Xf6
namespace Xgz
def pts:List PT:=[.cs (.sl Xc)]
def FS:FS:=Ybk [.sh] pts (fun x=>Xgz x.1) fun t=>⟨[.cd (.sl Xc) t],[]⟩
theorem ok:Yb2 PR 51 FS:=
 Yxn Xe Xd Proofs.Tryz.f51 h0 (.R (.R (.L (.R (.one (.fr 0)))))) (G:=G) Gok (L:=mkL [(0,Xf6.fr)]) (l:=[(0,.loop Xf6.c)]) ⟨Lam.cons Xf6.ok,trivial⟩
  (fun x=>by simp only[Xgz,mC,mB,mS,mO,mN];kernel_rfl)
end Xgz
def Xga.B (a:List Int) (i_:Int) (out_:List Int):Option ((Int×List Int)⊕(List Int)):=
 cond (decide (i_<(a.length:Int))) (cond (inB i_ a.length) (cond (inB i_ out_.length) (some (.inl (w64 (i_+1),out_.set i_.toNat (a.getD i_.toNat 0)))) none) none) (some (.inr out_))
def Xga (a:List Int):(Int×List Int)→Option (List Int):=
 Y9 fun s=>Xga.B a s.1 s.2
def Xiu (a:List Int):Option (List Int):=
 cond (decide ((0:Int)≤(a.length:Int))&&(decide ((a.length:Int)≤(a.length:Int))&&decide ((a.length:Int)≤2147483648))) ((Xga a (0,List.replicate (a.length:Int).toNat 0)).bind fun o=>some o) none
namespace Xga
def c:=Yap (Yaf Proofs.Tryz.f108) [1,1,0,1,0,0]
def sp:SP:=⟨[(0,.cs SB),(3,.seg 3 []),(4,.cs I64)],[(3,.reg,.cd SB)]⟩
def fr:=Yja sp (fun x s=>Xga.B x.1.1 s.1 s.2) (fun x=>(x.1.2.2.1,x.2.1)) fun x (bb0:List Int) _ kk0=>kk0 (.ex 0) ⟨[(3,.seg 3 [])],[sr 3 (.cd SB bb0)]⟩
theorem ok:Ya7 PR 22 1 (.loop c) fr:=
 Yxd Xe Xd h0 [(0,([3],[3]))] (fun x s=>((x.1.1,x.1.2.1,s.1,x.1.2.2.2),(s.2,x.2.2)))
  (fun x s=>by simp only[B,mC,mB,mS,mO,mN];kernel_rfl)
end Xga
namespace Xiu
def pts:List PT:=[.cs SB]
def FS:FS:=Ybk [.sh] pts (fun x=>Xiu x.1) fun t=>⟨[.cd SB t],[]⟩
theorem ok:Yb2 PR 108 FS:=
 Yxn Xe Xd Proofs.Tryz.f108 h0 (.R (.R (.L (.R (.one (.fr 0)))))) (G:=(mkG [])) .nil (L:=mkL [(0,Xga.fr)]) (l:=[(0,.loop Xga.c)]) ⟨Lam.cons Xga.ok,trivial⟩
  (fun x=>by simp only[Xiu,mC,mB,mS,mO,mN];kernel_rfl)
end Xiu
def Xgw.B (a:List (List Int)) (i_:Int) (out_:List (List Int)):Option ((Int×List (List Int))⊕(List (List Int))):=
 cond (decide (i_<(a.length:Int))) (cond (inB i_ a.length) ((Xiu (a.getD i_.toNat [])).bind fun r=>cond (inB i_ out_.length) (some (.inl (w64 (i_+1),out_.set i_.toNat r))) none) none) (some (.inr out_))
def Xgw (a:List (List Int)):(Int×List (List Int))→Option (List (List Int)):=
 Y9 fun s=>Xgw.B a s.1 s.2
def Xf5 (a:List (List Int)):Option (List (List Int)):=
 cond (decide ((0:Int)≤(a.length:Int))&&(decide ((a.length:Int)≤(a.length:Int))&&decide ((a.length:Int)≤2147483648))) ((some (List.replicate (a.length:Int).toNat ([]:List Int))).bind fun v=>(Xgw a (0,v)).bind fun o=>some o) none
namespace Xf5
def G:Gam:=mkG [(108,Xiu.FS)]
theorem Gok:GOk PR G:=.cons Xiu.ok .nil
end Xf5
namespace Xgw
def c:=Yap (Yaf Proofs.Tryz.f52) [1,1,0,1,0,0]
def sp:SP:=⟨[(0,.cs (.sl SB)),(3,.seg 3 []),(4,.cs I64)],[(3,.reg,.cd (.sl SB))]⟩
def fr:=Yja sp (fun x s=>Xgw.B x.1.1 s.1 s.2) (fun x=>(x.1.2.2.1,x.2.1)) fun x (bb0:List (List Int)) _ kk0=>kk0 (.ex 0) ⟨[(3,.seg 3 [])],[sr 3 (.cd (.sl SB) bb0)]⟩
theorem ok:Ya7 PR 23 1 (.loop c) fr:=
 Yxo Xe Xd h0 (G:=Xf5.G) Xf5.Gok [(0,([3],[3]))] (fun x s=>((x.1.1,x.1.2.1,s.1,x.1.2.2.2),(s.2,x.2.2)))
  (fun x s=>by simp only[B,mC,mB,mS,mO,mN];kernel_rfl)
end Xgw
namespace Xf5
def pts:List PT:=[.cs (.sl SB)]
def FS:FS:=Ybk [.sh] pts (fun x=>Xf5 x.1) fun t=>⟨[.cd (.sl SB) t],[]⟩
theorem ok:Yb2 PR 52 FS:=
 Yxn Xe Xd Proofs.Tryz.f52 h0 (.R (.R (.L (.R (.one (.fr 0)))))) (G:=G) Gok (L:=mkL [(0,Xgw.fr)]) (l:=[(0,.loop Xgw.c)]) ⟨Lam.cons Xgw.ok,trivial⟩
  (fun x=>by simp only[Xf5,mC,mB,mS,mO,mN];kernel_rfl)
end Xf5
def Xhu (a:Fs_):Option Fs_:=
 (Xgz a.1).bind fun r=>(Xf5 a.2.1).bind fun r2=>some (r,r2,())
namespace Xhu
def G:Gam:=mkG [(51,Xgz.FS),(52,Xf5.FS)]
def pts:List PT:=[.cs Xn]
def FS:FS:=Ybk [.sh] pts (fun x=>Xhu x.1) fun t=>⟨[.cd Xn t],[]⟩
theorem ok:Yb2 PR 11 FS:=
 Yxn Xe Xd Proofs.Tryz.f11 ⟨[1],[],[],0⟩ .no (G:=G) (show GOk PR G from .cons Xgz.ok (.cons Xf5.ok .nil)) (L:=mkL []) (l:=[]) hT
  (fun x=>by simp only[Xhu,mC,mB,mS,mO,mN];kernel_rfl)
end Xhu
def Xah (v:Int) (v2:Int) (v3:Int):Option Bool:=
 some (cond (decide (v≥v2)) (decide (v≤v3)) false)
namespace Xah
def pts:List PT:=[.cs I64,.cs I64,.cs I64]
def FS:FS:=Ybk [.sh,.sh,.sh] pts (fun x=>Xah x.1 x.2.1 x.2.2.1) fun t=>⟨[.cs .bool t],[]⟩
theorem ok:Yb2 PR 144 FS:=
 Yxn Xe Xd Proofs.Tryz.f144 h0 .no (G:=(mkG [])) .nil (L:=mkL []) (l:=[]) hT
  (fun x=>by simp only[Xah,mC,mB,mS,mO,mN];kernel_rfl)
end Xah
def Xh3.B (v:List Int) (v2:Int):Option (Int⊕((Int⊕Unit))):=
 cond (decide (v2<(v.length:Int))) (cond (inB v2 v.length) ((Xah (v.getD v2.toNat 0) 0 65535).bind fun v3=>cond (!v3) (some (.inr (.inl 3))) (some (.inl (w64 (v2+1))))) none) (some (.inr (.inr ())))
def Xh3 (v:List Int):Int→Option ((Int⊕Unit)):=
 Y9 fun s=>Xh3.B v s
def Xe5 (v:List Int):Option Int:=
 cond (decide ((v.length:Int)>64)) (some 2) ((Xh3 v 0).bind fun v4=>sel v4 (fun v5=>some v5) (fun v6=>some 0))
namespace Xe5
def G:Gam:=mkG [(144,Xah.FS)]
theorem Gok:GOk PR G:=.cons Xah.ok .nil
end Xe5
namespace Xh3
def c:=Yap (Yaf Proofs.Tryz.f168) [1,1,0,1,0,0]
def sp:SP:=⟨[(0,.cs SI),(3,.cs I64)],[]⟩
def fr:=Yja sp (fun x s=>Xh3.B x.1.1 s) (fun x=>x.1.2.1) fun x (oo0:(Int⊕Unit)) _ kk0=>sel oo0 (fun bb0=>kk0 (.rt) ⟨[(2,.cs I64 bb0)],[]⟩) (fun cc0=>kk0 (.ex 0) ⟨[],[]⟩)
theorem ok:Ya7 PR 19 1 (.loop c) fr:=
 Yt2 Xe Xd h0 .no (G:=Xe5.G) Xe5.Gok (L:=mkL []) (l:=[]) hT [(0,([],[]))] ([2],[]) (fun x s=>((x.1.1,s,x.1.2.2),x.2))
  (fun x s=>by simp only[B,mC,mB,mS,mO,mN];kernel_rfl)
end Xh3
namespace Xe5
def pts:List PT:=[.cs SI]
def FS:FS:=Ybk [.sh] pts (fun x=>Xe5 x.1) fun t=>⟨[.cs I64 t],[]⟩
theorem ok:Yb2 PR 168 FS:=
 Yxn Xe Xd Proofs.Tryz.f168 h0 (.R (.R (.L (.R (.one (.fr 0)))))) (G:=G) Gok (L:=mkL [(0,Xh3.fr)]) (l:=[(0,.loop Xh3.c)]) ⟨Lam.cons Xh3.ok,trivial⟩
  (fun x=>by simp only[Xe5,mC,mB,mS,mO,mN];kernel_rfl)
end Xe5
def Xh5.B (v:Xk) (v3:Int):Option (Int⊕((Int⊕Unit))):=
 cond (decide (v3<(v.1.length:Int))) (cond (inB v3 v.1.length) ((Xe5 (v.1.getD v3.toNat [])).bind fun v4=>cond (v4 != 0) (some (.inr (.inl v4))) (some (.inl (w64 (v3+1))))) none) (some (.inr (.inr ())))
def Xh5 (v:Xk):Int→Option ((Int⊕Unit)):=
 Y9 fun s=>Xh5.B v s
def Xhr.B (v:Xk) (v8:Int):Option (Int⊕((Int⊕Unit))):=
 cond (decide (v8<(v.2.1.length:Int))) (cond (inB v8 v.2.1.length) ((Xah (v.2.1.getD v8.toNat Xq).1 0 (w64 ((v.1.length:Int)-1))).bind fun v9=>cond (!v9) (some (.inr (.inl 3))) (cond (inB v8 v.2.1.length) ((Xe5 (v.2.1.getD v8.toNat Xq).2.1).bind fun v10=>cond (v10 != 0) (some (.inr (.inl v10))) (some (.inl (w64 (v8+1))))) none)) none) (some (.inr (.inr ())))
def Xhr (v:Xk):Int→Option ((Int⊕Unit)):=
 Y9 fun s=>Xhr.B v s
def Xer (v:Xk):Option Int:=
 (some (cond (decide ((v.1.length:Int)>60)) true (decide ((v.2.1.length:Int)>200)))).bind fun v2=>cond v2 (some 2) ((Xh5 v 0).bind fun v5=>sel v5 (fun v6=>some v6) (fun v7=>(Xhr v 0).bind fun v11=>sel v11 (fun v12=>some v12) (fun v13=>some 0)))
namespace Xer
def G:Gam:=mkG [(168,Xe5.FS),(144,Xah.FS)]
theorem Gok:GOk PR G:=.cons Xe5.ok (.cons Xah.ok .nil)
end Xer
namespace Xh5
def c:=Yap (Yaf Proofs.Tryz.f93) [1,1,0,1,0,0]
def sp:SP:=⟨[(0,.pt Xj),(3,.cs I64)],[]⟩
def fr:=Yja sp (fun x s=>Xh5.B x.1.1 s) (fun x=>x.1.2.1) fun x (oo0:(Int⊕Unit)) _ kk0=>sel oo0 (fun bb0=>kk0 (.rt) ⟨[(2,.cs I64 bb0)],[]⟩) (fun cc0=>kk0 (.ex 0) ⟨[(0,.pt Xj x.1.1)],[]⟩)
theorem ok:Ya7 PR 78 1 (.loop c) fr:=
 Yt2 Xe Xd h0 .no (G:=Xer.G) Xer.Gok (L:=mkL []) (l:=[]) hT [(0,([0],[]))] ([2],[]) (fun x s=>((x.1.1,s,x.1.2.2),x.2))
  (fun x s=>by simp only[B,mC,mB,mS,mO,mN];kernel_rfl)
end Xh5
namespace Xhr
def c:=Yap (Yaf Proofs.Tryz.f93) [1,1,1,0,1,0,0]
def sp:SP:=⟨[(0,.pt Xj),(5,.cs I64)],[]⟩
def fr:=Yja sp (fun x s=>Xhr.B x.1.1 s) (fun x=>x.1.2.1) fun x (oo0:(Int⊕Unit)) _ kk0=>sel oo0 (fun bb0=>kk0 (.rt) ⟨[(2,.cs I64 bb0)],[]⟩) (fun cc0=>kk0 (.ex 2) ⟨[],[]⟩)
theorem ok:Ya7 PR 78 1 (.loop c) fr:=
 Yt2 Xe Xd h0 .no (G:=Xer.G) Xer.Gok (L:=mkL []) (l:=[]) hT [(2,([],[]))] ([2],[]) (fun x s=>((x.1.1,s,x.1.2.2),x.2))
  (fun x s=>by simp only[B,mC,mB,mS,mO,mN];kernel_rfl)
end Xhr
namespace Xer
def pts:List PT:=[.pt Xj]
def FS:FS:=Ybk [.sh] pts (fun x=>Xer x.1) fun t=>⟨[.cs I64 t],[]⟩
theorem ok:Yb2 PR 93 FS:=
 Yxn Xe Xd Proofs.Tryz.f93 h0 (.R (.R (.two (.R (.one (.fr 0))) (.L (.R (.one (.fr 1))))))) (G:=G) Gok (L:=mkL [(0,Xh5.fr),(1,Xhr.fr)]) (l:=[(0,.loop Xh5.c),(1,.loop Xhr.c)]) ⟨Lam.cons Xh5.ok,Lam.skip rfl (Lam.cons Xhr.ok),trivial⟩
  (fun x=>by simp only[Xer,mC,mB,mS,mO,mN];kernel_rfl)
end Xer
def Xc7.B (v:Xk) (v2:Int) (v3:Int):Option (Int⊕(((List Int)⊕Unit))):=
 cond (decide (v3≥0)) (cond (inB v3 v.2.1.length) (cond ((v.2.1.getD v3.toNat Xq).1 == v2) (cond (inB v3 v.2.1.length) (some (.inr (.inl (v.2.1.getD v3.toNat Xq).2.1))) none) (some (.inl (w64 (v3-1))))) none) (some (.inr (.inr ())))
def Xc7 (v:Xk) (v2:Int):Int→Option (((List Int)⊕Unit)):=
 Y9 fun s=>Xc7.B v v2 s
def Xh4 (v:Xk) (v2:Int):Option (List Int):=
 (Xc7 v v2 (w64 ((v.2.1.length:Int)-1))).bind fun v4=>sel v4 (fun v5=>some v5) (fun v6=>cond (inB v2 v.1.length) (some (v.1.getD v2.toNat [])) none)
namespace Xc7
def c:=Yap (Yaf Proofs.Tryz.f94) [1,0,1,0,0]
def sp:SP:=⟨[(0,.pt Xj),(1,.cs I64),(5,.cs I64)],[]⟩
def fr:=Yja sp (fun x s=>Xc7.B x.1.1 x.1.2.1 s) (fun x=>x.1.2.2.1) fun x (oo0:((List Int)⊕Unit)) _ kk0=>sel oo0 (fun bb0=>kk0 (.rt) ⟨[(4,.cs SI bb0)],[]⟩) (fun cc0=>kk0 (.ex 0) ⟨[(0,.pt Xj x.1.1),(1,.cs I64 x.1.2.1)],[]⟩)
theorem ok:Ya7 PR 41 2 (.loop c) fr:=
 Yt2 Xe Xd h0 .no (G:=(mkG [])) .nil (L:=mkL []) (l:=[]) hT [(0,([0,1],[]))] ([4],[]) (fun x s=>((x.1.1,x.1.2.1,s,x.1.2.2.2),x.2))
  (fun x s=>by simp only[B,mC,mB,mS,mO,mN];kernel_rfl)
end Xc7
namespace Xh4
def pts:List PT:=[.pt Xj,.cs I64]
def FS:FS:=Ybk [.sh,.sh] pts (fun x=>Xh4 x.1 x.2.1) fun t=>⟨[.cs SI t],[]⟩
theorem ok:Yb2 PR 94 FS:=
 Yxn Xe Xd Proofs.Tryz.f94 h0 (.R (.L (.R (.one (.fr 0))))) (G:=(mkG [])) .nil (L:=mkL [(0,Xc7.fr)]) (l:=[(0,.loop Xc7.c)]) ⟨Lam.cons Xc7.ok,trivial⟩
  (fun x=>by simp only[Xh4,mC,mB,mS,mO,mN];kernel_rfl)
end Xh4
def Xjt (v:Int):Option Bool:=
 (Xah v 1 60000).bind fun v2=>some v2
namespace Xjt
def G:Gam:=mkG [(144,Xah.FS)]
def pts:List PT:=[.cs I64]
def FS:FS:=Ybk [.sh] pts (fun x=>Xjt x.1) fun t=>⟨[.cs .bool t],[]⟩
theorem ok:Yb2 PR 95 FS:=
 Yxn Xe Xd Proofs.Tryz.f95 h0 .no (G:=G) (show GOk PR G from .cons Xah.ok .nil) (L:=mkL []) (l:=[]) hT
  (fun x=>by simp only[Xjt,mC,mB,mS,mO,mN];kernel_rfl)
end Xjt
def Xjb (v:Xk):Option Xia:=
 (Xer v).bind fun v2=>cond (v2 != 0) (some (v2,0,())) (cond ((v.1.length:Int) != 47) (some (1,0,())) ((Xh4 v 0).bind fun v3=>cond (cond (!((v3.length:Int) != 2)) (inB 0 v3.length) true) ((some (cond ((v3.length:Int) != 2) true ((v3.getD (0:Int).toNat 0) != 7))).bind fun v4=>cond v4 (some (5,0,())) (cond (inB 1 v3.length) ((Xjt (v3.getD (1:Int).toNat 0)).bind fun v5=>cond (!v5) (some (5,0,())) (cond (inB 1 v3.length) (some (0,v3.getD (1:Int).toNat 0,())) none)) none)) none))
namespace Xjb
def G:Gam:=mkG [(93,Xer.FS),(94,Xh4.FS),(95,Xjt.FS)]
def pts:List PT:=[.cs Xj]
def FS:FS:=Ybk [.sh] pts (fun x=>Xjb x.1) fun t=>⟨[.cs Xdy t],[]⟩
theorem ok:Yb2 PR 46 FS:=
 Yxn Xe Xd Proofs.Tryz.f46 ⟨[1],[],[],0⟩ .no (G:=G) (show GOk PR G from .cons Xer.ok (.cons Xh4.ok (.cons Xjt.ok .nil))) (L:=mkL []) (l:=[]) hT
  (fun x=>by simp only[Xjb,mC,mB,mS,mO,mN];kernel_rfl)
end Xjb
def Xjo (v:Int):Option Bool:=
 (Xah v 0 32).bind fun v2=>some v2
namespace Xjo
def G:Gam:=mkG [(144,Xah.FS)]
def pts:List PT:=[.cs I64]
def FS:FS:=Ybk [.sh] pts (fun x=>Xjo x.1) fun t=>⟨[.cs .bool t],[]⟩
theorem ok:Yb2 PR 254 FS:=
 Yxn Xe Xd Proofs.Tryz.f254 h0 .no (G:=G) (show GOk PR G from .cons Xah.ok .nil) (L:=mkL []) (l:=[]) hT
  (fun x=>by simp only[Xjo,mC,mB,mS,mO,mN];kernel_rfl)
end Xjo
def Xjp (v:Int):Option Int:=
 cond (!((8:Int) == 0)) (some (w64 ((w64 ((w64 (v+8))-1)).tdiv 8))) none
namespace Xjp
def pts:List PT:=[.cs I64]
def FS:FS:=Ybk [.sh] pts (fun x=>Xjp x.1) fun t=>⟨[.cs I64 t],[]⟩
theorem ok:Yb2 PR 255 FS:=
 Yxn Xe Xd Proofs.Tryz.f255 h0 .no (G:=(mkG [])) .nil (L:=mkL []) (l:=[]) hT
  (fun x=>by simp only[Xjp,mC,mB,mS,mO,mN];kernel_rfl)
end Xjp
def Xh2.B (v:Xa) (v5:Int):Option (Int⊕((Int⊕Unit))):=
 cond (decide (v5<(v.2.2.2.1.length:Int))) (cond (inB v5 v.2.2.2.1.length) ((Xah (v.2.2.2.1.getD v5.toNat 0) 0 19).bind fun v6=>cond (!v6) (some (.inr (.inl 3))) (some (.inl (w64 (v5+1))))) none) (some (.inr (.inr ())))
def Xh2 (v:Xa):Int→Option ((Int⊕Unit)):=
 Y9 fun s=>Xh2.B v s
def Xfr.B (v:Xa) (v10:Int) (v11:Int):Option (Int⊕((Int⊕Unit))):=
 cond (decide (v11<v10)) (cond (inB v11 v.2.2.2.1.length) (cond (inB v10 v.2.2.2.1.length) ((some ((v.2.2.2.1.getD v11.toNat 0) == (v.2.2.2.1.getD v10.toNat 0))).bind fun v12=>cond v12 (some (.inr (.inl 7))) (some (.inl (w64 (v11+1))))) none) none) (some (.inr (.inr ())))
def Xfr (v:Xa) (v10:Int):Int→Option ((Int⊕Unit)):=
 Y9 fun s=>Xfr.B v v10 s
def Xgb.B (v:Xa) (v10:Int):Option (Int⊕((Int⊕Unit))):=
 cond (decide (v10<(v.2.2.2.1.length:Int))) ((Xfr v v10 0).bind fun v13=>sel v13 (fun v14=>some (.inr (.inl v14))) (fun v15=>some (.inl (w64 (v10+1))))) (some (.inr (.inr ())))
def Xgb (v:Xa):Int→Option ((Int⊕Unit)):=
 Y9 fun s=>Xgb.B v s
def Xd4 (v:Xa):Option Int:=
 (Xah v.2.1 1 60).bind fun v2=>cond (!v2) (some 3) ((Xjo v.2.2.1).bind fun v3=>cond (!v3) (some 3) ((Xjp v.2.2.1).bind fun v4=>cond ((v.2.2.2.1.length:Int) != v4) (some 1) ((Xh2 v 0).bind fun v7=>sel v7 (fun v8=>some v8) (fun v9=>(Xgb v 0).bind fun v16=>sel v16 (fun v17=>some v17) (fun v18=>some 0)))))
namespace Xd4
def G:Gam:=mkG [(144,Xah.FS),(254,Xjo.FS),(255,Xjp.FS)]
theorem Gok:GOk PR G:=.cons Xah.ok (.cons Xjo.ok (.cons Xjp.ok .nil))
end Xd4
namespace Xh2
def c:=Yap (Yaf Proofs.Tryz.f239) [1,1,1,0,1,0,0]
def sp:SP:=⟨[(0,.pt Xc),(3,.cs I64)],[]⟩
def fr:=Yja sp (fun x s=>Xh2.B x.1.1 s) (fun x=>x.1.2.1) fun x (oo0:(Int⊕Unit)) _ kk0=>sel oo0 (fun bb0=>kk0 (.rt) ⟨[(2,.cs I64 bb0)],[]⟩) (fun cc0=>kk0 (.ex 0) ⟨[(0,.pt Xc x.1.1)],[]⟩)
theorem ok:Ya7 PR 78 1 (.loop c) fr:=
 Yt2 Xe Xd h0 .no (G:=Xd4.G) Xd4.Gok (L:=mkL []) (l:=[]) hT [(0,([0],[]))] ([2],[]) (fun x s=>((x.1.1,s,x.1.2.2),x.2))
  (fun x s=>by simp only[B,mC,mB,mS,mO,mN];kernel_rfl)
end Xh2
namespace Xfr
def c:=Yap (Yaf Proofs.Tryz.f239) [1,1,1,1,0,1,0,0,1,0,0,1,0,0]
def sp:SP:=⟨[(0,.pt Xc),(4,.cs I64),(5,.cs I64)],[]⟩
def fr:=Yja sp (fun x s=>Xfr.B x.1.1 x.1.2.1 s) (fun x=>x.1.2.2.1) fun x (oo0:(Int⊕Unit)) _ kk0=>sel oo0 (fun bb0=>kk0 (.rt) ⟨[(2,.cs I64 bb0)],[]⟩) (fun cc0=>kk0 (.ex 4) ⟨[(0,.pt Xc x.1.1),(4,.cs I64 x.1.2.1)],[]⟩)
theorem ok:Ya7 PR 78 1 (.loop c) fr:=
 Yt2 Xe Xd h0 .no (G:=Xd4.G) Xd4.Gok (L:=mkL []) (l:=[]) hT [(4,([0,4],[]))] ([2],[]) (fun x s=>((x.1.1,x.1.2.1,s,x.1.2.2.2),x.2))
  (fun x s=>by simp only[B,mC,mB,mS,mO,mN];kernel_rfl)
end Xfr
namespace Xgb
def c:=Yap (Yaf Proofs.Tryz.f239) [1,1,1,1,0,1,0,0]
def sp:SP:=⟨[(0,.pt Xc),(4,.cs I64)],[]⟩
def fr:=Yja sp (fun x s=>Xgb.B x.1.1 s) (fun x=>x.1.2.1) fun x (oo0:(Int⊕Unit)) _ kk0=>sel oo0 (fun bb0=>kk0 (.rt) ⟨[(2,.cs I64 bb0)],[]⟩) (fun cc0=>kk0 (.ex 2) ⟨[],[]⟩)
theorem ok:Ya7 PR 78 1 (.loop c) fr:=
 Yt2 Xe Xd h0 (.R (.L (.one (.R (.one (.fr 2)))))) (G:=Xd4.G) Xd4.Gok (L:=mkL [(2,Xfr.fr)]) (l:=[(2,.loop Xfr.c)]) ⟨Lam.cons Xfr.ok,trivial⟩ [(2,([],[]))] ([2],[]) (fun x s=>((x.1.1,s,x.1.2.2),x.2))
  (fun x s=>by simp only[B,mC,mB,mS,mO,mN];kernel_rfl)
end Xgb
namespace Xd4
def pts:List PT:=[.pt Xc]
def FS:FS:=Ybk [.sh] pts (fun x=>Xd4 x.1) fun t=>⟨[.cs I64 t],[]⟩
theorem ok:Yb2 PR 239 FS:=
 Yxn Xe Xd Proofs.Tryz.f239 h0 (.R (.R (.R (.two (.R (.one (.fr 0))) (.L (.R (.one (.fr 1)))))))) (G:=G) Gok (L:=mkL [(0,Xh2.fr),(2,Xfr.fr),(1,Xgb.fr)]) (l:=[(0,.loop Xh2.c),(1,.loop Xgb.c)]) ⟨Lam.cons Xh2.ok,Lam.skip rfl (Lam.skip rfl (Lam.cons Xgb.ok)),trivial⟩
  (fun x=>by simp only[Xd4,mC,mB,mS,mO,mN];kernel_rfl)
end Xd4
def Xhq.B (v:List UInt8) (v2:Int):Option (Int⊕((Int⊕Unit))):=
 cond (decide (v2<(v.length:Int))) (cond (inB v2 v.length) (cond (cond (!(decide (((v.getD v2.toNat 0).toNat:Int)<97))) (inB v2 v.length) true) ((some (cond (decide (((v.getD v2.toNat 0).toNat:Int)<97)) true (decide (((v.getD v2.toNat 0).toNat:Int)>122)))).bind fun v3=>cond v3 (some (.inr (.inl 5))) (some (.inl (w64 (v2+1))))) none) none) (some (.inr (.inr ())))
def Xhq (v:List UInt8):Int→Option ((Int⊕Unit)):=
 Y9 fun s=>Xhq.B v s
def Xjd (v:List UInt8):Option Int:=
 (Xhq v 0).bind fun v4=>sel v4 (fun v5=>some v5) (fun v6=>cond (v == ([]:List UInt8)) (some 5) (cond (decide ((v.length:Int)>4)) (some 2) (some 0)))
namespace Xhq
def c:=Yap (Yaf Proofs.Tryz.f256) [1,0,1,0,0]
def sp:SP:=⟨[(0,.cs .str),(3,.cs I64)],[]⟩
def fr:=Yja sp (fun x s=>Xhq.B x.1.1 s) (fun x=>x.1.2.1) fun x (oo0:(Int⊕Unit)) _ kk0=>sel oo0 (fun bb0=>kk0 (.rt) ⟨[(2,.cs I64 bb0)],[]⟩) (fun cc0=>kk0 (.ex 0) ⟨[(0,.cs .str x.1.1)],[]⟩)
theorem ok:Ya7 PR 25 1 (.loop c) fr:=
 Yt2 Xe Xd h0 .no (G:=(mkG [])) .nil (L:=mkL []) (l:=[]) hT [(0,([0],[]))] ([2],[]) (fun x s=>((x.1.1,s,x.1.2.2),x.2))
  (fun x s=>by simp only[B,mC,mB,mS,mO,mN];kernel_rfl)
end Xhq
namespace Xjd
def pts:List PT:=[.cs .str]
def FS:FS:=Ybk [.sh] pts (fun x=>Xjd x.1) fun t=>⟨[.cs I64 t],[]⟩
theorem ok:Yb2 PR 256 FS:=
 Yxn Xe Xd Proofs.Tryz.f256 h0 (.R (.L (.R (.one (.fr 0))))) (G:=(mkG [])) .nil (L:=mkL [(0,Xhq.fr)]) (l:=[(0,.loop Xhq.c)]) ⟨Lam.cons Xhq.ok,trivial⟩
  (fun x=>by simp only[Xjd,mC,mB,mS,mO,mN];kernel_rfl)
end Xjd
def Xg0.B (v:Xa) (v2:Int):Option (Int⊕((Int⊕Unit))):=
 cond (decide (v2<(v.2.2.2.2.1.length:Int))) (cond (inB v2 v.2.2.2.2.1.length) ((Xjd (v.2.2.2.2.1.getD v2.toNat Xo).1).bind fun v3=>cond (v3 != 0) (some (.inr (.inl v3))) (cond (inB v2 v.2.2.2.2.1.length) ((Xah (v.2.2.2.2.1.getD v2.toNat Xo).2.1 0 9).bind fun v4=>cond (!v4) (some (.inr (.inl 3))) (cond (cond (decide (v2>0)) (inB v2 v.2.2.2.2.1.length) true) (cond (cond (decide (v2>0)) (inB (w64 (v2-1)) v.2.2.2.2.1.length) true) ((some (cond (decide (v2>0)) (leB (v.2.2.2.2.1.getD v2.toNat Xo).1 (v.2.2.2.2.1.getD (w64 (v2-1)).toNat Xo).1 || (v.2.2.2.2.1.getD v2.toNat Xo).1 == (v.2.2.2.2.1.getD (w64 (v2-1)).toNat Xo).1) false)).bind fun v5=>cond v5 (some (.inr (.inl 1))) (some (.inl (w64 (v2+1))))) none) none)) none)) none) (some (.inr (.inr ())))
def Xg0 (v:Xa):Int→Option ((Int⊕Unit)):=
 Y9 fun s=>Xg0.B v s
def Xgj (v:Xa):Option Int:=
 cond (decide ((v.2.2.2.2.1.length:Int)>6)) (some 2) ((Xg0 v 0).bind fun v6=>sel v6 (fun v7=>some v7) (fun v8=>some 0))
namespace Xgj
def G:Gam:=mkG [(256,Xjd.FS),(144,Xah.FS)]
theorem Gok:GOk PR G:=.cons Xjd.ok (.cons Xah.ok .nil)
end Xgj
namespace Xg0
def c:=Yap (Yaf Proofs.Tryz.f240) [1,1,0,1,0,0]
def sp:SP:=⟨[(0,.pt Xc),(3,.cs I64)],[]⟩
def fr:=Yja sp (fun x s=>Xg0.B x.1.1 s) (fun x=>x.1.2.1) fun x (oo0:(Int⊕Unit)) _ kk0=>sel oo0 (fun bb0=>kk0 (.rt) ⟨[(2,.cs I64 bb0)],[]⟩) (fun cc0=>kk0 (.ex 0) ⟨[],[]⟩)
theorem ok:Ya7 PR 64 1 (.loop c) fr:=
 Yt2 Xe Xd h0 .no (G:=Xgj.G) Xgj.Gok (L:=mkL []) (l:=[]) hT [(0,([],[]))] ([2],[]) (fun x s=>((x.1.1,s,x.1.2.2),x.2))
  (fun x s=>by simp only[B,mC,mB,mS,mO,mN];kernel_rfl)
end Xg0
namespace Xgj
def pts:List PT:=[.pt Xc]
def FS:FS:=Ybk [.sh] pts (fun x=>Xgj x.1) fun t=>⟨[.cs I64 t],[]⟩
theorem ok:Yb2 PR 240 FS:=
 Yxn Xe Xd Proofs.Tryz.f240 h0 (.R (.R (.L (.R (.one (.fr 0)))))) (G:=G) Gok (L:=mkL [(0,Xg0.fr)]) (l:=[(0,.loop Xg0.c)]) ⟨Lam.cons Xg0.ok,trivial⟩
  (fun x=>by simp only[Xgj,mC,mB,mS,mO,mN];kernel_rfl)
end Xgj
def Xi4 (v:Xa):Option Int:=
 (Xah v.1 0 2).bind fun v2=>cond (!v2) (some 1) ((some (cond (v.1 != 1) (cond (cond (v.2.1 != 0) true (v.2.2.1 != 0)) true (decide ((v.2.2.2.1.length:Int)>0))) false)).bind fun v3=>(some (cond v3 true (cond (v.1 != 2) (decide ((v.2.2.2.2.1.length:Int)>0)) false))).bind fun v4=>cond v4 (some 1) (cond (v.1 == 1) ((Xd4 v).bind fun v5=>some v5) (cond (v.1 == 2) ((Xgj v).bind fun v6=>some v6) (some 0))))
namespace Xi4
def G:Gam:=mkG [(144,Xah.FS),(239,Xd4.FS),(240,Xgj.FS)]
def pts:List PT:=[.pt Xc]
def FS:FS:=Ybk [.sh] pts (fun x=>Xi4 x.1) fun t=>⟨[.cs I64 t],[]⟩
theorem ok:Yb2 PR 220 FS:=
 Yxn Xe Xd Proofs.Tryz.f220 h0 .no (G:=G) (show GOk PR G from .cons Xah.ok (.cons Xd4.ok (.cons Xgj.ok .nil))) (L:=mkL []) (l:=[]) hT
  (fun x=>by simp only[Xi4,mC,mB,mS,mO,mN];kernel_rfl)
end Xi4
def Xhx.B (v:List Xa) (v2:Int):Option (Int⊕((Int⊕Unit))):=
 cond (decide (v2<(v.length:Int))) (cond (inB v2 v.length) ((Xi4 (v.getD v2.toNat Xb)).bind fun v3=>cond (v3 != 0) (some (.inr (.inl v3))) (some (.inl (w64 (v2+1))))) none) (some (.inr (.inr ())))
def Xhx (v:List Xa):Int→Option ((Int⊕Unit)):=
 Y9 fun s=>Xhx.B v s
def Xgu (v:List Xa):Option Int:=
 cond (decide ((v.length:Int)>10)) (some 2) ((Xhx v 0).bind fun v4=>sel v4 (fun v5=>some v5) (fun v6=>some 0))
namespace Xgu
def G:Gam:=mkG [(220,Xi4.FS)]
theorem Gok:GOk PR G:=.cons Xi4.ok .nil
end Xgu
namespace Xhx
def c:=Yap (Yaf Proofs.Tryz.f169) [1,1,0,1,0,0]
def sp:SP:=⟨[(0,.cs (.sl Xc)),(3,.cs I64)],[]⟩
def fr:=Yja sp (fun x s=>Xhx.B x.1.1 s) (fun x=>x.1.2.1) fun x (oo0:(Int⊕Unit)) _ kk0=>sel oo0 (fun bb0=>kk0 (.rt) ⟨[(2,.cs I64 bb0)],[]⟩) (fun cc0=>kk0 (.ex 0) ⟨[],[]⟩)
theorem ok:Ya7 PR 21 1 (.loop c) fr:=
 Yt2 Xe Xd h0 .no (G:=Xgu.G) Xgu.Gok (L:=mkL []) (l:=[]) hT [(0,([],[]))] ([2],[]) (fun x s=>((x.1.1,s,x.1.2.2),x.2))
  (fun x s=>by simp only[B,mC,mB,mS,mO,mN];kernel_rfl)
end Xhx
namespace Xgu
def pts:List PT:=[.cs (.sl Xc)]
def FS:FS:=Ybk [.sh] pts (fun x=>Xgu x.1) fun t=>⟨[.cs I64 t],[]⟩
theorem ok:Yb2 PR 169 FS:=
 Yxn Xe Xd Proofs.Tryz.f169 h0 (.R (.R (.L (.R (.one (.fr 0)))))) (G:=G) Gok (L:=mkL [(0,Xhx.fr)]) (l:=[(0,.loop Xhx.c)]) ⟨Lam.cons Xhx.ok,trivial⟩
  (fun x=>by simp only[Xgu,mC,mB,mS,mO,mN];kernel_rfl)
end Xgu
def Xe8.B (v:List Xa) (v2:Int) (v4:Int) (v5:Int) (v6:Int):Option ((Int×Int)⊕Int):=
 cond (inB v4 v.length) ((some ((v.getD v4.toNat Xb).2.2.2.1.length:Int)).bind fun v7=>cond (decide (v6<v7)) (cond (inB v4 v.length) (cond (inB v6 ((v.getD v4.toNat Xb).2.2.2.1.length)) ((some ((v.getD v4.toNat Xb).2.2.2.1.getD v6.toNat 0)).bind fun v8=>cond (v8 == v2) (some (.inl (w64 (v5+1),w64 (v6+1)))) (some (.inl (v5,w64 (v6+1))))) none) none) (some (.inr v5))) none
def Xe8 (v:List Xa) (v2:Int) (v4:Int):(Int×Int)→Option Int:=
 Y9 fun s=>Xe8.B v v2 v4 s.1 s.2
def Xg2.B (v:List Xa) (v2:Int) (v3:Int) (v4:Int):Option ((Int×Int)⊕Int):=
 cond (decide (v4<(v.length:Int))) ((Xe8 v v2 v4 (v3,0)).bind fun v9=>some (.inl (v9,w64 (v4+1)))) (some (.inr v3))
def Xg2 (v:List Xa) (v2:Int):(Int×Int)→Option Int:=
 Y9 fun s=>Xg2.B v v2 s.1 s.2
def Xiz (v:List Xa) (v2:Int):Option Int:=
 (Xg2 v v2 (0,0)).bind fun v10=>some v10
namespace Xe8
def c:=Yap (Yaf Proofs.Tryz.f206) [1,1,0,1,0,0,1,0,0,1,0,0]
def sp:SP:=⟨[(0,.cs (.sl Xc)),(1,.cs I64),(5,.cs I64),(6,.cs I64),(7,.cs I64)],[]⟩
def fr:=Yja sp (fun x s=>Xe8.B x.1.1 x.1.2.1 x.1.2.2.2.1 s.1 s.2) (fun x=>(x.1.2.2.1,x.1.2.2.2.2.1)) fun x (bb0:Int) _ kk0=>kk0 (.ex 2) ⟨[(0,.cs (.sl Xc) x.1.1),(1,.cs I64 x.1.2.1),(5,.cs I64 bb0),(6,.cs I64 x.1.2.2.2.1)],[]⟩
theorem ok:Ya7 PR 37 2 (.loop c) fr:=
 Yxd Xe Xd h0 [(2,([0,1,5,6],[]))] (fun x s=>((x.1.1,x.1.2.1,s.1,x.1.2.2.2.1,s.2,x.1.2.2.2.2.2),x.2))
  (fun x s=>by simp only[B,mC,mB,mS,mO,mN];kernel_rfl)
end Xe8
namespace Xg2
def c:=Yap (Yaf Proofs.Tryz.f206) [1,1,0,1,0,0]
def sp:SP:=⟨[(0,.cs (.sl Xc)),(1,.cs I64),(5,.cs I64),(6,.cs I64)],[]⟩
def fr:=Yja sp (fun x s=>Xg2.B x.1.1 x.1.2.1 s.1 s.2) (fun x=>(x.1.2.2.1,x.1.2.2.2.1)) fun x (bb0:Int) _ kk0=>kk0 (.ex 0) ⟨[(5,.cs I64 bb0)],[]⟩
theorem ok:Ya7 PR 37 2 (.loop c) fr:=
 Yxp Xe Xd h0 (.R (.L (.one (.R (.one (.fr 1)))))) (L:=mkL [(1,Xe8.fr)]) (l:=[(1,.loop Xe8.c)]) ⟨Lam.cons Xe8.ok,trivial⟩ [(0,([5],[]))] (fun x s=>((x.1.1,x.1.2.1,s.1,s.2,x.1.2.2.2.2),x.2))
  (fun x s=>by simp only[B,mC,mB,mS,mO,mN];kernel_rfl)
end Xg2
namespace Xiz
def pts:List PT:=[.cs (.sl Xc),.cs I64]
def FS:FS:=Ybk [.sh,.sh] pts (fun x=>Xiz x.1 x.2.1) fun t=>⟨[.cs I64 t],[]⟩
theorem ok:Yb2 PR 206 FS:=
 Yxn Xe Xd Proofs.Tryz.f206 h0 (.R (.R (.L (.R (.one (.fr 0)))))) (G:=(mkG [])) .nil (L:=mkL [(1,Xe8.fr),(0,Xg2.fr)]) (l:=[(0,.loop Xg2.c)]) ⟨Lam.skip rfl (Lam.cons Xg2.ok),trivial⟩
  (fun x=>by simp only[Xiz,mC,mB,mS,mO,mN];kernel_rfl)
end Xiz
def Xh1.B (v:List Xa) (v2:Bool) (v3:Int) (v4:List Int):Option ((Bool×Int×List Int)⊕(Bool×List Int)):=
 cond (decide (v3<20)) ((Xiz v v3).bind fun v5=>cond (decide (v5>0)) (cond (decide ((v4++([v3])).length≤2147483648)) (some (.inl (cond v2 (decide (v5≤1)) false,w64 (v3+1),v4++([v3])))) none) (some (.inl (cond v2 (decide (v5≤1)) false,w64 (v3+1),v4)))) (some (.inr (v2,v4)))
def Xh1 (v:List Xa):(Bool×Int×List Int)→Option (Bool×List Int):=
 Y9 fun s=>Xh1.B v s.1 s.2.1 s.2.2
def Xec (v:List Xa):Option ((List Int)×Bool):=
 (Xh1 v (true,0,[])).bind fun v6=>some (v6.2,v6.1)
namespace Xec
def G:Gam:=mkG [(206,Xiz.FS)]
theorem Gok:GOk PR G:=.cons Xiz.ok .nil
end Xec
namespace Xh1
def c:=Yap (Yaf Proofs.Tryz.f170) [1,1,1,0,1,0,0]
def sp:SP:=⟨[(0,.cs (.sl Xc)),(4,.seg 4 []),(5,.cs .bool),(6,.cs I64)],[(4,.reg,.cd SI)]⟩
def fr:=Yja sp (fun x s=>Xh1.B x.1.1 s.1 s.2.1 s.2.2) (fun x=>(x.1.2.2.1,x.1.2.2.2.1,x.2.1)) fun x (bb0:Bool×List Int) _ kk0=>kk0 (.ex 0) ⟨[(4,.seg 4 []),(5,.cs .bool bb0.1)],[sr 4 (.cd SI bb0.2)]⟩
theorem ok:Ya7 PR 29 1 (.loop c) fr:=
 Yxo Xe Xd h0 (G:=Xec.G) Xec.Gok [(0,([4,5],[4]))] (fun x s=>((x.1.1,x.1.2.1,s.1,s.2.1,x.1.2.2.2.2),(s.2.2,x.2.2)))
  (fun x s=>by simp only[B,mC,mB,mS,mO,mN];kernel_rfl)
end Xh1
namespace Xec
def pts:List PT:=[.cs (.sl Xc)]
def FS:FS:=Ybk [.sh] pts (fun x=>Xec x.1) fun t=>⟨[.cd SI t.1,.cs .bool t.2],[]⟩
theorem ok:Yb2 PR 170 FS:=
 Yxn Xe Xd Proofs.Tryz.f170 h0 (.R (.R (.R (.L (.R (.one (.fr 0))))))) (G:=G) Gok (L:=mkL [(0,Xh1.fr)]) (l:=[(0,.loop Xh1.c)]) ⟨Lam.cons Xh1.ok,trivial⟩
  (fun x=>by simp only[Xec,mC,mB,mS,mO,mN];kernel_rfl)
end Xec
def Xhs.B (v:Fs_) (v4:Int):Option (Int⊕((Int⊕Unit))):=
 cond (decide (v4<(v.2.1.length:Int))) (cond (inB v4 v.2.1.length) ((some (decide (((v.2.1.getD v4.toNat []).length:Int)>8))).bind fun v5=>cond v5 (some (.inr (.inl 2))) (some (.inl (w64 (v4+1))))) none) (some (.inr (.inr ())))
def Xhs (v:Fs_):Int→Option ((Int⊕Unit)):=
 Y9 fun s=>Xhs.B v s
def Xe4.B (v:Fs_) (v10:Int) (v11:Int):Option (Int⊕((Int⊕Unit))):=
 cond (inB v10 v.1.length) ((some ((v.1.getD v10.toNat Xb).2.2.2.2.1.length:Int)).bind fun v12=>cond (decide (v11<v12)) (cond (inB v10 v.1.length) (cond (inB v11 ((v.1.getD v10.toNat Xb).2.2.2.2.1.length)) ((some ((v.1.getD v10.toNat Xb).2.2.2.2.1.getD v11.toNat Xo).2.1).bind fun v13=>cond (cond (!(decide (v13≥(v.1.length:Int)))) (inB v13 v.1.length) true) ((some (cond (decide (v13≥(v.1.length:Int))) true ((v.1.getD v13.toNat Xb).1 == 0))).bind fun v14=>cond v14 (some (.inr (.inl 4))) (some (.inl (w64 (v11+1))))) none) none) none) (some (.inr (.inr ())))) none
def Xe4 (v:Fs_) (v10:Int):Int→Option ((Int⊕Unit)):=
 Y9 fun s=>Xe4.B v v10 s
def Xhz.B (v:Fs_) (v10:Int):Option (Int⊕((Int⊕Unit))):=
 cond (decide (v10<(v.1.length:Int))) ((Xe4 v v10 0).bind fun v15=>sel v15 (fun v16=>some (.inr (.inl v16))) (fun v17=>some (.inl (w64 (v10+1))))) (some (.inr (.inr ())))
def Xhz (v:Fs_):Int→Option ((Int⊕Unit)):=
 Y9 fun s=>Xhz.B v s
def Xd1 (v:Fs_):Option Int:=
 (Xgu v.1).bind fun v2=>cond (v2 != 0) (some v2) (cond (cond (!((v.1.length:Int) == 0)) (inB 0 v.1.length) true) ((some (cond ((v.1.length:Int) == 0) true ((v.1.getD (0:Int).toNat Xb).1 != 2))).bind fun v3=>cond (cond v3 true ((v.2.1.length:Int) != 20)) (some 1) ((Xhs v 0).bind fun v6=>sel v6 (fun v7=>some v7) (fun v8=>(Xec v.1).bind fun v9=>cond (!v9.2) (some 7) ((Xhz v 0).bind fun v18=>sel v18 (fun v19=>some v19) (fun v20=>some 0))))) none)
namespace Xd1
def G:Gam:=mkG [(169,Xgu.FS),(170,Xec.FS)]
theorem Gok:GOk PR G:=.cons Xgu.ok (.cons Xec.ok .nil)
end Xd1
namespace Xhs
def c:=Yap (Yaf Proofs.Tryz.f96) [1,1,1,0,1,0,0]
def sp:SP:=⟨[(0,.pt Xn),(4,.cs I64)],[]⟩
def fr:=Yja sp (fun x s=>Xhs.B x.1.1 s) (fun x=>x.1.2.1) fun x (oo0:(Int⊕Unit)) _ kk0=>sel oo0 (fun bb0=>kk0 (.rt) ⟨[(2,.cs I64 bb0)],[]⟩) (fun cc0=>kk0 (.ex 0) ⟨[(0,.pt Xn x.1.1)],[]⟩)
theorem ok:Ya7 PR 122 1 (.loop c) fr:=
 Yt2 Xe Xd h0 .no (G:=Xd1.G) Xd1.Gok (L:=mkL []) (l:=[]) hT [(0,([0],[]))] ([2],[]) (fun x s=>((x.1.1,s,x.1.2.2),x.2))
  (fun x s=>by simp only[B,mC,mB,mS,mO,mN];kernel_rfl)
end Xhs
namespace Xe4
def c:=Yap (Yaf Proofs.Tryz.f96) [1,1,1,1,1,0,1,0,0,1,0,0,1,0,0]
def sp:SP:=⟨[(0,.pt Xn),(7,.cs I64),(8,.cs I64)],[]⟩
def fr:=Yja sp (fun x s=>Xe4.B x.1.1 x.1.2.1 s) (fun x=>x.1.2.2.1) fun x (oo0:(Int⊕Unit)) _ kk0=>sel oo0 (fun bb0=>kk0 (.rt) ⟨[(2,.cs I64 bb0)],[]⟩) (fun cc0=>kk0 (.ex 4) ⟨[(0,.pt Xn x.1.1),(7,.cs I64 x.1.2.1)],[]⟩)
theorem ok:Ya7 PR 122 1 (.loop c) fr:=
 Yt2 Xe Xd h0 .no (G:=Xd1.G) Xd1.Gok (L:=mkL []) (l:=[]) hT [(4,([0,7],[]))] ([2],[]) (fun x s=>((x.1.1,x.1.2.1,s,x.1.2.2.2),x.2))
  (fun x s=>by simp only[B,mC,mB,mS,mO,mN];kernel_rfl)
end Xe4
namespace Xhz
def c:=Yap (Yaf Proofs.Tryz.f96) [1,1,1,1,1,0,1,0,0]
def sp:SP:=⟨[(0,.pt Xn),(7,.cs I64)],[]⟩
def fr:=Yja sp (fun x s=>Xhz.B x.1.1 s) (fun x=>x.1.2.1) fun x (oo0:(Int⊕Unit)) _ kk0=>sel oo0 (fun bb0=>kk0 (.rt) ⟨[(2,.cs I64 bb0)],[]⟩) (fun cc0=>kk0 (.ex 2) ⟨[],[]⟩)
theorem ok:Ya7 PR 122 1 (.loop c) fr:=
 Yt2 Xe Xd h0 (.R (.L (.one (.R (.one (.fr 2)))))) (G:=Xd1.G) Xd1.Gok (L:=mkL [(2,Xe4.fr)]) (l:=[(2,.loop Xe4.c)]) ⟨Lam.cons Xe4.ok,trivial⟩ [(2,([],[]))] ([2],[]) (fun x s=>((x.1.1,s,x.1.2.2),x.2))
  (fun x s=>by simp only[B,mC,mB,mS,mO,mN];kernel_rfl)
end Xhz
namespace Xd1
def pts:List PT:=[.pt Xn]
def FS:FS:=Ybk [.sh] pts (fun x=>Xd1 x.1) fun t=>⟨[.cs I64 t],[]⟩
theorem ok:Yb2 PR 96 FS:=
 Yxn Xe Xd Proofs.Tryz.f96 h0 (.R (.R (.R (.two (.R (.one (.fr 0))) (.R (.L (.R (.one (.fr 1))))))))) (G:=G) Gok (L:=mkL [(0,Xhs.fr),(2,Xe4.fr),(1,Xhz.fr)]) (l:=[(0,.loop Xhs.c),(1,.loop Xhz.c)]) ⟨Lam.cons Xhs.ok,Lam.skip rfl (Lam.skip rfl (Lam.cons Xhz.ok)),trivial⟩
  (fun x=>by simp only[Xd1,mC,mB,mS,mO,mN];kernel_rfl)
end Xd1
def Xee.B (v:Fs_) (v3:Int) (v5:Int) (v7:Int) (v8:List Bool):Option ((Int×List Bool)⊕(List Bool)):=
 cond (inB v5 v8.length) (cond (cond (v8.getD v5.toNat false) (inB v5 v.1.length) true) ((some (cond (v8.getD v5.toNat false) (decide (v7<((v.1.getD v5.toNat Xb).2.2.2.2.1.length:Int))) false)).bind fun v9=>cond v9 (cond (inB v5 v.1.length) (cond (inB v7 ((v.1.getD v5.toNat Xb).2.2.2.2.1.length)) ((some ((v.1.getD v5.toNat Xb).2.2.2.2.1.getD v7.toNat Xo).2.1).bind fun v10=>cond (inB v10 v8.length) (some (.inl (w64 (v7+1),v8.set v10.toNat true))) none) none) none) (some (.inr v8))) none) none
def Xee (v:Fs_) (v3:Int) (v5:Int):(Int×List Bool)→Option (List Bool):=
 Y9 fun s=>Xee.B v v3 v5 s.1 s.2
def Xez.B (v:Fs_) (v3:Int) (v5:Int) (v6:List Bool):Option ((Int×List Bool)⊕(List Bool)):=
 cond (decide (v5<(v.1.length:Int))) ((Xee v v3 v5 (0,v6)).bind fun v11=>some (.inl (w64 (v5+1),v11))) (some (.inr v6))
def Xez (v:Fs_) (v3:Int):(Int×List Bool)→Option (List Bool):=
 Y9 fun s=>Xez.B v v3 s.1 s.2
def Xgl.B (v:Fs_) (v3:Int) (v4:List Bool):Option ((Int×List Bool)⊕(List Bool)):=
 cond (decide (v3<(v.1.length:Int))) ((Xez v v3 (0,v4)).bind fun v12=>some (.inl (w64 (v3+1),v12))) (some (.inr v4))
def Xgl (v:Fs_):(Int×List Bool)→Option (List Bool):=
 Y9 fun s=>Xgl.B v s.1 s.2
def Xgv.B (v13:List Bool) (v14:Int) (v15:List Int):Option ((Int×List Int)⊕(List Int)):=
 cond (decide (v14<(v13.length:Int))) (cond (inB v14 v13.length) (cond (v13.getD v14.toNat false) (cond (decide ((v15++([v14])).length≤2147483648)) (some (.inl (w64 (v14+1),v15++([v14])))) none) (some (.inl (w64 (v14+1),v15)))) none) (some (.inr v15))
def Xgv (v13:List Bool):(Int×List Int)→Option (List Int):=
 Y9 fun s=>Xgv.B v13 s.1 s.2
def Xi5 (v:Fs_):Option (List Int):=
 cond (decide ((0:Int)≤(v.1.length:Int))&&(decide ((v.1.length:Int)≤(v.1.length:Int))&&decide ((v.1.length:Int)≤2147483648))) (cond (inB 0 ((List.replicate (v.1.length:Int).toNat false).length)) ((some ((List.replicate (v.1.length:Int).toNat false).set ((0:Int).toNat) true)).bind fun v2=>(Xgl v (0,v2)).bind fun v13=>(Xgv v13 (0,[])).bind fun v16=>some v16) none) none
namespace Xee
def c:=Yap (Yaf Proofs.Tryz.f171) [1,1,1,0,1,0,0,1,0,0,1,0,0,1,0,0,1,0,0]
def sp:SP:=⟨[(0,.pt Xn),(3,.seg 3 []),(4,.cs I64),(5,.cs I64),(6,.cs I64)],[(3,.reg,.cd (.sl .bool))]⟩
def fr:=Yja sp (fun x s=>Xee.B x.1.1 x.1.2.2.1 x.1.2.2.2.1 s.1 s.2) (fun x=>(x.1.2.2.2.2.1,x.2.1)) fun x (bb0:List Bool) _ kk0=>kk0 (.ex 4) ⟨[(0,.pt Xn x.1.1),(3,.seg 3 []),(4,.cs I64 x.1.2.2.1),(5,.cs I64 x.1.2.2.2.1)],[sr 3 (.cd (.sl .bool) bb0)]⟩
theorem ok:Ya7 PR 84 1 (.loop c) fr:=
 Yxd Xe Xd h0 [(4,([0,3,4,5],[3]))] (fun x s=>((x.1.1,x.1.2.1,x.1.2.2.1,x.1.2.2.2.1,s.1,x.1.2.2.2.2.2),(s.2,x.2.2)))
  (fun x s=>by simp only[B,mC,mB,mS,mO,mN];kernel_rfl)
end Xee
namespace Xez
def c:=Yap (Yaf Proofs.Tryz.f171) [1,1,1,0,1,0,0,1,0,0,1,0,0]
def sp:SP:=⟨[(0,.pt Xn),(3,.seg 3 []),(4,.cs I64),(5,.cs I64)],[(3,.reg,.cd (.sl .bool))]⟩
def fr:=Yja sp (fun x s=>Xez.B x.1.1 x.1.2.2.1 s.1 s.2) (fun x=>(x.1.2.2.2.1,x.2.1)) fun x (bb0:List Bool) _ kk0=>kk0 (.ex 2) ⟨[(0,.pt Xn x.1.1),(3,.seg 3 []),(4,.cs I64 x.1.2.2.1)],[sr 3 (.cd (.sl .bool) bb0)]⟩
theorem ok:Ya7 PR 84 1 (.loop c) fr:=
 Yxp Xe Xd h0 (.R (.L (.one (.R (.one (.fr 2)))))) (L:=mkL [(2,Xee.fr)]) (l:=[(2,.loop Xee.c)]) ⟨Lam.cons Xee.ok,trivial⟩ [(2,([0,3,4],[3]))] (fun x s=>((x.1.1,x.1.2.1,x.1.2.2.1,s.1,x.1.2.2.2.2),(s.2,x.2.2)))
  (fun x s=>by simp only[B,mC,mB,mS,mO,mN];kernel_rfl)
end Xez
namespace Xgl
def c:=Yap (Yaf Proofs.Tryz.f171) [1,1,1,0,1,0,0]
def sp:SP:=⟨[(0,.pt Xn),(3,.seg 3 []),(4,.cs I64)],[(3,.reg,.cd (.sl .bool))]⟩
def fr:=Yja sp (fun x s=>Xgl.B x.1.1 s.1 s.2) (fun x=>(x.1.2.2.1,x.2.1)) fun x (bb0:List Bool) _ kk0=>kk0 (.ex 0) ⟨[(3,.seg 3 [])],[sr 3 (.cd (.sl .bool) bb0)]⟩
theorem ok:Ya7 PR 84 1 (.loop c) fr:=
 Yxp Xe Xd h0 (.R (.L (.one (.R (.one (.fr 1)))))) (L:=mkL [(2,Xee.fr),(1,Xez.fr)]) (l:=[(1,.loop Xez.c)]) ⟨Lam.skip rfl (Lam.cons Xez.ok),trivial⟩ [(0,([3],[3]))] (fun x s=>((x.1.1,x.1.2.1,s.1,x.1.2.2.2),(s.2,x.2.2)))
  (fun x s=>by simp only[B,mC,mB,mS,mO,mN];kernel_rfl)
end Xgl
namespace Xgv
def c:=Yap (Yaf Proofs.Tryz.f171) [1,1,1,1,1,0,1,0,0]
def sp:SP:=⟨[(3,.seg 3 []),(7,.seg 7 []),(8,.cs I64)],[(3,.reg,.cd (.sl .bool)),(7,.reg,.cd SI)]⟩
def fr:=Yja sp (fun x s=>Xgv.B x.2.1 s.1 s.2) (fun x=>(x.1.2.2.1,x.2.2.1)) fun x (bb0:List Int) _ kk0=>kk0 (.ex 6) ⟨[(7,.seg 7 [])],[sr 7 (.cd SI bb0)]⟩
theorem ok:Ya7 PR 84 1 (.loop c) fr:=
 Yxd Xe Xd h0 [(6,([7],[7]))] (fun x s=>((x.1.1,x.1.2.1,s.1,x.1.2.2.2),(x.2.1,s.2,x.2.2.2)))
  (fun x s=>by simp only[B,mC,mB,mS,mO,mN];kernel_rfl)
end Xgv
namespace Xi5
def pts:List PT:=[.pt Xn]
def FS:FS:=Ybk [.sh] pts (fun x=>Xi5 x.1) fun t=>⟨[.cd SI t],[]⟩
theorem ok:Yb2 PR 171 FS:=
 Yxn Xe Xd Proofs.Tryz.f171 h0 (.R (.R (.R (.two (.R (.one (.fr 0))) (.R (.L (.R (.one (.fr 3))))))))) (G:=(mkG [])) .nil (L:=mkL [(2,Xee.fr),(1,Xez.fr),(0,Xgl.fr),(3,Xgv.fr)]) (l:=[(0,.loop Xgl.c),(3,.loop Xgv.c)]) ⟨Lam.skip rfl (Lam.skip rfl (Lam.cons Xgl.ok)),Lam.skip rfl (Lam.skip rfl (Lam.skip rfl (Lam.cons Xgv.ok))),trivial⟩
  (fun x=>by simp only[Xi5,mC,mB,mS,mO,mN];kernel_rfl)
end Xi5
def Xf3.B (v:List Xa) (v2:Int) (v4:Int) (v5:Int) (v6:Int):Option ((Int×Int)⊕Int):=
 cond (inB v4 v.length) ((some ((v.getD v4.toNat Xb).2.2.2.2.1.length:Int)).bind fun v7=>cond (decide (v6<v7)) (cond (inB v4 v.length) (cond (inB v6 ((v.getD v4.toNat Xb).2.2.2.2.1.length)) ((some ((v.getD v4.toNat Xb).2.2.2.2.1.getD v6.toNat Xo).2.1).bind fun v8=>cond (v8 == v2) (some (.inl (w64 (v5+1),w64 (v6+1)))) (some (.inl (v5,w64 (v6+1))))) none) none) (some (.inr v5))) none
def Xf3 (v:List Xa) (v2:Int) (v4:Int):(Int×Int)→Option Int:=
 Y9 fun s=>Xf3.B v v2 v4 s.1 s.2
def Xge.B (v:List Xa) (v2:Int) (v3:Int) (v4:Int):Option ((Int×Int)⊕Int):=
 cond (decide (v4<(v.length:Int))) ((Xf3 v v2 v4 (v3,0)).bind fun v9=>some (.inl (v9,w64 (v4+1)))) (some (.inr v3))
def Xge (v:List Xa) (v2:Int):(Int×Int)→Option Int:=
 Y9 fun s=>Xge.B v v2 s.1 s.2
def Xiw (v:List Xa) (v2:Int):Option Int:=
 (Xge v v2 (0,0)).bind fun v10=>some v10
namespace Xf3
def c:=Yap (Yaf Proofs.Tryz.f172) [1,1,0,1,0,0,1,0,0,1,0,0]
def sp:SP:=⟨[(0,.cs (.sl Xc)),(1,.cs I64),(5,.cs I64),(6,.cs I64),(7,.cs I64)],[]⟩
def fr:=Yja sp (fun x s=>Xf3.B x.1.1 x.1.2.1 x.1.2.2.2.1 s.1 s.2) (fun x=>(x.1.2.2.1,x.1.2.2.2.2.1)) fun x (bb0:Int) _ kk0=>kk0 (.ex 2) ⟨[(0,.cs (.sl Xc) x.1.1),(1,.cs I64 x.1.2.1),(5,.cs I64 bb0),(6,.cs I64 x.1.2.2.2.1)],[]⟩
theorem ok:Ya7 PR 38 2 (.loop c) fr:=
 Yxd Xe Xd h0 [(2,([0,1,5,6],[]))] (fun x s=>((x.1.1,x.1.2.1,s.1,x.1.2.2.2.1,s.2,x.1.2.2.2.2.2),x.2))
  (fun x s=>by simp only[B,mC,mB,mS,mO,mN];kernel_rfl)
end Xf3
namespace Xge
def c:=Yap (Yaf Proofs.Tryz.f172) [1,1,0,1,0,0]
def sp:SP:=⟨[(0,.cs (.sl Xc)),(1,.cs I64),(5,.cs I64),(6,.cs I64)],[]⟩
def fr:=Yja sp (fun x s=>Xge.B x.1.1 x.1.2.1 s.1 s.2) (fun x=>(x.1.2.2.1,x.1.2.2.2.1)) fun x (bb0:Int) _ kk0=>kk0 (.ex 0) ⟨[(5,.cs I64 bb0)],[]⟩
theorem ok:Ya7 PR 38 2 (.loop c) fr:=
 Yxp Xe Xd h0 (.R (.L (.one (.R (.one (.fr 1)))))) (L:=mkL [(1,Xf3.fr)]) (l:=[(1,.loop Xf3.c)]) ⟨Lam.cons Xf3.ok,trivial⟩ [(0,([5],[]))] (fun x s=>((x.1.1,x.1.2.1,s.1,s.2,x.1.2.2.2.2),x.2))
  (fun x s=>by simp only[B,mC,mB,mS,mO,mN];kernel_rfl)
end Xge
namespace Xiw
def pts:List PT:=[.cs (.sl Xc),.cs I64]
def FS:FS:=Ybk [.sh,.sh] pts (fun x=>Xiw x.1 x.2.1) fun t=>⟨[.cs I64 t],[]⟩
theorem ok:Yb2 PR 172 FS:=
 Yxn Xe Xd Proofs.Tryz.f172 h0 (.R (.R (.L (.R (.one (.fr 0)))))) (G:=(mkG [])) .nil (L:=mkL [(1,Xf3.fr),(0,Xge.fr)]) (l:=[(0,.loop Xge.c)]) ⟨Lam.skip rfl (Lam.cons Xge.ok),trivial⟩
  (fun x=>by simp only[Xiw,mC,mB,mS,mO,mN];kernel_rfl)
end Xiw
def Xht.B (v:List Int) (v2:Int) (v3:Int):Option (Int⊕((Bool⊕Unit))):=
 cond (decide (v3<(v.length:Int))) (cond (inB v3 v.length) (cond ((v.getD v3.toNat 0) == v2) (some (.inr (.inl true))) (some (.inl (w64 (v3+1))))) none) (some (.inr (.inr ())))
def Xht (v:List Int) (v2:Int):Int→Option ((Bool⊕Unit)):=
 Y9 fun s=>Xht.B v v2 s
def Xh7 (v:List Int) (v2:Int):Option Bool:=
 (Xht v v2 0).bind fun v4=>sel v4 (fun v5=>some v5) (fun v6=>some false)
namespace Xht
def c:=Yap (Yaf Proofs.Tryz.f173) [1,0,1,0,0]
def sp:SP:=⟨[(0,.cs SI),(1,.cs I64),(5,.cs I64)],[]⟩
def fr:=Yja sp (fun x s=>Xht.B x.1.1 x.1.2.1 s) (fun x=>x.1.2.2.1) fun x (oo0:(Bool⊕Unit)) _ kk0=>sel oo0 (fun bb0=>kk0 (.rt) ⟨[(4,.cs .bool bb0)],[]⟩) (fun cc0=>kk0 (.ex 0) ⟨[],[]⟩)
theorem ok:Ya7 PR 18 2 (.loop c) fr:=
 Yt2 Xe Xd h0 .no (G:=(mkG [])) .nil (L:=mkL []) (l:=[]) hT [(0,([],[]))] ([4],[]) (fun x s=>((x.1.1,x.1.2.1,s,x.1.2.2.2),x.2))
  (fun x s=>by simp only[B,mC,mB,mS,mO,mN];kernel_rfl)
end Xht
namespace Xh7
def pts:List PT:=[.cs SI,.cs I64]
def FS:FS:=Ybk [.sh,.sh] pts (fun x=>Xh7 x.1 x.2.1) fun t=>⟨[.cs .bool t],[]⟩
theorem ok:Yb2 PR 173 FS:=
 Yxn Xe Xd Proofs.Tryz.f173 h0 (.R (.L (.R (.one (.fr 0))))) (G:=(mkG [])) .nil (L:=mkL [(0,Xht.fr)]) (l:=[(0,.loop Xht.c)]) ⟨Lam.cons Xht.ok,trivial⟩
  (fun x=>by simp only[Xh7,mC,mB,mS,mO,mN];kernel_rfl)
end Xh7
def Xhv.B (v:Fs_) (v2:List Int) (v3:Int):Option (Int⊕((Bool⊕Unit))):=
 cond (decide (v3<(v.1.length:Int))) (cond (inB v3 v.1.length) ((Xiw v.1 v3).bind fun v4=>cond ((v.1.getD v3.toNat Xb).1 == 0) (some (.inl (w64 (v3+1)))) (cond ((v.1.getD v3.toNat Xb).1 == 1) (cond (v4 != (v.1.getD v3.toNat Xb).2.1) (some (.inr (.inl false))) ((Xh7 v2 v3).bind fun v5=>cond (!v5) (some (.inr (.inl false))) (some (.inl (w64 (v3+1)))))) (cond (v3 == 0) (cond (v4 != 0) (some (.inr (.inl false))) ((Xh7 v2 v3).bind fun v6=>cond (!v6) (some (.inr (.inl false))) (some (.inl (w64 (v3+1)))))) (cond (v4 != 1) (some (.inr (.inl false))) ((Xh7 v2 v3).bind fun v7=>cond (!v7) (some (.inr (.inl false))) (some (.inl (w64 (v3+1))))))))) none) (some (.inr (.inr ())))
def Xhv (v:Fs_) (v2:List Int):Int→Option ((Bool⊕Unit)):=
 Y9 fun s=>Xhv.B v v2 s
def Xg6 (v:Fs_):Option Bool:=
 (Xi5 v).bind fun v2=>(Xhv v v2 0).bind fun v8=>sel v8 (fun v9=>some v9) (fun v10=>some true)
namespace Xg6
def G:Gam:=mkG [(171,Xi5.FS),(172,Xiw.FS),(173,Xh7.FS)]
theorem Gok:GOk PR G:=.cons Xi5.ok (.cons Xiw.ok (.cons Xh7.ok .nil))
end Xg6
namespace Xhv
def c:=Yap (Yaf Proofs.Tryz.f97) [1,1,0,1,0,0]
def sp:SP:=⟨[(0,.pt Xn),(3,.seg 3 []),(4,.cs I64)],[(3,.reg,.cd SI)]⟩
def fr:=Yja sp (fun x s=>Xhv.B x.1.1 x.2.1 s) (fun x=>x.1.2.2.1) fun x (oo0:(Bool⊕Unit)) _ kk0=>sel oo0 (fun bb0=>kk0 (.rt) ⟨[(2,.cs .bool bb0)],[]⟩) (fun cc0=>kk0 (.ex 0) ⟨[],[]⟩)
theorem ok:Ya7 PR 59 1 (.loop c) fr:=
 Yt2 Xe Xd h0 .no (G:=Xg6.G) Xg6.Gok (L:=mkL []) (l:=[]) hT [(0,([],[]))] ([2],[]) (fun x s=>((x.1.1,x.1.2.1,s,x.1.2.2.2),x.2))
  (fun x s=>by simp only[B,mC,mB,mS,mO,mN];kernel_rfl)
end Xhv
namespace Xg6
def pts:List PT:=[.pt Xn]
def FS:FS:=Ybk [.sh] pts (fun x=>Xg6 x.1) fun t=>⟨[.cs .bool t],[]⟩
theorem ok:Yb2 PR 97 FS:=
 Yxn Xe Xd Proofs.Tryz.f97 h0 (.R (.R (.L (.R (.one (.fr 0)))))) (G:=G) Gok (L:=mkL [(0,Xhv.fr)]) (l:=[(0,.loop Xhv.c)]) ⟨Lam.cons Xhv.ok,trivial⟩
  (fun x=>by simp only[Xg6,mC,mB,mS,mO,mN];kernel_rfl)
end Xg6
def Xi3 (v:Int) (v2:Int):Option Int:=
 cond (decide (v<v2)) (some v) (some v2)
namespace Xi3
def pts:List PT:=[.cs I64,.cs I64]
def FS:FS:=Ybk [.sh,.sh] pts (fun x=>Xi3 x.1 x.2.1) fun t=>⟨[.cs I64 t],[]⟩
theorem ok:Yb2 PR 174 FS:=
 Yxn Xe Xd Proofs.Tryz.f174 h0 .no (G:=(mkG [])) .nil (L:=mkL []) (l:=[]) hT
  (fun x=>by simp only[Xi3,mC,mB,mS,mO,mN];kernel_rfl)
end Xi3
def Xfd.B (v:Fs_) (v2:Int) (v4:Xa) (v5:Int) (v6:List Int):Option ((Int×List Int)⊕(List Int)):=
 cond (decide (v5<(v4.2.2.2.1.length:Int))) (cond (inB v5 v4.2.2.2.1.length) ((Xi3 8 (w64 (v4.2.2.1-(w64 (v5*8))))).bind fun v7=>cond (inB (v4.2.2.2.1.getD v5.toNat 0) v6.length) (some (.inl (w64 (v5+1),v6.set ((v4.2.2.2.1.getD v5.toNat 0).toNat) v7))) none) none) (some (.inr v6))
def Xfd (v:Fs_) (v2:Int) (v4:Xa):(Int×List Int)→Option (List Int):=
 Y9 fun s=>Xfd.B v v2 v4 s.1 s.2
def Xgr.B (v:Fs_) (v2:Int) (v3:List Int):Option ((Int×List Int)⊕(List Int)):=
 cond (decide (v2<(v.1.length:Int))) (cond (inB v2 v.1.length) ((Xfd v v2 (v.1.getD v2.toNat Xb) (0,v3)).bind fun v8=>some (.inl (w64 (v2+1),v8))) none) (some (.inr v3))
def Xgr (v:Fs_):(Int×List Int)→Option (List Int):=
 Y9 fun s=>Xgr.B v s.1 s.2
def Xh0.B (v:Fs_) (v9:List Int) (v10:Int):Option (Int⊕((Bool⊕Unit))):=
 cond (decide (v10<(v.2.1.length:Int))) (cond (inB v10 v.2.1.length) (cond (inB v10 v9.length) ((some (((v.2.1.getD v10.toNat []).length:Int) != (v9.getD v10.toNat 0))).bind fun v11=>cond v11 (some (.inr (.inl false))) (some (.inl (w64 (v10+1))))) none) none) (some (.inr (.inr ())))
def Xh0 (v:Fs_) (v9:List Int):Int→Option ((Bool⊕Unit)):=
 Y9 fun s=>Xh0.B v v9 s
def Xdx (v:Fs_):Option Bool:=
 cond (decide ((0:Int)≤(20:Int))&&(decide ((20:Int)≤(20:Int))&&decide ((20:Int)≤2147483648))) ((Xgr v (0,List.replicate (20:Int).toNat 0)).bind fun v9=>(Xh0 v v9 0).bind fun v12=>sel v12 (fun v13=>some v13) (fun v14=>some true)) none
namespace Xdx
def G:Gam:=mkG [(174,Xi3.FS)]
theorem Gok:GOk PR G:=.cons Xi3.ok .nil
end Xdx
namespace Xfd
def c:=Yap (Yaf Proofs.Tryz.f98) [1,1,0,1,0,0,1,0,0,1,1,0,0]
def sp:SP:=⟨[(0,.pt Xn),(3,.seg 3 []),(4,.cs I64),(5,.pt Xc),(6,.cs I64)],[(3,.reg,.cd SI)]⟩
def fr:=Yja sp (fun x s=>Xfd.B x.1.1 x.1.2.2.1 x.1.2.2.2.1 s.1 s.2) (fun x=>(x.1.2.2.2.2.1,x.2.1)) fun x (bb0:List Int) _ kk0=>kk0 (.ex 2) ⟨[(0,.pt Xn x.1.1),(3,.seg 3 []),(4,.cs I64 x.1.2.2.1)],[sr 3 (.cd SI bb0)]⟩
theorem ok:Ya7 PR 72 1 (.loop c) fr:=
 Yxo Xe Xd h0 (G:=Xdx.G) Xdx.Gok [(2,([0,3,4],[3]))] (fun x s=>((x.1.1,x.1.2.1,x.1.2.2.1,x.1.2.2.2.1,s.1,x.1.2.2.2.2.2),(s.2,x.2.2)))
  (fun x s=>by simp only[B,mC,mB,mS,mO,mN];kernel_rfl)
end Xfd
namespace Xgr
def c:=Yap (Yaf Proofs.Tryz.f98) [1,1,0,1,0,0]
def sp:SP:=⟨[(0,.pt Xn),(3,.seg 3 []),(4,.cs I64)],[(3,.reg,.cd SI)]⟩
def fr:=Yja sp (fun x s=>Xgr.B x.1.1 s.1 s.2) (fun x=>(x.1.2.2.1,x.2.1)) fun x (bb0:List Int) _ kk0=>kk0 (.ex 0) ⟨[(0,.pt Xn x.1.1),(3,.seg 3 [])],[sr 3 (.cd SI bb0)]⟩
theorem ok:Ya7 PR 72 1 (.loop c) fr:=
 Yxs Xe Xd h0 (.R (.L (.one (.R (.R (.one (.fr 1))))))) (G:=Xdx.G) Xdx.Gok (L:=mkL [(1,Xfd.fr)]) (l:=[(1,.loop Xfd.c)]) ⟨Lam.cons Xfd.ok,trivial⟩ [(0,([0,3],[3]))] (fun x s=>((x.1.1,x.1.2.1,s.1,x.1.2.2.2),(s.2,x.2.2)))
  (fun x s=>by simp only[B,mC,mB,mS,mO,mN];kernel_rfl)
end Xgr
namespace Xh0
def c:=Yap (Yaf Proofs.Tryz.f98) [1,1,1,0,1,0,0]
def sp:SP:=⟨[(0,.pt Xn),(3,.seg 3 []),(7,.cs I64)],[(3,.reg,.cd SI)]⟩
def fr:=Yja sp (fun x s=>Xh0.B x.1.1 x.2.1 s) (fun x=>x.1.2.2.1) fun x (oo0:(Bool⊕Unit)) _ kk0=>sel oo0 (fun bb0=>kk0 (.rt) ⟨[(2,.cs .bool bb0)],[]⟩) (fun cc0=>kk0 (.ex 4) ⟨[],[]⟩)
theorem ok:Ya7 PR 72 1 (.loop c) fr:=
 Yt2 Xe Xd h0 .no (G:=Xdx.G) Xdx.Gok (L:=mkL []) (l:=[]) hT [(4,([],[]))] ([2],[]) (fun x s=>((x.1.1,x.1.2.1,s,x.1.2.2.2),x.2))
  (fun x s=>by simp only[B,mC,mB,mS,mO,mN];kernel_rfl)
end Xh0
namespace Xdx
def pts:List PT:=[.pt Xn]
def FS:FS:=Ybk [.sh] pts (fun x=>Xdx x.1) fun t=>⟨[.cs .bool t],[]⟩
theorem ok:Yb2 PR 98 FS:=
 Yxn Xe Xd Proofs.Tryz.f98 h0 (.R (.R (.two (.R (.one (.fr 0))) (.L (.R (.one (.fr 2))))))) (G:=G) Gok (L:=mkL [(1,Xfd.fr),(0,Xgr.fr),(2,Xh0.fr)]) (l:=[(0,.loop Xgr.c),(2,.loop Xh0.c)]) ⟨Lam.skip rfl (Lam.cons Xgr.ok),Lam.skip rfl (Lam.skip rfl (Lam.cons Xh0.ok)),trivial⟩
  (fun x=>by simp only[Xdx,mC,mB,mS,mO,mN];kernel_rfl)
end Xdx
def Xi0 (v:Fs_):Option Int:=
 (Xd1 v).bind fun v2=>cond (v2 != 0) (some v2) ((Xg6 v).bind fun v3=>cond (!v3) (some 1) ((Xdx v).bind fun v4=>cond (!v4) (some 1) (some 0)))
namespace Xi0
def G:Gam:=mkG [(96,Xd1.FS),(97,Xg6.FS),(98,Xdx.FS)]
def pts:List PT:=[.pt Xn]
def FS:FS:=Ybk [.sh] pts (fun x=>Xi0 x.1) fun t=>⟨[.cs I64 t],[]⟩
theorem ok:Yb2 PR 47 FS:=
 Yxn Xe Xd Proofs.Tryz.f47 h0 .no (G:=G) (show GOk PR G from .cons Xd1.ok (.cons Xg6.ok (.cons Xdx.ok .nil))) (L:=mkL []) (l:=[]) hT
  (fun x=>by simp only[Xi0,mC,mB,mS,mO,mN];kernel_rfl)
end Xi0
def Xfp.B (v:Xa) (v3:Int) (v9:Xf) (v7:Int) (v8:List Int):Option ((Int×List Int)⊕(List Int)):=
 cond (decide (v7<(v9.1.length:Int))) (cond (inB v7 v9.1.length) ((some (v8++([w64 (((v9.1.getD v7.toNat 0).toNat:Int))]))).bind fun v10=>cond (decide (v10.length≤2147483648)) (some (.inl (w64 (v7+1),v10))) none) none) (some (.inr v8))
def Xfp (v:Xa) (v3:Int) (v9:Xf):(Int×List Int)→Option (List Int):=
 Y9 fun s=>Xfp.B v v3 v9 s.1 s.2
def Xgo.B (v:Xa) (v3:Int) (v4:List Int):Option ((Int×List Int)⊕(List Int)):=
 cond (decide (v3<(v.2.2.2.2.1.length:Int))) (cond (inB v3 v.2.2.2.2.1.length) ((some ((v.2.2.2.2.1.getD v3.toNat Xo).1.length:Int)).bind fun v5=>(some (v4++([(v.2.2.2.2.1.getD v3.toNat Xo).2.1,v5]))).bind fun v6=>cond (decide (v6.length≤2147483648)) ((Xfp v v3 (v.2.2.2.2.1.getD v3.toNat Xo) (0,v6)).bind fun v11=>some (.inl (w64 (v3+1),v11))) none) none) (some (.inr v4))
def Xgo (v:Xa):(Int×List Int)→Option (List Int):=
 Y9 fun s=>Xgo.B v s.1 s.2
def Xi7 (v:Xa):Option (List Int):=
 cond (decide ((([v.1,v.2.1,v.2.2.1])++v.2.2.2.1).length≤2147483648)) (cond (v.1 != 2) (some (([v.1,v.2.1,v.2.2.1])++v.2.2.2.1)) ((some ((([v.1,v.2.1,v.2.2.1])++v.2.2.2.1)++([(v.2.2.2.2.1.length:Int)]))).bind fun v2=>cond (decide (v2.length≤2147483648)) ((Xgo v (0,v2)).bind fun v12=>some v12) none)) none
namespace Xfp
def c:=Yap (Yaf Proofs.Tryz.f176) [1,1,1,1,0,1,0,0,1,0,0,1,1,1,0,0]
def sp:SP:=⟨[(1,.pt Xc),(3,.seg 3 []),(4,.cs I64),(5,.loc 5 []),(6,.cs I64)],[(3,.reg,.cd SI),(5,.mem,.cd Xh)]⟩
def fr:=Yja sp (fun x s=>Xfp.B x.1.1 x.1.2.2.1 x.2.2.1 s.1 s.2) (fun x=>(x.1.2.2.2.2.1,x.2.1)) fun x (bb0:List Int) _ kk0=>kk0 (.ex 2) ⟨[(1,.pt Xc x.1.1),(3,.seg 3 []),(4,.cs I64 x.1.2.2.1)],[sr 3 (.cd SI bb0)]⟩
theorem ok:Ya7 PR 63 1 (.loop c) fr:=
 Yxd Xe Xd ⟨[1],[],[],0⟩ [(2,([1,3,4],[3]))] (fun x s=>((x.1.1,x.1.2.1,x.1.2.2.1,x.1.2.2.2.1,s.1,x.1.2.2.2.2.2),(s.2,x.2.2)))
  (fun x s=>by simp only[B,mC,mB,mS,mO,mN];kernel_rfl)
end Xfp
namespace Xgo
def c:=Yap (Yaf Proofs.Tryz.f176) [1,1,1,1,0,1,0,0]
def sp:SP:=⟨[(1,.pt Xc),(3,.seg 3 []),(4,.cs I64)],[(3,.reg,.cd SI)]⟩
def fr:=Yja sp (fun x s=>Xgo.B x.1.1 s.1 s.2) (fun x=>(x.1.2.2.1,x.2.1)) fun x (bb0:List Int) _ kk0=>kk0 (.ex 0) ⟨[(3,.seg 3 [])],[sr 3 (.cd SI bb0)]⟩
theorem ok:Ya7 PR 63 1 (.loop c) fr:=
 Yxp Xe Xd ⟨[1],[],[],0⟩ (.R (.L (.one (.R (.R (.R (.one (.fr 1)))))))) (L:=mkL [(1,Xfp.fr)]) (l:=[(1,.loop Xfp.c)]) ⟨Lam.cons Xfp.ok,trivial⟩ [(0,([3],[3]))] (fun x s=>((x.1.1,x.1.2.1,s.1,x.1.2.2.2),(s.2,x.2.2)))
  (fun x s=>by simp only[B,mC,mB,mS,mO,mN];kernel_rfl)
end Xgo
namespace Xi7
def pts:List PT:=[.cs Xc]
def FS:FS:=Ybk [.sh] pts (fun x=>Xi7 x.1) fun t=>⟨[.cd SI t],[]⟩
theorem ok:Yb2 PR 176 FS:=
 Yxn Xe Xd Proofs.Tryz.f176 ⟨[1],[],[],0⟩ (.R (.R (.R (.R (.L (.R (.one (.fr 0)))))))) (G:=(mkG [])) .nil (L:=mkL [(1,Xfp.fr),(0,Xgo.fr)]) (l:=[(0,.loop Xgo.c)]) ⟨Lam.skip rfl (Lam.cons Xgo.ok),trivial⟩
  (fun x=>by simp only[Xi7,mC,mB,mS,mO,mN];kernel_rfl)
end Xi7
def Xhw.B (v:Fs_) (v2:Int) (v3:List Xg):Option ((Int×List Xg)⊕(List Xg)):=
 cond (decide (v2<10)) (cond (decide (v2<(v.1.length:Int))) (cond (inB v2 v.1.length) ((Xi7 (v.1.getD v2.toNat Xb)).bind fun v4=>cond (decide ((v3++([(w64 ((17:Int)+v2),v4,())])).length≤2147483648)) (some (.inl (w64 (v2+1),v3++([(w64 ((17:Int)+v2),v4,())])))) none) none) (cond (decide ((v3++([(w64 ((17:Int)+v2),[],())])).length≤2147483648)) (some (.inl (w64 (v2+1),v3++([(w64 ((17:Int)+v2),[],())])))) none)) (some (.inr v3))
def Xhw (v:Fs_):(Int×List Xg)→Option (List Xg):=
 Y9 fun s=>Xhw.B v s.1 s.2
def Xgd (v:Fs_):Option (List Xg):=
 (Xhw v (0,[])).bind fun v5=>some v5
namespace Xgd
def G:Gam:=mkG [(176,Xi7.FS)]
theorem Gok:GOk PR G:=.cons Xi7.ok .nil
end Xgd
namespace Xhw
def c:=Yap (Yaf Proofs.Tryz.f100) [1,1,0,1,0,0]
def sp:SP:=⟨[(0,.pt Xn),(3,.seg 3 []),(4,.cs I64)],[(3,.reg,.cd (.sl Xi))]⟩
def fr:=Yja sp (fun x s=>Xhw.B x.1.1 s.1 s.2) (fun x=>(x.1.2.2.1,x.2.1)) fun x (bb0:List Xg) _ kk0=>kk0 (.ex 0) ⟨[(3,.seg 3 [])],[sr 3 (.cd (.sl Xi) bb0)]⟩
theorem ok:Ya7 PR 35 1 (.loop c) fr:=
 Yxo Xe Xd h0 (G:=Xgd.G) Xgd.Gok [(0,([3],[3]))] (fun x s=>((x.1.1,x.1.2.1,s.1,x.1.2.2.2),(s.2,x.2.2)))
  (fun x s=>by simp only[B,mC,mB,mS,mO,mN];kernel_rfl)
end Xhw
namespace Xgd
def pts:List PT:=[.pt Xn]
def FS:FS:=Ybk [.sh] pts (fun x=>Xgd x.1) fun t=>⟨[.cd (.sl Xi) t],[]⟩
theorem ok:Yb2 PR 100 FS:=
 Yxn Xe Xd Proofs.Tryz.f100 h0 (.R (.R (.L (.R (.one (.fr 0)))))) (G:=G) Gok (L:=mkL [(0,Xhw.fr)]) (l:=[(0,.loop Xhw.c)]) ⟨Lam.cons Xhw.ok,trivial⟩
  (fun x=>by simp only[Xgd,mC,mB,mS,mO,mN];kernel_rfl)
end Xgd
def Xgq.B (v:List Int) (v2:List Int) (v3:Int):Option (Int⊕((Bool⊕Unit))):=
 cond (decide (v3<(v.length:Int))) (cond (inB v3 v.length) (cond (inB v3 v2.length) (cond ((v.getD v3.toNat 0) != (v2.getD v3.toNat 0)) (some (.inr (.inl false))) (some (.inl (w64 (v3+1))))) none) none) (some (.inr (.inr ())))
def Xgq (v:List Int) (v2:List Int):Int→Option ((Bool⊕Unit)):=
 Y9 fun s=>Xgq.B v v2 s
def Xjf (v:List Int) (v2:List Int):Option Bool:=
 cond ((v.length:Int) != (v2.length:Int)) (some false) ((Xgq v v2 0).bind fun v4=>sel v4 (fun v5=>some v5) (fun v6=>some true))
namespace Xgq
def c:=Yap (Yaf Proofs.Tryz.f175) [1,1,0,1,0,0]
def sp:SP:=⟨[(0,.cs SI),(1,.cs SI),(5,.cs I64)],[]⟩
def fr:=Yja sp (fun x s=>Xgq.B x.1.1 x.1.2.1 s) (fun x=>x.1.2.2.1) fun x (oo0:(Bool⊕Unit)) _ kk0=>sel oo0 (fun bb0=>kk0 (.rt) ⟨[(4,.cs .bool bb0)],[]⟩) (fun cc0=>kk0 (.ex 0) ⟨[],[]⟩)
theorem ok:Ya7 PR 26 2 (.loop c) fr:=
 Yt2 Xe Xd h0 .no (G:=(mkG [])) .nil (L:=mkL []) (l:=[]) hT [(0,([],[]))] ([4],[]) (fun x s=>((x.1.1,x.1.2.1,s,x.1.2.2.2),x.2))
  (fun x s=>by simp only[B,mC,mB,mS,mO,mN];kernel_rfl)
end Xgq
namespace Xjf
def pts:List PT:=[.cs SI,.cs SI]
def FS:FS:=Ybk [.sh,.sh] pts (fun x=>Xjf x.1 x.2.1) fun t=>⟨[.cs .bool t],[]⟩
theorem ok:Yb2 PR 175 FS:=
 Yxn Xe Xd Proofs.Tryz.f175 h0 (.R (.R (.L (.R (.one (.fr 0)))))) (G:=(mkG [])) .nil (L:=mkL [(0,Xgq.fr)]) (l:=[(0,.loop Xgq.c)]) ⟨Lam.cons Xgq.ok,trivial⟩
  (fun x=>by simp only[Xjf,mC,mB,mS,mO,mN];kernel_rfl)
end Xjf
def Xeb (v:List Int):Option (List Int):=
 cond (decide (([]++v).length≤2147483648)) (some ([]++v)) none
namespace Xeb
def pts:List PT:=[.cs SI]
def FS:FS:=Ybk [.sh] pts (fun x=>Xeb x.1) fun t=>⟨[.cd SI t],[]⟩
theorem ok:Yb2 PR 103 FS:=
 Yxn Xe Xd Proofs.Tryz.f103 h0 .no (G:=(mkG [])) .nil (L:=mkL []) (l:=[]) hT
  (fun x=>by simp only[Xeb,mC,mB,mS,mO,mN];kernel_rfl)
end Xeb
def Xgt.B (v:Xk) (v2:List Xg) (v3:Int) (v4:List Xg):Option ((Int×List Xg)⊕(List Xg)):=
 cond (decide (v3<(v2.length:Int))) (cond (inB v3 v2.length) ((Xh4 v (v2.getD v3.toNat Xq).1).bind fun v5=>cond (inB v3 v2.length) ((Xjf v5 (v2.getD v3.toNat Xq).2.1).bind fun v6=>cond (!v6) (cond (inB v3 v2.length) (cond (inB v3 v2.length) ((Xeb (v2.getD v3.toNat Xq).2.1).bind fun v7=>cond (decide ((v4++([((v2.getD v3.toNat Xq).1,v7,())])).length≤2147483648)) (some (.inl (w64 (v3+1),v4++([((v2.getD v3.toNat Xq).1,v7,())])))) none) none) none) (some (.inl (w64 (v3+1),v4)))) none) none) (some (.inr v4))
def Xgt (v:Xk) (v2:List Xg):(Int×List Xg)→Option (List Xg):=
 Y9 fun s=>Xgt.B v v2 s.1 s.2
def Xfe (v:Xk) (v2:List Xg):Option (List Xg):=
 (Xgt v v2 (0,[])).bind fun v8=>some v8
namespace Xfe
def G:Gam:=mkG [(94,Xh4.FS),(175,Xjf.FS),(103,Xeb.FS)]
theorem Gok:GOk PR G:=.cons Xh4.ok (.cons Xjf.ok (.cons Xeb.ok .nil))
end Xfe
namespace Xgt
def c:=Yap (Yaf Proofs.Tryz.f99) [1,1,0,1,0,0]
def sp:SP:=⟨[(0,.pt Xj),(1,.cs (.sl Xi)),(5,.seg 5 []),(6,.cs I64)],[(5,.reg,.cd (.sl Xi))]⟩
def fr:=Yja sp (fun x s=>Xgt.B x.1.1 x.1.2.1 s.1 s.2) (fun x=>(x.1.2.2.2.1,x.2.1)) fun x (bb0:List Xg) _ kk0=>kk0 (.ex 0) ⟨[(5,.seg 5 [])],[sr 5 (.cd (.sl Xi) bb0)]⟩
theorem ok:Ya7 PR 44 2 (.loop c) fr:=
 Yxo Xe Xd h0 (G:=Xfe.G) Xfe.Gok [(0,([5],[5]))] (fun x s=>((x.1.1,x.1.2.1,x.1.2.2.1,s.1,x.1.2.2.2.2),(s.2,x.2.2)))
  (fun x s=>by simp only[B,mC,mB,mS,mO,mN];kernel_rfl)
end Xgt
namespace Xfe
def pts:List PT:=[.pt Xj,.cs (.sl Xi)]
def FS:FS:=Ybk [.sh,.sh] pts (fun x=>Xfe x.1 x.2.1) fun t=>⟨[.cd (.sl Xi) t],[]⟩
theorem ok:Yb2 PR 99 FS:=
 Yxn Xe Xd Proofs.Tryz.f99 h0 (.R (.R (.L (.R (.one (.fr 0)))))) (G:=G) Gok (L:=mkL [(0,Xgt.fr)]) (l:=[(0,.loop Xgt.c)]) ⟨Lam.cons Xgt.ok,trivial⟩
  (fun x=>by simp only[Xfe,mC,mB,mS,mO,mN];kernel_rfl)
end Xfe
def Xfq.B (v:Fs_) (v3:Int) (v4:List Xg) (v5:List Int) (v6:Bool) (v7:Unit) (v8:Int) (v9:Xg):Option ((Int×Xg)⊕Xg):=
 cond (inB v3 v5.length) (cond (inB (v5.getD v3.toNat 0) v.2.1.length) ((some ((v.2.1.getD (v5.getD v3.toNat 0).toNat []).length:Int)).bind fun v10=>cond (decide (v8<v10)) (cond (inB v3 v5.length) (cond (inB (v5.getD v3.toNat 0) v.2.1.length) (cond (inB v8 ((v.2.1.getD (v5.getD v3.toNat 0).toNat []).length)) ((some ((v.2.1.getD (v5.getD v3.toNat 0).toNat []).getD v8.toNat 0)).bind fun v11=>cond (decide ((v9.2.1++([w64 v11])).length≤2147483648)) (some (.inl (w64 (v8+1),(v9.1,v9.2.1++([w64 v11]),v9.2.2)))) none) none) none) none) (some (.inr v9))) none) none
def Xfq (v:Fs_) (v3:Int) (v4:List Xg) (v5:List Int) (v6:Bool) (v7:Unit):(Int×Xg)→Option Xg:=
 Y9 fun s=>Xfq.B v v3 v4 v5 v6 v7 s.1 s.2
def Xgg.B (v:Fs_) (v5:List Int) (v6:Bool) (v7:Unit) (v3:Int) (v4:List Xg):Option ((Int×List Xg)⊕(List Xg)):=
 cond (decide (v3<(v5.length:Int))) (cond (inB v3 v5.length) ((Xfq v v3 v4 v5 v6 v7 (0,(w64 ((27:Int)+(v5.getD v3.toNat 0)),[],()))).bind fun v12=>cond (decide ((v4++([(v12.1,v12.2.1,v12.2.2)])).length≤2147483648)) (some (.inl (w64 (v3+1),v4++([(v12.1,v12.2.1,v12.2.2)])))) none) none) (some (.inr v4))
def Xgg (v:Fs_) (v5:List Int) (v6:Bool) (v7:Unit):(Int×List Xg)→Option (List Xg):=
 Y9 fun s=>Xgg.B v v5 v6 v7 s.1 s.2
def Xes (v:Fs_):Option (List Xg):=
 (Xec v.1).bind fun v2=>(Xgg v v2.1 v2.2 () (0,[])).bind fun v13=>some v13
namespace Xes
def G:Gam:=mkG [(170,Xec.FS)]
theorem Gok:GOk PR G:=.cons Xec.ok .nil
end Xes
namespace Xfq
def c:=Yap (Yaf Proofs.Tryz.f102) [1,1,1,0,1,0,0,1,0,0,1,0,1,0,0]
def sp:SP:=⟨[(0,.pt Xn),(3,.seg 3 []),(4,.seg 15 [.f1]),(6,.cs I64),(7,.loc 7 []),(8,.cs I64)],[(3,.reg,.cd (.sl Xi)),(7,.mem,.cd Xi),(15,.reg,.pr (.cd SI) (.pr (.cs .bool) (.cs .unit)))]⟩
def fr:=Yja sp (fun x s=>Xfq.B x.1.1 x.1.2.2.2.1 x.2.1 x.2.2.2.1.1 x.2.2.2.1.2.1 x.2.2.2.1.2.2 s.1 s.2) (fun x=>(x.1.2.2.2.2.2.1,x.2.2.1)) fun x (bb0:Xg) _ kk0=>kk0 (.ex 2) ⟨[(0,.pt Xn x.1.1),(3,.seg 3 []),(4,.seg 15 [.f1]),(6,.cs I64 x.1.2.2.2.1),(7,.loc 7 [])],[sr 3 (.cd (.sl Xi) x.2.1),(7,some ⟨.mem,.cd Xi bb0⟩),(15,some ⟨.reg,.pr (.cd SI x.2.2.2.1.1) (.pr (.cs .bool x.2.2.2.1.2.1) (.cs .unit x.2.2.2.1.2.2))⟩)]⟩
theorem ok:Ya7 PR 69 1 (.loop c) fr:=
 Yxo Xe Xd h0 (G:=Xes.G) Xes.Gok [(2,([0,3,4,6,7],[3,7,15]))] (fun x s=>((x.1.1,x.1.2.1,x.1.2.2.1,x.1.2.2.2.1,x.1.2.2.2.2.1,s.1,x.1.2.2.2.2.2.2),(x.2.1,s.2,x.2.2.2)))
  (fun x s=>by simp only[B,mC,mB,mS,mO,mN];kernel_rfl)
end Xfq
namespace Xgg
def c:=Yap (Yaf Proofs.Tryz.f102) [1,1,1,0,1,0,0]
def sp:SP:=⟨[(0,.pt Xn),(3,.seg 3 []),(4,.seg 15 [.f1]),(6,.cs I64)],[(3,.reg,.cd (.sl Xi)),(15,.reg,.pr (.cd SI) (.pr (.cs .bool) (.cs .unit)))]⟩
def fr:=Yja sp (fun x s=>Xgg.B x.1.1 x.2.2.1.1 x.2.2.1.2.1 x.2.2.1.2.2 s.1 s.2) (fun x=>(x.1.2.2.2.1,x.2.1)) fun x (bb0:List Xg) _ kk0=>kk0 (.ex 0) ⟨[(3,.seg 3 [])],[sr 3 (.cd (.sl Xi) bb0)]⟩
theorem ok:Ya7 PR 69 1 (.loop c) fr:=
 Yxs Xe Xd h0 (.R (.L (.one (.R (.L (.R (.one (.fr 1)))))))) (G:=Xes.G) Xes.Gok (L:=mkL [(1,Xfq.fr)]) (l:=[(1,.loop Xfq.c)]) ⟨Lam.cons Xfq.ok,trivial⟩ [(0,([3],[3]))] (fun x s=>((x.1.1,x.1.2.1,x.1.2.2.1,s.1,x.1.2.2.2.2),(s.2,x.2.2)))
  (fun x s=>by simp only[B,mC,mB,mS,mO,mN];kernel_rfl)
end Xgg
namespace Xes
def pts:List PT:=[.pt Xn]
def FS:FS:=Ybk [.sh] pts (fun x=>Xes x.1) fun t=>⟨[.cd (.sl Xi) t],[]⟩
theorem ok:Yb2 PR 102 FS:=
 Yxn Xe Xd Proofs.Tryz.f102 h0 (.R (.R (.R (.L (.R (.one (.fr 0))))))) (G:=G) Gok (L:=mkL [(1,Xfq.fr),(0,Xgg.fr)]) (l:=[(0,.loop Xgg.c)]) ⟨Lam.skip rfl (Lam.cons Xgg.ok),trivial⟩
  (fun x=>by simp only[Xes,mC,mB,mS,mO,mN];kernel_rfl)
end Xes
def Xf8.B (v:List Xg) (v2:Int) (v3:List Xl):Option ((Int×List Xl)⊕(List Xl)):=
 cond (decide (v2<(v.length:Int))) (cond (inB v2 v.length) (cond (inB v2 v.length) ((Xeb (v.getD v2.toNat Xq).2.1).bind fun v4=>(some (v3++([(false,(v.getD v2.toNat Xq).1,v4,())]))).bind fun v5=>cond (decide (v5.length≤2147483648)) (some (.inl (w64 (v2+1),v5))) none) none) none) (some (.inr v3))
def Xf8 (v:List Xg):(Int×List Xl)→Option (List Xl):=
 Y9 fun s=>Xf8.B v s.1 s.2
def Xbl (v:List Xg):Option (List Xl):=
 (Xf8 v (0,[])).bind fun v6=>some v6
namespace Xbl
def G:Gam:=mkG [(103,Xeb.FS)]
theorem Gok:GOk PR G:=.cons Xeb.ok .nil
end Xbl
namespace Xf8
def c:=Yap (Yaf Proofs.Tryz.f101) [1,1,0,1,0,0]
def sp:SP:=⟨[(0,.cs (.sl Xi)),(3,.seg 3 []),(4,.cs I64)],[(3,.reg,.cd (.sl Xp))]⟩
def fr:=Yja sp (fun x s=>Xf8.B x.1.1 s.1 s.2) (fun x=>(x.1.2.2.1,x.2.1)) fun x (bb0:List Xl) _ kk0=>kk0 (.ex 0) ⟨[(3,.seg 3 [])],[sr 3 (.cd (.sl Xp) bb0)]⟩
theorem ok:Ya7 PR 28 1 (.loop c) fr:=
 Yxo Xe Xd h0 (G:=Xbl.G) Xbl.Gok [(0,([3],[3]))] (fun x s=>((x.1.1,x.1.2.1,s.1,x.1.2.2.2),(s.2,x.2.2)))
  (fun x s=>by simp only[B,mC,mB,mS,mO,mN];kernel_rfl)
end Xf8
namespace Xbl
def pts:List PT:=[.cs (.sl Xi)]
def FS:FS:=Ybk [.sh] pts (fun x=>Xbl x.1) fun t=>⟨[.cd (.sl Xp) t],[]⟩
theorem ok:Yb2 PR 101 FS:=
 Yxn Xe Xd Proofs.Tryz.f101 h0 (.R (.R (.L (.R (.one (.fr 0)))))) (G:=G) Gok (L:=mkL [(0,Xf8.fr)]) (l:=[(0,.loop Xf8.c)]) ⟨Lam.cons Xf8.ok,trivial⟩
  (fun x=>by simp only[Xbl,mC,mB,mS,mO,mN];kernel_rfl)
end Xbl
def Xg7 (v:Int):Option (List Xl):=
 some ([(true,0,[],()),(false,0,[7,w64 (v+1)],()),(true,0,[],())])
namespace Xg7
def pts:List PT:=[.cs I64]
def FS:FS:=Ybk [.sh] pts (fun x=>Xg7 x.1) fun t=>⟨[.cd (.sl Xp) t],[]⟩
theorem ok:Yb2 PR 104 FS:=
 Yxn Xe Xd Proofs.Tryz.f104 h0 .no (G:=(mkG [])) .nil (L:=mkL []) (l:=[]) hT
  (fun x=>by simp only[Xg7,mC,mB,mS,mO,mN];kernel_rfl)
end Xg7
def Xcb.B (v3:Int) (v9:Int) (v5:List Xg) (v11:List Xl) (v10:Int) (v12:List Int):Option ((Int×List Int)⊕(List Int)):=
 cond (decide (v10<(v5.length:Int))) (cond (inB v10 v5.length) (cond (decide ((v12++([(v5.getD v10.toNat Xq).1])).length≤2147483648)) (some (.inl (w64 (v10+1),v12++([(v5.getD v10.toNat Xq).1])))) none) none) (some (.inr v12))
def Xcb (v3:Int) (v9:Int) (v5:List Xg) (v11:List Xl):(Int×List Int)→Option (List Int):=
 Y9 fun s=>Xcb.B v3 v9 v5 v11 s.1 s.2
def Xb7.B (v3:Int) (v15:Int) (v5:List Xg) (v16:Int) (v17:List Xl):Option ((Int×List Xl)⊕(List Xl)):=
 cond (decide (v16<(v5.length:Int))) (cond (inB v16 v5.length) ((Xeb (v5.getD v16.toNat Xq).2.1).bind fun v18=>(some (v17++([(false,w64 ((2:Int)+v16),v18,())]))).bind fun v19=>cond (decide (v19.length≤2147483648)) (some (.inl (w64 (v16+1),v19))) none) none) (some (.inr v17))
def Xb7 (v3:Int) (v15:Int) (v5:List Xg):(Int×List Xl)→Option (List Xl):=
 Y9 fun s=>Xb7.B v3 v15 v5 s.1 s.2
def Xaw (v:Xk) (v2:Fs_) (v3:Int):Option (List Xl):=
 (Xgd v2).bind fun v4=>(Xfe v v4).bind fun v5=>cond ((v5.length:Int) == 0) (some []) ((Xes v2).bind fun v6=>(Xfe v v6).bind fun v7=>(Xbl v7).bind fun v8=>cond (decide ((v8++([(true,0,[],())])).length≤2147483648)) ((Xcb v3 (v5.length:Int) v5 (v8++([(true,0,[],())])) (0,[1,v3,(v5.length:Int)])).bind fun v13=>(some ((v8++([(true,0,[],())]))++([(false,1,v13,())]))).bind fun v14=>cond (decide (v14.length≤2147483648)) ((Xb7 v3 (v5.length:Int) v5 (0,v14)).bind fun v20=>(some (v20++([(true,0,[],()),(false,w64 ((2:Int)+(v5.length:Int)),[2,v3,(v5.length:Int)],()),(true,0,[],())]))).bind fun v21=>cond (decide (v21.length≤2147483648)) ((Xbl v5).bind fun v22=>cond (decide ((v21++v22).length≤2147483648)) ((Xg7 v3).bind fun v23=>cond (decide (((v21++v22)++v23).length≤2147483648)) (some ((v21++v22)++v23)) none) none) none) none) none)
namespace Xaw
def G:Gam:=mkG [(100,Xgd.FS),(99,Xfe.FS),(102,Xes.FS),(101,Xbl.FS),(103,Xeb.FS),(104,Xg7.FS)]
theorem Gok:GOk PR G:=.cons Xgd.ok (.cons Xfe.ok (.cons Xes.ok (.cons Xbl.ok (.cons Xeb.ok (.cons Xg7.ok .nil)))))
end Xaw
namespace Xcb
def c:=Yap (Yaf Proofs.Tryz.f48) [1,1,1,1,1,1,0,1,0,0]
def sp:SP:=⟨[(2,.cs I64),(7,.seg 7 []),(8,.cs I64),(9,.seg 9 []),(10,.seg 10 []),(11,.cs I64)],[(7,.reg,.cd (.sl Xi)),(9,.reg,.cd (.sl Xp)),(10,.reg,.cd SI)]⟩
def fr:=Yja sp (fun x s=>Xcb.B x.1.1 x.1.2.2.1 x.2.1 x.2.2.1 s.1 s.2) (fun x=>(x.1.2.2.2.2.2.1,x.2.2.2.1)) fun x (bb0:List Int) _ kk0=>kk0 (.ex 0) ⟨[(2,.cs I64 x.1.1),(7,.seg 7 []),(8,.cs I64 x.1.2.2.1),(9,.seg 9 []),(10,.seg 10 [])],[sr 7 (.cd (.sl Xi) x.2.1),sr 9 (.cd (.sl Xp) x.2.2.1),sr 10 (.cd SI bb0)]⟩
theorem ok:Ya7 PR 90 3 (.loop c) fr:=
 Yxo Xe Xd h0 (G:=Xaw.G) Xaw.Gok [(0,([2,7,8,9,10],[7,9,10]))] (fun x s=>((x.1.1,x.1.2.1,x.1.2.2.1,x.1.2.2.2.1,x.1.2.2.2.2.1,s.1,x.1.2.2.2.2.2.2),(x.2.1,x.2.2.1,s.2,x.2.2.2.2)))
  (fun x s=>by simp only[B,mC,mB,mS,mO,mN];kernel_rfl)
end Xcb
namespace Xb7
def c:=Yap (Yaf Proofs.Tryz.f48) [1,1,1,1,1,1,1,1,0,1,0,0]
def sp:SP:=⟨[(2,.cs I64),(7,.seg 7 []),(8,.cs I64),(9,.seg 9 []),(12,.cs I64)],[(7,.reg,.cd (.sl Xi)),(9,.reg,.cd (.sl Xp))]⟩
def fr:=Yja sp (fun x s=>Xb7.B x.1.1 x.1.2.2.1 x.2.1 s.1 s.2) (fun x=>(x.1.2.2.2.2.1,x.2.2.1)) fun x (bb0:List Xl) _ kk0=>kk0 (.ex 2) ⟨[(2,.cs I64 x.1.1),(7,.seg 7 []),(8,.cs I64 x.1.2.2.1),(9,.seg 9 [])],[sr 7 (.cd (.sl Xi) x.2.1),sr 9 (.cd (.sl Xp) bb0)]⟩
theorem ok:Ya7 PR 90 3 (.loop c) fr:=
 Yxo Xe Xd h0 (G:=Xaw.G) Xaw.Gok [(2,([2,7,8,9],[7,9]))] (fun x s=>((x.1.1,x.1.2.1,x.1.2.2.1,x.1.2.2.2.1,s.1,x.1.2.2.2.2.2),(x.2.1,s.2,x.2.2.2)))
  (fun x s=>by simp only[B,mC,mB,mS,mO,mN];kernel_rfl)
end Xb7
namespace Xaw
def pts:List PT:=[.pt Xj,.pt Xn,.cs I64]
def FS:FS:=Ybk [.sh,.sh,.sh] pts (fun x=>Xaw x.1 x.2.1 x.2.2.1) fun t=>⟨[.cd (.sl Xp) t],[]⟩
theorem ok:Yb2 PR 48 FS:=
 Yxn Xe Xd Proofs.Tryz.f48 h0 (.R (.R (.R (.R (.R (.R (.two (.R (.one (.fr 0))) (.R (.L (.R (.one (.fr 1)))))))))))) (G:=G) Gok (L:=mkL [(0,Xcb.fr),(1,Xb7.fr)]) (l:=[(0,.loop Xcb.c),(1,.loop Xb7.c)]) ⟨Lam.cons Xcb.ok,Lam.skip rfl (Lam.cons Xb7.ok),trivial⟩
  (fun x=>by simp only[Xaw,mC,mB,mS,mO,mN];kernel_rfl)
end Xaw
def Xdr (v:Xk) (v2:Fs_):Option Xv:=
 (Xjb v).bind fun v3=>cond (v3.1 != 0) (some (v3.1,[],())) ((Xi0 v2).bind fun v4=>cond (v4 != 0) (some (v4,[],())) (cond (decide (v3.2.1≥60000)) (some (8,[],())) ((Xaw v v2 v3.2.1).bind fun v5=>some (0,v5,()))))
namespace Xdr
def G:Gam:=mkG [(46,Xjb.FS),(47,Xi0.FS),(48,Xaw.FS)]
def pts:List PT:=[.cs Xj,.cs Xn]
def FS:FS:=Ybk [.sh,.sh] pts (fun x=>Xdr x.1 x.2.1) fun t=>⟨[.cd Xm t],[]⟩
theorem ok:Yb2 PR 9 FS:=
 Yxn Xe Xd Proofs.Tryz.f9 ⟨[2,3],[],[],0⟩ .no (G:=G) (show GOk PR G from .cons Xjb.ok (.cons Xi0.ok (.cons Xaw.ok .nil))) (L:=mkL []) (l:=[]) hT
  (fun x=>by simp only[Xdr,mC,mB,mS,mO,mN];kernel_rfl)
end Xdr
def Xz (v:Int) (v2:Int) (v3:Int):Option Bool:=
 some (cond (decide (v≥v2)) (decide (v≤v3)) false)
namespace Xz
def pts:List PT:=[.cs I64,.cs I64,.cs I64]
def FS:FS:=Ybk [.sh,.sh,.sh] pts (fun x=>Xz x.1 x.2.1 x.2.2.1) fun t=>⟨[.cs .bool t],[]⟩
theorem ok:Yb2 PR 150 FS:=
 Yxn Xe Xd Proofs.Tryz.f150 h0 .no (G:=(mkG [])) .nil (L:=mkL []) (l:=[]) hT
  (fun x=>by simp only[Xz,mC,mB,mS,mO,mN];kernel_rfl)
end Xz
def Xha (v:Int):Option Bool:=
 (Xz v 0 65535).bind fun v2=>some (!v2)
namespace Xha
def G:Gam:=mkG [(150,Xz.FS)]
def pts:List PT:=[.cs I64]
def FS:FS:=Ybk [.sh] pts (fun x=>Xha x.1) fun t=>⟨[.cs .bool t],[]⟩
theorem ok:Yb2 PR 222 FS:=
 Yxn Xe Xd Proofs.Tryz.f222 h0 .no (G:=G) (show GOk PR G from .cons Xz.ok .nil) (L:=mkL []) (l:=[]) hT
  (fun x=>by simp only[Xha,mC,mB,mS,mO,mN];kernel_rfl)
end Xha
def Xb8.B (v:List Int) (v2:Unit) (v3:Int) (v4:Int):Option (Int⊕((Int⊕Unit))):=
 cond (decide (v4<v3)) (cond (inB v4 v.length) ((Xha (v.getD v4.toNat 0)).bind fun v5=>cond v5 (some (.inr (.inl v4))) (some (.inl (w64 (v4+1))))) none) (some (.inr (.inr ())))
def Xb8 (v:List Int) (v2:Unit) (v3:Int):Int→Option ((Int⊕Unit)):=
 Y9 fun s=>Xb8.B v v2 v3 s
def Xdm (v:List Int) (v2:Unit):Option Int:=
 (Xb8 v v2 (v.length:Int) 0).bind fun v6=>sel v6 (fun v7=>some v7) (fun v8=>some (-1))
namespace Xdm
def G:Gam:=mkG [(222,Xha.FS)]
theorem Gok:GOk PR G:=.cons Xha.ok .nil
end Xdm
namespace Xb8
def c:=Yap (Yaf Proofs.Tryz.f233) [1,0,1,0,0]
def sp:SP:=⟨[(0,.cs SI),(1,.clo 222 (.cs .unit)),(7,.cs I64),(8,.cs I64)],[]⟩
def fr:=Yja sp (fun x s=>Xb8.B x.1.1 x.1.2.1 x.1.2.2.1 s) (fun x=>x.1.2.2.2.1) fun x (oo0:(Int⊕Unit)) _ kk0=>sel oo0 (fun bb0=>kk0 (.rt) ⟨[(4,.cs I64 bb0)],[]⟩) (fun cc0=>kk0 (.ex 0) ⟨[],[]⟩)
theorem ok:Ya7 PR 19 2 (.loop c) fr:=
 Yt2 Xe Xd h0 .no (G:=Xdm.G) Xdm.Gok (L:=mkL []) (l:=[]) hT [(0,([],[]))] ([4],[]) (fun x s=>((x.1.1,x.1.2.1,x.1.2.2.1,s,x.1.2.2.2.2),x.2))
  (fun x s=>by simp only[B,mC,mB,mS,mO,mN];kernel_rfl)
end Xb8
namespace Xdm
def pts:List PT:=[.cs SI,.clo 222 (.cs .unit)]
def FS:FS:=Ybk [.sh,.sh] pts (fun x=>Xdm x.1 x.2.1) fun t=>⟨[.cs I64 t],[]⟩
theorem ok:Yb2 PR 233 FS:=
 Yxn Xe Xd Proofs.Tryz.f233 h0 (.R (.L (.R (.one (.fr 0))))) (G:=G) Gok (L:=mkL [(0,Xb8.fr)]) (l:=[(0,.loop Xb8.c)]) ⟨Lam.cons Xb8.ok,trivial⟩
  (fun x=>by simp only[Xdm,mC,mB,mS,mO,mN];kernel_rfl)
end Xdm
def Xhg (v:List Int) (v2:Unit):Option Bool:=
 (Xdm v v2).bind fun v3=>some (decide (v3≥0))
namespace Xhg
def G:Gam:=mkG [(233,Xdm.FS)]
def pts:List PT:=[.cs SI,.clo 222 (.cs .unit)]
def FS:FS:=Ybk [.sh,.sh] pts (fun x=>Xhg x.1 x.2.1) fun t=>⟨[.cs .bool t],[]⟩
theorem ok:Yb2 PR 201 FS:=
 Yxn Xe Xd Proofs.Tryz.f201 h0 .no (G:=G) (show GOk PR G from .cons Xdm.ok .nil) (L:=mkL []) (l:=[]) hT
  (fun x=>by simp only[Xhg,mC,mB,mS,mO,mN];kernel_rfl)
end Xhg
def Xen (v:List Int):Option Int:=
 cond (decide ((v.length:Int)>64)) (some 2) ((Xhg v ()).bind fun v2=>cond v2 (some 3) (some 0))
namespace Xen
def G:Gam:=mkG [(201,Xhg.FS)]
def pts:List PT:=[.cs SI]
def FS:FS:=Ybk [.sh] pts (fun x=>Xen x.1) fun t=>⟨[.cs I64 t],[]⟩
theorem ok:Yb2 PR 178 FS:=
 Yxn Xe Xd Proofs.Tryz.f178 h0 .no (G:=G) (show GOk PR G from .cons Xhg.ok .nil) (L:=mkL []) (l:=[]) hT
  (fun x=>by simp only[Xen,mC,mB,mS,mO,mN];kernel_rfl)
end Xen
def Xhh (v:List (List Int)):Option Int:=
 some (v.length:Int)
namespace Xhh
def pts:List PT:=[.cs (.sl SI)]
def FS:FS:=Ybk [.sh] pts (fun x=>Xhh x.1) fun t=>⟨[.cs I64 t],[]⟩
theorem ok:Yb2 PR 179 FS:=
 Yxn Xe Xd Proofs.Tryz.f179 h0 .no (G:=(mkG [])) .nil (L:=mkL []) (l:=[]) hT
  (fun x=>by simp only[Xhh,mC,mB,mS,mO,mN];kernel_rfl)
end Xhh
def Xdc.B (v:Xk) (v3:List (List Int)) (v4:Int) (v5:Int):Option (Int⊕((Int⊕Unit))):=
 cond (decide (v5<v4)) (cond (inB v5 v3.length) ((Xen (v3.getD v5.toNat [])).bind fun v6=>cond (v6 != 0) (some (.inr (.inl v6))) (some (.inl (w64 (v5+1))))) none) (some (.inr (.inr ())))
def Xdc (v:Xk) (v3:List (List Int)) (v4:Int):Int→Option ((Int⊕Unit)):=
 Y9 fun s=>Xdc.B v v3 v4 s
def Xdn.B (v:Xk) (v10:List Xg) (v11:Int) (v12:Int):Option (Int⊕((Int⊕Unit))):=
 cond (decide (v12<v11)) (cond (inB v12 v10.length) ((Xhh v.1).bind fun v13=>(Xz (v10.getD v12.toNat Xq).1 0 (w64 (v13-1))).bind fun v14=>cond (!v14) (some (.inr (.inl 3))) ((Xen (v10.getD v12.toNat Xq).2.1).bind fun v15=>cond (v15 != 0) (some (.inr (.inl v15))) (some (.inl (w64 (v12+1)))))) none) (some (.inr (.inr ())))
def Xdn (v:Xk) (v10:List Xg) (v11:Int):Int→Option ((Int⊕Unit)):=
 Y9 fun s=>Xdn.B v v10 v11 s
def Xa0 (v:Xk):Option Int:=
 (some (cond (decide ((v.1.length:Int)>60)) true (decide ((v.2.1.length:Int)>200)))).bind fun v2=>cond v2 (some 2) ((Xdc v v.1 (v.1.length:Int) 0).bind fun v7=>sel v7 (fun v8=>some v8) (fun v9=>(Xdn v v.2.1 (v.2.1.length:Int) 0).bind fun v16=>sel v16 (fun v17=>some v17) (fun v18=>some 0)))
namespace Xa0
def G:Gam:=mkG [(178,Xen.FS),(179,Xhh.FS),(150,Xz.FS)]
theorem Gok:GOk PR G:=.cons Xen.ok (.cons Xhh.ok (.cons Xz.ok .nil))
end Xa0
namespace Xdc
def c:=Yap (Yaf Proofs.Tryz.f109) [1,1,0,1,0,0]
def sp:SP:=⟨[(1,.pt Xj),(20,.cs (.sl SI)),(21,.cs I64),(22,.cs I64)],[]⟩
def fr:=Yja sp (fun x s=>Xdc.B x.1.1 x.1.2.1 x.1.2.2.1 s) (fun x=>x.1.2.2.2.1) fun x (oo0:(Int⊕Unit)) _ kk0=>sel oo0 (fun bb0=>kk0 (.rt) ⟨[(2,.cs I64 bb0)],[]⟩) (fun cc0=>kk0 (.ex 0) ⟨[(1,.pt Xj x.1.1)],[]⟩)
theorem ok:Ya7 PR 54 1 (.loop c) fr:=
 Yt2 Xe Xd ⟨[1],[],[],0⟩ .no (G:=Xa0.G) Xa0.Gok (L:=mkL []) (l:=[]) hT [(0,([1],[]))] ([2],[]) (fun x s=>((x.1.1,x.1.2.1,x.1.2.2.1,s,x.1.2.2.2.2),x.2))
  (fun x s=>by simp only[B,mC,mB,mS,mO,mN];kernel_rfl)
end Xdc
namespace Xdn
def c:=Yap (Yaf Proofs.Tryz.f109) [1,1,1,0,1,0,0]
def sp:SP:=⟨[(1,.pt Xj),(33,.cs (.sl Xi)),(34,.cs I64),(35,.cs I64)],[]⟩
def fr:=Yja sp (fun x s=>Xdn.B x.1.1 x.1.2.1 x.1.2.2.1 s) (fun x=>x.1.2.2.2.1) fun x (oo0:(Int⊕Unit)) _ kk0=>sel oo0 (fun bb0=>kk0 (.rt) ⟨[(2,.cs I64 bb0)],[]⟩) (fun cc0=>kk0 (.ex 2) ⟨[],[]⟩)
theorem ok:Ya7 PR 54 1 (.loop c) fr:=
 Yt2 Xe Xd ⟨[1],[],[],0⟩ .no (G:=Xa0.G) Xa0.Gok (L:=mkL []) (l:=[]) hT [(2,([],[]))] ([2],[]) (fun x s=>((x.1.1,x.1.2.1,x.1.2.2.1,s,x.1.2.2.2.2),x.2))
  (fun x s=>by simp only[B,mC,mB,mS,mO,mN];kernel_rfl)
end Xdn
namespace Xa0
def pts:List PT:=[.cs Xj]
def FS:FS:=Ybk [.sh] pts (fun x=>Xa0 x.1) fun t=>⟨[.cs I64 t],[]⟩
theorem ok:Yb2 PR 109 FS:=
 Yxn Xe Xd Proofs.Tryz.f109 ⟨[1],[],[],0⟩ (.R (.R (.two (.R (.one (.fr 0))) (.L (.R (.one (.fr 1))))))) (G:=G) Gok (L:=mkL [(0,Xdc.fr),(1,Xdn.fr)]) (l:=[(0,.loop Xdc.c),(1,.loop Xdn.c)]) ⟨Lam.cons Xdc.ok,Lam.skip rfl (Lam.cons Xdn.ok),trivial⟩
  (fun x=>by simp only[Xa0,mC,mB,mS,mO,mN];kernel_rfl)
end Xa0
noncomputable def Xel (d:Xk) (at_:Int):Option (List Int):=Yl3 d at_
def Xel.FS:FS:=Ybk [.sh,.sh] [.pt Yq,.cl .sh (.int .i64)] (fun x=>Yl3 x.1 x.2.1) fun y=>⟨[.cl .sh (.sl (.int .i64)) y],[]⟩
theorem Xel.ok:Yb2 Go.Proofs.Tryz.prog 110 Xel.FS:=
 Yv4 ⟨Go.Proofs.Tryz.f110,by kernel_rfl,by kernel_rfl,by kernel_rfl⟩ (fun bd od at_ A C nB cB nC cC hd w v h1 h2 h3 h4 h5 h6=>callsIn_wide.1 (Go.Proofs.Bk.block_in Fence.wide 3 trivial trivial trivial rfl (by omega) bd od at_ A C nB cB nC cC hd w v h1 h2 h3 h4 h5 h6))
def Xhf (v:Int):Option Bool:=
 (Xz v 1 60000).bind fun v2=>some v2
namespace Xhf
def G:Gam:=mkG [(150,Xz.FS)]
def pts:List PT:=[.cs I64]
def FS:FS:=Ybk [.sh] pts (fun x=>Xhf x.1) fun t=>⟨[.cs .bool t],[]⟩
theorem ok:Yb2 PR 111 FS:=
 Yxn Xe Xd Proofs.Tryz.f111 h0 .no (G:=G) (show GOk PR G from .cons Xz.ok .nil) (L:=mkL []) (l:=[]) hT
  (fun x=>by simp only[Xhf,mC,mB,mS,mO,mN];kernel_rfl)
end Xhf
def Xch (v:Xk):Option (Int×Int):=
 (Xa0 v).bind fun v2=>cond (v2 != 0) (some (0,v2)) (cond ((v.1.length:Int) != 47) (some (0,1)) ((Xel v 0).bind fun v3=>cond (cond (!((v3.length:Int) != 2)) (inB 0 v3.length) true) ((some (cond ((v3.length:Int) != 2) true ((v3.getD (0:Int).toNat 0) != 7))).bind fun v4=>cond v4 (some (0,5)) (cond (inB 1 v3.length) ((Xhf (v3.getD (1:Int).toNat 0)).bind fun v5=>cond (!v5) (some (0,5)) (cond (inB 1 v3.length) (some (v3.getD (1:Int).toNat 0,0)) none)) none)) none))
namespace Xch
def G:Gam:=mkG [(109,Xa0.FS),(110,Xel.FS),(111,Xhf.FS)]
def pts:List PT:=[.cs Xj]
def FS:FS:=Ybk [.sh] pts (fun x=>Xch x.1) fun t=>⟨[.cs I64 t.1,.cs I64 t.2],[]⟩
theorem ok:Yb2 PR 53 FS:=
 Yxn Xe Xd Proofs.Tryz.f53 ⟨[1],[],[],0⟩ .no (G:=G) (show GOk PR G from .cons Xa0.ok (.cons Xel.ok (.cons Xhf.ok .nil))) (L:=mkL []) (l:=[]) hT
  (fun x=>by simp only[Xch,mC,mB,mS,mO,mN];kernel_rfl)
end Xch
def Xhi (v:List Int):Option Int:=
 some (v.length:Int)
namespace Xhi
def pts:List PT:=[.cs SI]
def FS:FS:=Ybk [.sh] pts (fun x=>Xhi x.1) fun t=>⟨[.cs I64 t],[]⟩
theorem ok:Yb2 PR 138 FS:=
 Yxn Xe Xd Proofs.Tryz.f138 h0 .no (G:=(mkG [])) .nil (L:=mkL []) (l:=[]) hT
  (fun x=>by simp only[Xhi,mC,mB,mS,mO,mN];kernel_rfl)
end Xhi
def Xho (v:Int):Option Int:=
 cond (!((8:Int) == 0)) (some (w64 ((w64 ((w64 (v+8))-1)).tdiv 8))) none
namespace Xho
def pts:List PT:=[.cs I64]
def FS:FS:=Ybk [.sh] pts (fun x=>Xho x.1) fun t=>⟨[.cs I64 t],[]⟩
theorem ok:Yb2 PR 257 FS:=
 Yxn Xe Xd Proofs.Tryz.f257 h0 .no (G:=(mkG [])) .nil (L:=mkL []) (l:=[]) hT
  (fun x=>by simp only[Xho,mC,mB,mS,mO,mN];kernel_rfl)
end Xho
def Xhl (v:Int):Option Bool:=
 (Xz v 0 19).bind fun v2=>some (!v2)
namespace Xhl
def G:Gam:=mkG [(150,Xz.FS)]
def pts:List PT:=[.cs I64]
def FS:FS:=Ybk [.sh] pts (fun x=>Xhl x.1) fun t=>⟨[.cs .bool t],[]⟩
theorem ok:Yb2 PR 258 FS:=
 Yxn Xe Xd Proofs.Tryz.f258 h0 .no (G:=G) (show GOk PR G from .cons Xz.ok .nil) (L:=mkL []) (l:=[]) hT
  (fun x=>by simp only[Xhl,mC,mB,mS,mO,mN];kernel_rfl)
end Xhl
def Xde.B (v:List Int) (v2:Unit) (v3:Int) (v4:Int):Option (Int⊕((Int⊕Unit))):=
 cond (decide (v4<v3)) (cond (inB v4 v.length) ((Xhl (v.getD v4.toNat 0)).bind fun v5=>cond v5 (some (.inr (.inl v4))) (some (.inl (w64 (v4+1))))) none) (some (.inr (.inr ())))
def Xde (v:List Int) (v2:Unit) (v3:Int):Int→Option ((Int⊕Unit)):=
 Y9 fun s=>Xde.B v v2 v3 s
def Xdl (v:List Int) (v2:Unit):Option Int:=
 (Xde v v2 (v.length:Int) 0).bind fun v6=>sel v6 (fun v7=>some v7) (fun v8=>some (-1))
namespace Xdl
def G:Gam:=mkG [(258,Xhl.FS)]
theorem Gok:GOk PR G:=.cons Xhl.ok .nil
end Xdl
namespace Xde
def c:=Yap (Yaf Proofs.Tryz.f233) [1,0,1,0,0]
def sp:SP:=⟨[(0,.cs SI),(1,.clo 258 (.cs .unit)),(7,.cs I64),(8,.cs I64)],[]⟩
def fr:=Yja sp (fun x s=>Xde.B x.1.1 x.1.2.1 x.1.2.2.1 s) (fun x=>x.1.2.2.2.1) fun x (oo0:(Int⊕Unit)) _ kk0=>sel oo0 (fun bb0=>kk0 (.rt) ⟨[(4,.cs I64 bb0)],[]⟩) (fun cc0=>kk0 (.ex 0) ⟨[],[]⟩)
theorem ok:Ya7 PR 19 2 (.loop c) fr:=
 Yt2 Xe Xd h0 .no (G:=Xdl.G) Xdl.Gok (L:=mkL []) (l:=[]) hT [(0,([],[]))] ([4],[]) (fun x s=>((x.1.1,x.1.2.1,x.1.2.2.1,s,x.1.2.2.2.2),x.2))
  (fun x s=>by simp only[B,mC,mB,mS,mO,mN];kernel_rfl)
end Xde
namespace Xdl
def pts:List PT:=[.cs SI,.clo 258 (.cs .unit)]
def FS:FS:=Ybk [.sh,.sh] pts (fun x=>Xdl x.1 x.2.1) fun t=>⟨[.cs I64 t],[]⟩
theorem ok:Yb2 PR 233 FS:=
 Yxn Xe Xd Proofs.Tryz.f233 h0 (.R (.L (.R (.one (.fr 0))))) (G:=G) Gok (L:=mkL [(0,Xde.fr)]) (l:=[(0,.loop Xde.c)]) ⟨Lam.cons Xde.ok,trivial⟩
  (fun x=>by simp only[Xdl,mC,mB,mS,mO,mN];kernel_rfl)
end Xdl
def Xfu (v:List Int) (v2:Unit):Option Bool:=
 (Xdl v v2).bind fun v3=>some (decide (v3≥0))
namespace Xfu
def G:Gam:=mkG [(233,Xdl.FS)]
def pts:List PT:=[.cs SI,.clo 258 (.cs .unit)]
def FS:FS:=Ybk [.sh,.sh] pts (fun x=>Xfu x.1 x.2.1) fun t=>⟨[.cs .bool t],[]⟩
theorem ok:Yb2 PR 201 FS:=
 Yxn Xe Xd Proofs.Tryz.f201 h0 .no (G:=G) (show GOk PR G from .cons Xdl.ok .nil) (L:=mkL []) (l:=[]) hT
  (fun x=>by simp only[Xfu,mC,mB,mS,mO,mN];kernel_rfl)
end Xfu
def Xdd.B (v:List Int) (v2:Int) (v3:Int) (v4:Int):Option (Int⊕((Int⊕Unit))):=
 cond (decide (v4<v3)) (cond (inB v4 v.length) (cond (v2 == (v.getD v4.toNat 0)) (some (.inr (.inl v4))) (some (.inl (w64 (v4+1))))) none) (some (.inr (.inr ())))
def Xdd (v:List Int) (v2:Int) (v3:Int):Int→Option ((Int⊕Unit)):=
 Y9 fun s=>Xdd.B v v2 v3 s
def Xhj (v:List Int) (v2:Int):Option Int:=
 (Xdd v v2 (v.length:Int) 0).bind fun v5=>sel v5 (fun v6=>some v6) (fun v7=>some (-1))
namespace Xdd
def c:=Yap (Yaf Proofs.Tryz.f212) [1,0,1,0,0]
def sp:SP:=⟨[(0,.cs SI),(1,.cs I64),(7,.cs I64),(8,.cs I64)],[]⟩
def fr:=Yja sp (fun x s=>Xdd.B x.1.1 x.1.2.1 x.1.2.2.1 s) (fun x=>x.1.2.2.2.1) fun x (oo0:(Int⊕Unit)) _ kk0=>sel oo0 (fun bb0=>kk0 (.rt) ⟨[(4,.cs I64 bb0)],[]⟩) (fun cc0=>kk0 (.ex 0) ⟨[],[]⟩)
theorem ok:Ya7 PR 19 2 (.loop c) fr:=
 Yt2 Xe Xd h0 .no (G:=(mkG [])) .nil (L:=mkL []) (l:=[]) hT [(0,([],[]))] ([4],[]) (fun x s=>((x.1.1,x.1.2.1,x.1.2.2.1,s,x.1.2.2.2.2),x.2))
  (fun x s=>by simp only[B,mC,mB,mS,mO,mN];kernel_rfl)
end Xdd
namespace Xhj
def pts:List PT:=[.cs SI,.cs I64]
def FS:FS:=Ybk [.sh,.sh] pts (fun x=>Xhj x.1 x.2.1) fun t=>⟨[.cs I64 t],[]⟩
theorem ok:Yb2 PR 212 FS:=
 Yxn Xe Xd Proofs.Tryz.f212 h0 (.R (.L (.R (.one (.fr 0))))) (G:=(mkG [])) .nil (L:=mkL [(0,Xdd.fr)]) (l:=[(0,.loop Xdd.c)]) ⟨Lam.cons Xdd.ok,trivial⟩
  (fun x=>by simp only[Xhj,mC,mB,mS,mO,mN];kernel_rfl)
end Xhj
def Xdg (v:List Int) (v2:Int):Option Bool:=
 (Xhj v v2).bind fun v3=>some (decide (v3≥0))
namespace Xdg
def G:Gam:=mkG [(212,Xhj.FS)]
def pts:List PT:=[.cs SI,.cs I64]
def FS:FS:=Ybk [.sh,.sh] pts (fun x=>Xdg x.1 x.2.1) fun t=>⟨[.cs .bool t],[]⟩
theorem ok:Yb2 PR 148 FS:=
 Yxn Xe Xd Proofs.Tryz.f148 h0 .no (G:=G) (show GOk PR G from .cons Xhj.ok .nil) (L:=mkL []) (l:=[]) hT
  (fun x=>by simp only[Xdg,mC,mB,mS,mO,mN];kernel_rfl)
end Xdg
def Xcn.B (v:Xa) (v7:List Int) (v8:Int) (v9:Int):Option (Int⊕((Int⊕Unit))):=
 cond (decide (v9<v8)) (cond (inB v9 v7.length) (cond (decide ((0:Int)≤v9)&&decide (v9≤(v.2.2.2.1.length:Int))) ((Xdg ((v.2.2.2.1.take v9.toNat).drop 0) (v7.getD v9.toNat 0)).bind fun v10=>cond v10 (some (.inr (.inl 7))) (some (.inl (w64 (v9+1))))) none) none) (some (.inr (.inr ())))
def Xcn (v:Xa) (v7:List Int) (v8:Int):Int→Option ((Int⊕Unit)):=
 Y9 fun s=>Xcn.B v v7 v8 s
def Xcg (v:Xa):Option Int:=
 (Xz v.2.1 1 60).bind fun v2=>cond (!v2) (some 3) ((Xz v.2.2.1 0 32).bind fun v3=>cond (!v3) (some 3) ((Xhi v.2.2.2.1).bind fun v4=>(Xho v.2.2.1).bind fun v5=>cond (v4 != v5) (some 1) ((Xfu v.2.2.2.1 ()).bind fun v6=>cond v6 (some 3) ((Xcn v v.2.2.2.1 (v.2.2.2.1.length:Int) 0).bind fun v11=>sel v11 (fun v12=>some v12) (fun v13=>some 0)))))
namespace Xcg
def G:Gam:=mkG [(150,Xz.FS),(138,Xhi.FS),(257,Xho.FS),(201,Xfu.FS),(148,Xdg.FS)]
theorem Gok:GOk PR G:=.cons Xz.ok (.cons Xhi.ok (.cons Xho.ok (.cons Xfu.ok (.cons Xdg.ok .nil))))
end Xcg
namespace Xcn
def c:=Yap (Yaf Proofs.Tryz.f241) [1,1,0,1,0,0]
def sp:SP:=⟨[(1,.pt Xc),(29,.cs SI),(30,.cs I64),(31,.cs I64)],[]⟩
def fr:=Yja sp (fun x s=>Xcn.B x.1.1 x.1.2.1 x.1.2.2.1 s) (fun x=>x.1.2.2.2.1) fun x (oo0:(Int⊕Unit)) _ kk0=>sel oo0 (fun bb0=>kk0 (.rt) ⟨[(2,.cs I64 bb0)],[]⟩) (fun cc0=>kk0 (.ex 1) ⟨[],[]⟩)
theorem ok:Ya7 PR 43 1 (.loop c) fr:=
 Yt2 Xe Xd ⟨[1],[],[],0⟩ .no (G:=Xcg.G) Xcg.Gok (L:=mkL []) (l:=[]) hT [(1,([],[]))] ([2],[]) (fun x s=>((x.1.1,x.1.2.1,x.1.2.2.1,s,x.1.2.2.2.2),x.2))
  (fun x s=>by simp only[B,mC,mB,mS,mO,mN];kernel_rfl)
end Xcn
namespace Xcg
def pts:List PT:=[.cs Xc]
def FS:FS:=Ybk [.sh] pts (fun x=>Xcg x.1) fun t=>⟨[.cs I64 t],[]⟩
theorem ok:Yb2 PR 241 FS:=
 Yxn Xe Xd Proofs.Tryz.f241 ⟨[1],[],[],0⟩ (.R (.R (.L (.R (.one (.fr 0)))))) (G:=G) Gok (L:=mkL [(0,Xcn.fr)]) (l:=[(0,.loop Xcn.c)]) ⟨Lam.cons Xcn.ok,trivial⟩
  (fun x=>by simp only[Xcg,mC,mB,mS,mO,mN];kernel_rfl)
end Xcg
def Xdf.B (v:List UInt8) (v2:Int) (v3:Int):Option (Int⊕((Int⊕Unit))):=
 cond (decide (v3<v2)) (cond (inB v3 v.length) (cond (cond (!(decide (((v.getD v3.toNat 0).toNat:Int)<97))) (inB v3 v.length) true) ((some (cond (decide (((v.getD v3.toNat 0).toNat:Int)<97)) true (decide (((v.getD v3.toNat 0).toNat:Int)>122)))).bind fun v4=>cond v4 (some (.inr (.inl 5))) (some (.inl (w64 (v3+1))))) none) none) (some (.inr (.inr ())))
def Xdf (v:List UInt8) (v2:Int):Int→Option ((Int⊕Unit)):=
 Y9 fun s=>Xdf.B v v2 s
def Xfs (v:List UInt8):Option Int:=
 cond (v == ([]:List UInt8)) (some 5) ((Xdf v (v.length:Int) 0).bind fun v5=>sel v5 (fun v6=>some v6) (fun v7=>cond (decide ((v.length:Int)>4)) (some 2) (some 0)))
namespace Xdf
def c:=Yap (Yaf Proofs.Tryz.f259) [1,1,0,1,0,0]
def sp:SP:=⟨[(0,.cs .str),(7,.cs I64),(8,.cs I64)],[]⟩
def fr:=Yja sp (fun x s=>Xdf.B x.1.1 x.1.2.1 s) (fun x=>x.1.2.2.1) fun x (oo0:(Int⊕Unit)) _ kk0=>sel oo0 (fun bb0=>kk0 (.rt) ⟨[(2,.cs I64 bb0)],[]⟩) (fun cc0=>kk0 (.ex 0) ⟨[(0,.cs .str x.1.1)],[]⟩)
theorem ok:Ya7 PR 25 1 (.loop c) fr:=
 Yt2 Xe Xd h0 .no (G:=(mkG [])) .nil (L:=mkL []) (l:=[]) hT [(0,([0],[]))] ([2],[]) (fun x s=>((x.1.1,x.1.2.1,s,x.1.2.2.2),x.2))
  (fun x s=>by simp only[B,mC,mB,mS,mO,mN];kernel_rfl)
end Xdf
namespace Xfs
def pts:List PT:=[.cs .str]
def FS:FS:=Ybk [.sh] pts (fun x=>Xfs x.1) fun t=>⟨[.cs I64 t],[]⟩
theorem ok:Yb2 PR 259 FS:=
 Yxn Xe Xd Proofs.Tryz.f259 h0 (.R (.R (.L (.R (.one (.fr 0)))))) (G:=(mkG [])) .nil (L:=mkL [(0,Xdf.fr)]) (l:=[(0,.loop Xdf.c)]) ⟨Lam.cons Xdf.ok,trivial⟩
  (fun x=>by simp only[Xfs,mC,mB,mS,mO,mN];kernel_rfl)
end Xfs
def Xcq.B (v:Xa) (v2:List Xf) (v3:Int) (v4:Int):Option (Int⊕((Int⊕Unit))):=
 cond (decide (v4<v3)) (cond (inB v4 v2.length) ((Xfs (v2.getD v4.toNat Xo).1).bind fun v5=>cond (v5 != 0) (some (.inr (.inl v5))) ((Xz (v2.getD v4.toNat Xo).2.1 0 9).bind fun v6=>cond (!v6) (some (.inr (.inl 3))) (cond (cond (decide (v4>0)) (inB (w64 (v4-1)) v.2.2.2.2.1.length) true) ((some (cond (decide (v4>0)) (!leB (v.2.2.2.2.1.getD (w64 (v4-1)).toNat Xo).1 (v2.getD v4.toNat Xo).1) false)).bind fun v7=>cond v7 (some (.inr (.inl 1))) (some (.inl (w64 (v4+1))))) none))) none) (some (.inr (.inr ())))
def Xcq (v:Xa) (v2:List Xf) (v3:Int):Int→Option ((Int⊕Unit)):=
 Y9 fun s=>Xcq.B v v2 v3 s
def Xcr (v:Xa):Option Int:=
 cond (decide ((v.2.2.2.2.1.length:Int)>6)) (some 2) ((Xcq v v.2.2.2.2.1 (v.2.2.2.2.1.length:Int) 0).bind fun v8=>sel v8 (fun v9=>some v9) (fun v10=>some 0))
namespace Xcr
def G:Gam:=mkG [(259,Xfs.FS),(150,Xz.FS)]
theorem Gok:GOk PR G:=.cons Xfs.ok (.cons Xz.ok .nil)
end Xcr
namespace Xcq
def c:=Yap (Yaf Proofs.Tryz.f242) [1,1,0,1,0,0]
def sp:SP:=⟨[(1,.pt Xc),(11,.cs (.sl Xh)),(12,.cs I64),(13,.cs I64)],[]⟩
def fr:=Yja sp (fun x s=>Xcq.B x.1.1 x.1.2.1 x.1.2.2.1 s) (fun x=>x.1.2.2.2.1) fun x (oo0:(Int⊕Unit)) _ kk0=>sel oo0 (fun bb0=>kk0 (.rt) ⟨[(2,.cs I64 bb0)],[]⟩) (fun cc0=>kk0 (.ex 0) ⟨[],[]⟩)
theorem ok:Ya7 PR 43 1 (.loop c) fr:=
 Yt2 Xe Xd ⟨[1],[],[],0⟩ .no (G:=Xcr.G) Xcr.Gok (L:=mkL []) (l:=[]) hT [(0,([],[]))] ([2],[]) (fun x s=>((x.1.1,x.1.2.1,x.1.2.2.1,s,x.1.2.2.2.2),x.2))
  (fun x s=>by simp only[B,mC,mB,mS,mO,mN];kernel_rfl)
end Xcq
namespace Xcr
def pts:List PT:=[.cs Xc]
def FS:FS:=Ybk [.sh] pts (fun x=>Xcr x.1) fun t=>⟨[.cs I64 t],[]⟩
theorem ok:Yb2 PR 242 FS:=
 Yxn Xe Xd Proofs.Tryz.f242 ⟨[1],[],[],0⟩ (.R (.R (.L (.R (.one (.fr 0)))))) (G:=G) Gok (L:=mkL [(0,Xcq.fr)]) (l:=[(0,.loop Xcq.c)]) ⟨Lam.cons Xcq.ok,trivial⟩
  (fun x=>by simp only[Xcr,mC,mB,mS,mO,mN];kernel_rfl)
end Xcr
def Xft (v:Xa):Option Int:=
 (some (cond (cond (v.2.1 == 0) (v.2.2.1 == 0) false) ((v.2.2.2.1.length:Int) == 0) false)).bind fun v2=>(Xz v.1 0 2).bind fun v3=>cond (!v3) (some 1) (cond (cond (v.1 != 1) (!v2) false) (some 1) ((some (cond (v.1 != 2) (!((v.2.2.2.2.1.length:Int) == 0)) false)).bind fun v4=>cond v4 (some 1) (cond (v.1 == 1) ((Xcg v).bind fun v5=>some v5) ((Xcr v).bind fun v6=>some v6))))
namespace Xft
def G:Gam:=mkG [(150,Xz.FS),(241,Xcg.FS),(242,Xcr.FS)]
def pts:List PT:=[.cs Xc]
def FS:FS:=Ybk [.sh] pts (fun x=>Xft x.1) fun t=>⟨[.cs I64 t],[]⟩
theorem ok:Yb2 PR 232 FS:=
 Yxn Xe Xd Proofs.Tryz.f232 ⟨[1],[],[],0⟩ .no (G:=G) (show GOk PR G from .cons Xz.ok (.cons Xcg.ok (.cons Xcr.ok .nil))) (L:=mkL []) (l:=[]) hT
  (fun x=>by simp only[Xft,mC,mB,mS,mO,mN];kernel_rfl)
end Xft
def Xdo.B (v:List Xa) (v2:Int) (v3:Int):Option (Int⊕((Int⊕Unit))):=
 cond (decide (v3<v2)) (cond (inB v3 v.length) ((Xft (v.getD v3.toNat Xb)).bind fun v4=>cond (v4 != 0) (some (.inr (.inl v4))) (some (.inl (w64 (v3+1))))) none) (some (.inr (.inr ())))
def Xdo (v:List Xa) (v2:Int):Int→Option ((Int⊕Unit)):=
 Y9 fun s=>Xdo.B v v2 s
def Xcj (v:List Xa):Option Int:=
 cond (decide ((v.length:Int)>10)) (some 2) ((Xdo v (v.length:Int) 0).bind fun v5=>sel v5 (fun v6=>some v6) (fun v7=>some 0))
namespace Xcj
def G:Gam:=mkG [(232,Xft.FS)]
theorem Gok:GOk PR G:=.cons Xft.ok .nil
end Xcj
namespace Xdo
def c:=Yap (Yaf Proofs.Tryz.f224) [1,1,0,1,0,0]
def sp:SP:=⟨[(9,.cs (.sl Xc)),(10,.cs I64),(11,.cs I64)],[]⟩
def fr:=Yja sp (fun x s=>Xdo.B x.1.1 x.1.2.1 s) (fun x=>x.1.2.2.1) fun x (oo0:(Int⊕Unit)) _ kk0=>sel oo0 (fun bb0=>kk0 (.rt) ⟨[(2,.cs I64 bb0)],[]⟩) (fun cc0=>kk0 (.ex 0) ⟨[],[]⟩)
theorem ok:Ya7 PR 21 1 (.loop c) fr:=
 Yt2 Xe Xd h0 .no (G:=Xcj.G) Xcj.Gok (L:=mkL []) (l:=[]) hT [(0,([],[]))] ([2],[]) (fun x s=>((x.1.1,x.1.2.1,s,x.1.2.2.2),x.2))
  (fun x s=>by simp only[B,mC,mB,mS,mO,mN];kernel_rfl)
end Xdo
namespace Xcj
def pts:List PT:=[.cs (.sl Xc)]
def FS:FS:=Ybk [.sh] pts (fun x=>Xcj x.1) fun t=>⟨[.cs I64 t],[]⟩
theorem ok:Yb2 PR 224 FS:=
 Yxn Xe Xd Proofs.Tryz.f224 h0 (.R (.R (.L (.R (.one (.fr 0)))))) (G:=G) Gok (L:=mkL [(0,Xdo.fr)]) (l:=[(0,.loop Xdo.c)]) ⟨Lam.cons Xdo.ok,trivial⟩
  (fun x=>by simp only[Xcj,mC,mB,mS,mO,mN];kernel_rfl)
end Xcj
def Xfb (v:Fs_):Option Int:=
 (Xcj v.1).bind fun v2=>cond (v2 != 0) (some v2) (cond (cond (!((v.1.length:Int) == 0)) (inB 0 v.1.length) true) ((some (cond ((v.1.length:Int) == 0) true ((v.1.getD (0:Int).toNat Xb).1 != 2))).bind fun v3=>cond (cond v3 true ((v.2.1.length:Int) != 20)) (some 1) (some 0)) none)
namespace Xfb
def G:Gam:=mkG [(224,Xcj.FS)]
def pts:List PT:=[.cs Xn]
def FS:FS:=Ybk [.sh] pts (fun x=>Xfb x.1) fun t=>⟨[.cs I64 t],[]⟩
theorem ok:Yb2 PR 181 FS:=
 Yxn Xe Xd Proofs.Tryz.f181 ⟨[1],[],[],0⟩ .no (G:=G) (show GOk PR G from .cons Xcj.ok .nil) (L:=mkL []) (l:=[]) hT
  (fun x=>by simp only[Xfb,mC,mB,mS,mO,mN];kernel_rfl)
end Xfb
def Xhe (v:List Int):Option Bool:=
 some (decide ((v.length:Int)>8))
namespace Xhe
def pts:List PT:=[.cs SB]
def FS:FS:=Ybk [.sh] pts (fun x=>Xhe x.1) fun t=>⟨[.cs .bool t],[]⟩
theorem ok:Yb2 PR 183 FS:=
 Yxn Xe Xd Proofs.Tryz.f183 h0 .no (G:=(mkG [])) .nil (L:=mkL []) (l:=[]) hT
  (fun x=>by simp only[Xhe,mC,mB,mS,mO,mN];kernel_rfl)
end Xhe
def Xdq.B (v:List (List Int)) (v2:Unit) (v3:Int) (v4:Int):Option (Int⊕((Int⊕Unit))):=
 cond (decide (v4<v3)) (cond (inB v4 v.length) ((Xhe (v.getD v4.toNat [])).bind fun v5=>cond v5 (some (.inr (.inl v4))) (some (.inl (w64 (v4+1))))) none) (some (.inr (.inr ())))
def Xdq (v:List (List Int)) (v2:Unit) (v3:Int):Int→Option ((Int⊕Unit)):=
 Y9 fun s=>Xdq.B v v2 v3 s
def Xdk (v:List (List Int)) (v2:Unit):Option Int:=
 (Xdq v v2 (v.length:Int) 0).bind fun v6=>sel v6 (fun v7=>some v7) (fun v8=>some (-1))
namespace Xdk
def G:Gam:=mkG [(183,Xhe.FS)]
theorem Gok:GOk PR G:=.cons Xhe.ok .nil
end Xdk
namespace Xdq
def c:=Yap (Yaf Proofs.Tryz.f225) [1,0,1,0,0]
def sp:SP:=⟨[(0,.cs (.sl SB)),(1,.clo 183 (.cs .unit)),(7,.cs I64),(8,.cs I64)],[]⟩
def fr:=Yja sp (fun x s=>Xdq.B x.1.1 x.1.2.1 x.1.2.2.1 s) (fun x=>x.1.2.2.2.1) fun x (oo0:(Int⊕Unit)) _ kk0=>sel oo0 (fun bb0=>kk0 (.rt) ⟨[(4,.cs I64 bb0)],[]⟩) (fun cc0=>kk0 (.ex 0) ⟨[],[]⟩)
theorem ok:Ya7 PR 19 2 (.loop c) fr:=
 Yt2 Xe Xd h0 .no (G:=Xdk.G) Xdk.Gok (L:=mkL []) (l:=[]) hT [(0,([],[]))] ([4],[]) (fun x s=>((x.1.1,x.1.2.1,x.1.2.2.1,s,x.1.2.2.2.2),x.2))
  (fun x s=>by simp only[B,mC,mB,mS,mO,mN];kernel_rfl)
end Xdq
namespace Xdk
def pts:List PT:=[.cs (.sl SB),.clo 183 (.cs .unit)]
def FS:FS:=Ybk [.sh,.sh] pts (fun x=>Xdk x.1 x.2.1) fun t=>⟨[.cs I64 t],[]⟩
theorem ok:Yb2 PR 225 FS:=
 Yxn Xe Xd Proofs.Tryz.f225 h0 (.R (.L (.R (.one (.fr 0))))) (G:=G) Gok (L:=mkL [(0,Xdq.fr)]) (l:=[(0,.loop Xdq.c)]) ⟨Lam.cons Xdq.ok,trivial⟩
  (fun x=>by simp only[Xdk,mC,mB,mS,mO,mN];kernel_rfl)
end Xdk
def Xfj (v:List (List Int)) (v2:Unit):Option Bool:=
 (Xdk v v2).bind fun v3=>some (decide (v3≥0))
namespace Xfj
def G:Gam:=mkG [(225,Xdk.FS)]
def pts:List PT:=[.cs (.sl SB),.clo 183 (.cs .unit)]
def FS:FS:=Ybk [.sh,.sh] pts (fun x=>Xfj x.1 x.2.1) fun t=>⟨[.cs .bool t],[]⟩
theorem ok:Yb2 PR 182 FS:=
 Yxn Xe Xd Proofs.Tryz.f182 h0 .no (G:=G) (show GOk PR G from .cons Xdk.ok .nil) (L:=mkL []) (l:=[]) hT
  (fun x=>by simp only[Xfj,mC,mB,mS,mO,mN];kernel_rfl)
end Xfj
noncomputable def Xhd (s:List Int):Option (List Int):=Yub s
def Xhd.FS:FS:=Ybk [.mu] [.cl .deep (.sl (.int .i64))] (fun x=>Xhd x.1) fun y=>⟨[],[.cl .deep (.sl (.int .i64)) y]⟩
theorem Xhd.ok:Yb2 Go.Proofs.Tryz.prog 210 Xhd.FS:=
 Ywt ⟨Go.Proofs.Tryz.f210,by kernel_rfl,by kernel_rfl,by kernel_rfl⟩ (fun blk off cap zs w h1 h2 h3=>Go.Proofs.AnyM.slices_Sort_int Go.Proofs.Tryz.Xj3 blk off cap zs w h1 h2 h3) (fun p cap w=>Go.Proofs.AnyM.slices_Sort_int_none Go.Proofs.Tryz.Xj3 p cap w)
noncomputable def Xdh (s:List Int):Option (List Int):=Ymd s
noncomputable def Xdh.FS:FS:=Ybk [.sh] [.cl .sh (.sl (.int .i64))] (fun x=>Xdh x.1) fun y=>⟨[.cl .deep (.sl (.int .i64)) y],[]⟩
theorem Xdh.ok:Yb2 Go.Proofs.Tryz.prog 118 Xdh.FS:=
 Ywd (hn:=⟨[],[],[],0⟩) Xe Xd (fn:=Go.Proofs.Tryz.f118) (by kernel_rfl) (Ygs (by kernel_rfl)) (by kernel_rfl) (by kernel_rfl) .deep (.int .i64) 51 51 2 (by kernel_rfl) (by kernel_rfl) (by kernel_rfl) (by kernel_rfl) (by kernel_rfl) (by kernel_rfl) (by kernel_rfl) (by kernel_rfl) (fun xs=>by kernel_rfl) (fun xs=>by kernel_rfl) (fun xs=>by kernel_rfl) (fun xs=>by kernel_rfl)
def Xas.B (v5:Nat) (v6:Nat) (v4:Int) (v7:Int) (v8:List Int):Option ((Int×Int×List Int)⊕(Int×List Int)):=
 cond (decide (v7<(v6:Int))) (cond (inB v7 v6) (cond (inB (w64 (v7-1)) v6) ((some ((v8.getD (v5+v7.toNat) 0) != (v8.getD (v5+(w64 (v7-1)).toNat) 0))).bind fun v9=>cond v9 (cond (inB v7 v6) (cond (inB v4 v8.length) (some (.inl (w64 (v4+1),w64 (v7+1),v8.set v4.toNat (v8.getD (v5+v7.toNat) 0)))) none) none) (some (.inl (v4,w64 (v7+1),v8)))) none) none) (some (.inr (v4,v8)))
def Xas (v5:Nat) (v6:Nat):(Int×Int×List Int)→Option (Int×List Int):=
 Y9 fun s=>Xas.B v5 v6 s.1 s.2.1 s.2.2
def Xac.B (v:List Int) (v2:Int):Option (Int⊕(((Nat×Nat×List Int)⊕Unit))):=
 cond (decide (v2<(v.length:Int))) (cond (inB v2 v.length) (cond (inB (w64 (v2-1)) v.length) ((some ((v.getD v2.toNat 0) == (v.getD ((w64 (v2-1)).toNat) 0))).bind fun v3=>cond v3 (cond (decide ((0:Int)≤v2)&&decide (v2≤(v.length:Int))) ((Xas v2.toNat (v.length-v2.toNat) (v2,1,v)).bind fun v10=>cond (decide ((0:Int)≤v10.1)&&decide (v10.1≤(v10.2.length:Int))) ((some (splice v10.2 v10.1.toNat (List.replicate (v10.2.length-v10.1.toNat) 0))).bind fun v11=>cond (decide ((0:Int)≤v10.1)&&decide (v10.1≤(v11.length:Int))) (some (.inr (.inl (0,v10.1.toNat-0,v11)))) none) none) none) (some (.inl (w64 (v2+1))))) none) none) (some (.inr (.inr ())))
def Xac (v:List Int):Int→Option (((Nat×Nat×List Int)⊕Unit)):=
 Y9 fun s=>Xac.B v s
def Xfy (v:List Int):Option (List Int):=
 cond (decide ((v.length:Int)<2)) (some v) ((Xac v 1).bind fun v12=>sel v12 (fun v13=>some ((v13.2.2.drop v13.1).take v13.2.1)) (fun v14=>some v))
namespace Xas
def c:=Yap (Yaf Proofs.Tryz.f211) [1,1,0,1,0,0,1,0,0,1,0,1,0,1,0,0]
def sp:SP:=⟨[(0,.seg 0 []),(3,.cs I64),(4,.sub 0 []),(5,.cs I64)],[(0,.reg,.cd SI)]⟩
def fr:=Yja sp (fun x s=>Xas.B x.1.2.2.1.2.1 x.1.2.2.1.2.2 s.1 s.2.1 s.2.2) (fun x=>(x.1.2.1,x.1.2.2.2.1,x.2.1)) fun x (bb0:Int×List Int) _ kk0=>kk0 (.ex 2) ⟨[(0,.seg 0 []),(3,.cs I64 bb0.1)],[sr 0 (.cd SI bb0.2)]⟩
theorem ok:Ya7 PR 61 1 (.loop c) fr:=
 Yxd Xe Xd h0 [(2,([0,3],[0]))] (fun x s=>((x.1.1,s.1,x.1.2.2.1,s.2.1,x.1.2.2.2.2),(s.2.2,x.2.2)))
  (fun x s=>by simp only[B,mC,mB,mS,mO,mN];kernel_rfl)
end Xas
namespace Xac
def c:=Yap (Yaf Proofs.Tryz.f211) [1,1,0,1,0,0]
def sp:SP:=⟨[(0,.seg 0 []),(3,.cs I64)],[(0,.reg,.cd SI)]⟩
def fr:=Yja sp (fun x s=>Xac.B x.2.1 s) (fun x=>x.1.2.1) fun x (oo0:((Nat×Nat×List Int)⊕Unit)) _ kk0=>sel oo0 (fun bb0=>kk0 (.rt) ⟨[(2,.sub 0 [] bb0.1 bb0.2.1)],[sr 0 (.cd SI bb0.2.2)]⟩) (fun cc0=>kk0 (.ex 0) ⟨[(0,.seg 0 [])],[sr 0 (.cd SI x.2.1)]⟩)
theorem ok:Ya7 PR 61 1 (.loop c) fr:=
 Yt2 Xe Xd h0 (.R (.L (.one (.R (.L (.R (.L (.R (.one (.fr 1)))))))))) (G:=(mkG [])) .nil (L:=mkL [(1,Xas.fr)]) (l:=[(1,.loop Xas.c)]) ⟨Lam.cons Xas.ok,trivial⟩ [(0,([0],[0]))] ([2],[0]) (fun x s=>((x.1.1,s,x.1.2.2),x.2))
  (fun x s=>by simp only[B,mC,mB,mS,mO,mN];kernel_rfl)
end Xac
namespace Xfy
def pts:List PT:=[.cd SI]
def FS:FS:=Ybk [.mv] pts (fun x=>Xfy x.1) fun t=>⟨[.cd SI t],[]⟩
theorem ok:Yb2 PR 211 FS:=
 Yxn Xe Xd Proofs.Tryz.f211 h0 (.R (.R (.L (.R (.one (.fr 0)))))) (G:=(mkG [])) .nil (L:=mkL [(1,Xas.fr),(0,Xac.fr)]) (l:=[(0,.loop Xac.c)]) ⟨Lam.skip rfl (Lam.cons Xac.ok),trivial⟩
  (fun x=>by simp only[Xfy,mC,mB,mS,mO,mN];kernel_rfl)
end Xfy
def Xck.B (v:List Xa) (v2:Int) (v3:Int) (v4:List Int):Option ((Int×List Int)⊕(List Int)):=
 cond (decide (v3<v2)) (cond (inB v3 v.length) (cond (decide ((v4++(v.getD v3.toNat Xb).2.2.2.1).length≤2147483648)) (some (.inl (w64 (v3+1),v4++(v.getD v3.toNat Xb).2.2.2.1))) none) none) (some (.inr v4))
def Xck (v:List Xa) (v2:Int):(Int×List Int)→Option (List Int):=
 Y9 fun s=>Xck.B v v2 s.1 s.2
def Xat (v:List Xa):Option ((List Int)×Bool):=
 (Xck v (v.length:Int) (0,[])).bind fun v5=>(Xhd v5).bind fun v6=>(Xdh v6).bind fun v7=>(Xfy v7).bind fun v8=>some (v6,(v8.length:Int) == (v6.length:Int))
namespace Xat
def G:Gam:=mkG [(210,Xhd.FS),(118,Xdh.FS),(211,Xfy.FS)]
theorem Gok:GOk PR G:=.cons Xhd.ok (.cons Xdh.ok (.cons Xfy.ok .nil))
end Xat
namespace Xck
def c:=Yap (Yaf Proofs.Tryz.f147) [1,1,0,1,0,0]
def sp:SP:=⟨[(4,.seg 4 []),(7,.cs (.sl Xc)),(8,.cs I64),(9,.cs I64)],[(4,.reg,.cd SI)]⟩
def fr:=Yja sp (fun x s=>Xck.B x.1.2.1 x.1.2.2.1 s.1 s.2) (fun x=>(x.1.2.2.2.1,x.2.1)) fun x (bb0:List Int) _ kk0=>kk0 (.ex 0) ⟨[(4,.seg 4 [])],[sr 4 (.cd SI bb0)]⟩
theorem ok:Ya7 PR 28 1 (.loop c) fr:=
 Yxo Xe Xd h0 (G:=Xat.G) Xat.Gok [(0,([4],[4]))] (fun x s=>((x.1.1,x.1.2.1,x.1.2.2.1,s.1,x.1.2.2.2.2),(s.2,x.2.2)))
  (fun x s=>by simp only[B,mC,mB,mS,mO,mN];kernel_rfl)
end Xck
namespace Xat
def pts:List PT:=[.cs (.sl Xc)]
def FS:FS:=Ybk [.sh] pts (fun x=>Xat x.1) fun t=>⟨[.cd SI t.1,.cs .bool t.2],[]⟩
theorem ok:Yb2 PR 147 FS:=
 Yxn Xe Xd Proofs.Tryz.f147 h0 (.R (.R (.L (.R (.one (.fr 0)))))) (G:=G) Gok (L:=mkL [(0,Xck.fr)]) (l:=[(0,.loop Xck.c)]) ⟨Lam.cons Xck.ok,trivial⟩
  (fun x=>by simp only[Xat,mC,mB,mS,mO,mN];kernel_rfl)
end Xat
def Xda (v:List Xa):Option Int:=
 some (v.length:Int)
namespace Xda
def pts:List PT:=[.cs (.sl Xc)]
def FS:FS:=Ybk [.sh] pts (fun x=>Xda x.1) fun t=>⟨[.cs I64 t],[]⟩
theorem ok:Yb2 PR 184 FS:=
 Yxn Xe Xd Proofs.Tryz.f184 h0 .no (G:=(mkG [])) .nil (L:=mkL []) (l:=[]) hT
  (fun x=>by simp only[Xda,mC,mB,mS,mO,mN];kernel_rfl)
end Xda
def Xbc.B (v:Fs_) (v5:List Xa) (v6:Int) (v7:Int) (v9:List Xf) (v8:Int) (v10:Int):Option (Int⊕((Int⊕Unit))):=
 cond (decide (v10<v8)) (cond (inB v10 v9.length) ((Xda v.1).bind fun v11=>(some (decide ((v9.getD v10.toNat Xo).2.1≥v11))).bind fun v12=>cond (cond (!v12) (inB (v9.getD v10.toNat Xo).2.1 v.1.length) true) ((some (cond v12 true ((v.1.getD (v9.getD v10.toNat Xo).2.1.toNat Xb).1 == 0))).bind fun v13=>cond v13 (some (.inr (.inl 4))) (some (.inl (w64 (v10+1))))) none) none) (some (.inr (.inr ())))
def Xbc (v:Fs_) (v5:List Xa) (v6:Int) (v7:Int) (v9:List Xf) (v8:Int):Int→Option ((Int⊕Unit)):=
 Y9 fun s=>Xbc.B v v5 v6 v7 v9 v8 s
def Xdb.B (v:Fs_) (v5:List Xa) (v6:Int) (v7:Int):Option (Int⊕((Int⊕Unit))):=
 cond (decide (v7<v6)) (cond (inB v7 v5.length) ((some ((v5.getD v7.toNat Xb).2.2.2.2.1.length:Int)).bind fun v8=>(Xbc v v5 v6 v7 (v5.getD v7.toNat Xb).2.2.2.2.1 v8 0).bind fun v14=>sel v14 (fun v15=>some (.inr (.inl v15))) (fun v16=>some (.inl (w64 (v7+1))))) none) (some (.inr (.inr ())))
def Xdb (v:Fs_) (v5:List Xa) (v6:Int):Int→Option ((Int⊕Unit)):=
 Y9 fun s=>Xdb.B v v5 v6 s
def Xay (v:Fs_):Option Int:=
 (Xfb v).bind fun v2=>cond (v2 != 0) (some v2) ((Xfj v.2.1 ()).bind fun v3=>cond v3 (some 2) ((Xat v.1).bind fun v4=>cond (!v4.2) (some 7) ((Xdb v v.1 (v.1.length:Int) 0).bind fun v17=>sel v17 (fun v18=>some v18) (fun v19=>some 0))))
namespace Xay
def G:Gam:=mkG [(181,Xfb.FS),(182,Xfj.FS),(147,Xat.FS),(184,Xda.FS)]
theorem Gok:GOk PR G:=.cons Xfb.ok (.cons Xfj.ok (.cons Xat.ok (.cons Xda.ok .nil)))
end Xay
namespace Xbc
def c:=Yap (Yaf Proofs.Tryz.f112) [1,1,1,1,0,1,0,0,1,1,0,0,1,1,0,0]
def sp:SP:=⟨[(1,.pt Xn),(27,.cs (.sl Xc)),(28,.cs I64),(29,.cs I64),(34,.cs (.sl Xh)),(35,.cs I64),(36,.cs I64)],[]⟩
def fr:=Yja sp (fun x s=>Xbc.B x.1.1 x.1.2.1 x.1.2.2.1 x.1.2.2.2.1 x.1.2.2.2.2.1 x.1.2.2.2.2.2.1 s) (fun x=>x.1.2.2.2.2.2.2.1) fun x (oo0:(Int⊕Unit)) _ kk0=>sel oo0 (fun bb0=>kk0 (.rt) ⟨[(2,.cs I64 bb0)],[]⟩) (fun cc0=>kk0 (.ex 2) ⟨[(1,.pt Xn x.1.1),(27,.cs (.sl Xc) x.1.2.1),(28,.cs I64 x.1.2.2.1),(29,.cs I64 x.1.2.2.2.1)],[]⟩)
theorem ok:Ya7 PR 58 1 (.loop c) fr:=
 Yt2 Xe Xd ⟨[1],[],[],0⟩ .no (G:=Xay.G) Xay.Gok (L:=mkL []) (l:=[]) hT [(2,([1,27,28,29],[]))] ([2],[]) (fun x s=>((x.1.1,x.1.2.1,x.1.2.2.1,x.1.2.2.2.1,x.1.2.2.2.2.1,x.1.2.2.2.2.2.1,s,x.1.2.2.2.2.2.2.2),x.2))
  (fun x s=>by simp only[B,mC,mB,mS,mO,mN];kernel_rfl)
end Xbc
namespace Xdb
def c:=Yap (Yaf Proofs.Tryz.f112) [1,1,1,1,0,1,0,0]
def sp:SP:=⟨[(1,.pt Xn),(27,.cs (.sl Xc)),(28,.cs I64),(29,.cs I64)],[]⟩
def fr:=Yja sp (fun x s=>Xdb.B x.1.1 x.1.2.1 x.1.2.2.1 s) (fun x=>x.1.2.2.2.1) fun x (oo0:(Int⊕Unit)) _ kk0=>sel oo0 (fun bb0=>kk0 (.rt) ⟨[(2,.cs I64 bb0)],[]⟩) (fun cc0=>kk0 (.ex 0) ⟨[],[]⟩)
theorem ok:Ya7 PR 58 1 (.loop c) fr:=
 Yt2 Xe Xd ⟨[1],[],[],0⟩ (.R (.R (.L (.one (.R (.R (.one (.fr 1)))))))) (G:=Xay.G) Xay.Gok (L:=mkL [(1,Xbc.fr)]) (l:=[(1,.loop Xbc.c)]) ⟨Lam.cons Xbc.ok,trivial⟩ [(0,([],[]))] ([2],[]) (fun x s=>((x.1.1,x.1.2.1,x.1.2.2.1,s,x.1.2.2.2.2),x.2))
  (fun x s=>by simp only[B,mC,mB,mS,mO,mN];kernel_rfl)
end Xdb
namespace Xay
def pts:List PT:=[.cs Xn]
def FS:FS:=Ybk [.sh] pts (fun x=>Xay x.1) fun t=>⟨[.cs I64 t],[]⟩
theorem ok:Yb2 PR 112 FS:=
 Yxn Xe Xd Proofs.Tryz.f112 ⟨[1],[],[],0⟩ (.R (.R (.R (.R (.L (.R (.one (.fr 0)))))))) (G:=G) Gok (L:=mkL [(1,Xbc.fr),(0,Xdb.fr)]) (l:=[(0,.loop Xdb.c)]) ⟨Lam.skip rfl (Lam.cons Xdb.ok),trivial⟩
  (fun x=>by simp only[Xay,mC,mB,mS,mO,mN];kernel_rfl)
end Xay
def Xa4.B (v:List Xa) (v8:List Xf) (v9:Int) (v7:List Bool) (v10:Int) (v11:List Int):Option ((Int×List Int)⊕(List Int)):=
 cond (decide (v10<v9)) (cond (inB v10 v8.length) (cond (decide ((v11++([(v8.getD v10.toNat Xo).2.1])).length≤2147483648)) (some (.inl (w64 (v10+1),v11++([(v8.getD v10.toNat Xo).2.1])))) none) none) (some (.inr v11))
def Xa4 (v:List Xa) (v8:List Xf) (v9:Int) (v7:List Bool):(Int×List Int)→Option (List Int):=
 Y9 fun s=>Xa4.B v v8 v9 v7 s.1 s.2
def Xap.B (v:List Xa) (v3:List Bool) (v4:List Int):Option (((List Bool)×List Int)⊕(List Bool)):=
 cond (decide ((v4.length:Int)>0)) (cond (inB (w64 ((v4.length:Int)-1)) v4.length) (cond (decide ((0:Int)≤(w64 ((v4.length:Int)-1)))&&decide ((w64 ((v4.length:Int)-1))≤(v4.length:Int))) ((some ((v4.drop 0).take (((w64 ((v4.length:Int)-1)).toNat)-0))).bind fun v5=>cond (inB (v4.getD ((w64 ((v4.length:Int)-1)).toNat) 0) v3.length) ((some (v3.getD ((v4.getD ((w64 ((v4.length:Int)-1)).toNat) 0).toNat) false)).bind fun v6=>cond v6 (some (.inl (v3,v5))) (cond (inB (v4.getD ((w64 ((v4.length:Int)-1)).toNat) 0) v3.length) ((some (v3.set ((v4.getD ((w64 ((v4.length:Int)-1)).toNat) 0).toNat) true)).bind fun v7=>cond (inB (v4.getD ((w64 ((v4.length:Int)-1)).toNat) 0) v.length) ((some (v.getD (v4.getD ((w64 ((v4.length:Int)-1)).toNat) 0).toNat Xb).2.2.2.2.1).bind fun v8=>(Xa4 v v8 (v8.length:Int) v7 (0,v5)).bind fun v12=>some (.inl (v7,v12))) none) none)) none) none) none) (some (.inr v3))
def Xap (v:List Xa):((List Bool)×List Int)→Option (List Bool):=
 Y9 fun s=>Xap.B v s.1 s.2
def Xcu.B (v14:Int) (v13:List Bool) (v15:Int) (v16:List Int):Option ((Int×List Int)⊕(List Int)):=
 cond (decide (v15<v14)) (cond (inB v15 v13.length) (cond (v13.getD v15.toNat false) (cond (decide ((v16++([v15])).length≤2147483648)) (some (.inl (w64 (v15+1),v16++([v15])))) none) (some (.inl (w64 (v15+1),v16)))) none) (some (.inr v16))
def Xcu (v14:Int) (v13:List Bool):(Int×List Int)→Option (List Int):=
 Y9 fun s=>Xcu.B v14 v13 s.1 s.2
def Xei (v:List Xa) (v2:Int):Option (List Int):=
 cond (decide ((0:Int)≤(v.length:Int))&&(decide ((v.length:Int)≤(v.length:Int))&&decide ((v.length:Int)≤2147483648))) ((Xap v (List.replicate (v.length:Int).toNat false,[v2])).bind fun v13=>(Xcu (v13.length:Int) v13 (0,[])).bind fun v17=>some v17) none
namespace Xa4
def c:=Yap (Yaf Proofs.Tryz.f185) [1,1,1,0,0,0,1,0,1,1,1,1,1,0,0]
def sp:SP:=⟨[(0,.cs (.sl Xc)),(5,.seg 5 []),(6,.seg 6 []),(43,.cs (.sl Xh)),(44,.cs I64),(45,.cs I64)],[(5,.reg,.cd (.sl .bool)),(6,.reg,.cd SI)]⟩
def fr:=Yja sp (fun x s=>Xa4.B x.1.1 x.1.2.2.2.1 x.1.2.2.2.2.1 x.2.1 s.1 s.2) (fun x=>(x.1.2.2.2.2.2.1,x.2.2.1)) fun x (bb0:List Int) _ kk0=>kk0 (.ex 2) ⟨[(0,.cs (.sl Xc) x.1.1),(5,.seg 5 []),(6,.seg 6 [])],[sr 5 (.cd (.sl .bool) x.2.1),sr 6 (.cd SI bb0)]⟩
theorem ok:Ya7 PR 69 2 (.loop c) fr:=
 Yxd Xe Xd h0 [(2,([0,5,6],[5,6]))] (fun x s=>((x.1.1,x.1.2.1,x.1.2.2.1,x.1.2.2.2.1,x.1.2.2.2.2.1,s.1,x.1.2.2.2.2.2.2),(x.2.1,s.2,x.2.2.2)))
  (fun x s=>by simp only[B,mC,mB,mS,mO,mN];kernel_rfl)
end Xa4
namespace Xap
def c:=Yap (Yaf Proofs.Tryz.f185) [1,1,1,0,0,0]
def sp:SP:=⟨[(0,.cs (.sl Xc)),(5,.seg 5 []),(6,.seg 6 [])],[(5,.reg,.cd (.sl .bool)),(6,.reg,.cd SI)]⟩
def fr:=Yja sp (fun x s=>Xap.B x.1.1 s.1 s.2) (fun x=>(x.2.1,x.2.2.1)) fun x (bb0:List Bool) _ kk0=>kk0 (.ex 0) ⟨[(5,.seg 5 [])],[sr 5 (.cd (.sl .bool) bb0)]⟩
theorem ok:Ya7 PR 69 2 (.loop c) fr:=
 Yxp Xe Xd h0 (.R (.one (.R (.R (.R (.R (.R (.one (.fr 1))))))))) (L:=mkL [(1,Xa4.fr)]) (l:=[(1,.loop Xa4.c)]) ⟨Lam.cons Xa4.ok,trivial⟩ [(0,([5],[5]))] (fun x s=>(x.1,(s.1,s.2,x.2.2.2)))
  (fun x s=>by simp only[B,mC,mB,mS,mO,mN];kernel_rfl)
end Xap
namespace Xcu
def c:=Yap (Yaf Proofs.Tryz.f185) [1,1,1,1,1,0,1,0,0]
def sp:SP:=⟨[(10,.seg 10 []),(55,.seg 5 []),(56,.cs I64),(57,.cs I64)],[(5,.reg,.cd (.sl .bool)),(10,.reg,.cd SI)]⟩
def fr:=Yja sp (fun x s=>Xcu.B x.1.2.2.1 x.2.1 s.1 s.2) (fun x=>(x.1.2.2.2.1,x.2.2.1)) fun x (bb0:List Int) _ kk0=>kk0 (.ex 4) ⟨[(10,.seg 10 [])],[sr 10 (.cd SI bb0)]⟩
theorem ok:Ya7 PR 69 2 (.loop c) fr:=
 Yxd Xe Xd h0 [(4,([10],[10]))] (fun x s=>((x.1.1,x.1.2.1,x.1.2.2.1,s.1,x.1.2.2.2.2),(x.2.1,s.2,x.2.2.2)))
  (fun x s=>by simp only[B,mC,mB,mS,mO,mN];kernel_rfl)
end Xcu
namespace Xei
def pts:List PT:=[.cs (.sl Xc),.cs I64]
def FS:FS:=Ybk [.sh,.sh] pts (fun x=>Xei x.1 x.2.1) fun t=>⟨[.cd SI t],[]⟩
theorem ok:Yb2 PR 185 FS:=
 Yxn Xe Xd Proofs.Tryz.f185 h0 (.R (.R (.R (.two (.one (.fr 0)) (.R (.L (.R (.one (.fr 2))))))))) (G:=(mkG [])) .nil (L:=mkL [(1,Xa4.fr),(0,Xap.fr),(2,Xcu.fr)]) (l:=[(0,.loop Xap.c),(2,.loop Xcu.c)]) ⟨Lam.skip rfl (Lam.cons Xap.ok),Lam.skip rfl (Lam.skip rfl (Lam.cons Xcu.ok)),trivial⟩
  (fun x=>by simp only[Xei,mC,mB,mS,mO,mN];kernel_rfl)
end Xei
def Xbo.B (v2:Int) (v:List Xa) (v4:Int) (v5:Int) (v8:List Xf) (v6:Int) (v7:Int) (v9:Int):Option ((Int×Int)⊕Int):=
 cond (decide (v9<v6)) (cond (inB v9 v8.length) (cond ((v8.getD v9.toNat Xo).2.1 == v2) (some (.inl (w64 (v7+1),w64 (v9+1)))) (some (.inl (v7,w64 (v9+1))))) none) (some (.inr v7))
def Xbo (v2:Int) (v:List Xa) (v4:Int) (v5:Int) (v8:List Xf) (v6:Int):(Int×Int)→Option Int:=
 Y9 fun s=>Xbo.B v2 v v4 v5 v8 v6 s.1 s.2
def Xcw.B (v2:Int) (v:List Xa) (v4:Int) (v3:Int) (v5:Int):Option ((Int×Int)⊕Int):=
 cond (decide (v5<v4)) (cond (inB v5 v.length) ((some ((v.getD v5.toNat Xb).2.2.2.2.1.length:Int)).bind fun v6=>(Xbo v2 v v4 v5 (v.getD v5.toNat Xb).2.2.2.2.1 v6 (v3,0)).bind fun v10=>some (.inl (v10,w64 (v5+1)))) none) (some (.inr v3))
def Xcw (v2:Int) (v:List Xa) (v4:Int):(Int×Int)→Option Int:=
 Y9 fun s=>Xcw.B v2 v v4 s.1 s.2
def Xf2 (v:List Xa) (v2:Int):Option Int:=
 (Xcw v2 v (v.length:Int) (0,0)).bind fun v11=>some v11
namespace Xbo
def c:=Yap (Yaf Proofs.Tryz.f186) [1,1,0,1,0,0,1,1,0,0,1,1,0,0]
def sp:SP:=⟨[(1,.cs I64),(5,.cs I64),(10,.cs (.sl Xc)),(11,.cs I64),(12,.cs I64),(17,.cs (.sl Xh)),(18,.cs I64),(19,.cs I64)],[]⟩
def fr:=Yja sp (fun x s=>Xbo.B x.1.1 x.1.2.2.1 x.1.2.2.2.1 x.1.2.2.2.2.1 x.1.2.2.2.2.2.1 x.1.2.2.2.2.2.2.1 s.1 s.2) (fun x=>(x.1.2.1,x.1.2.2.2.2.2.2.2.1)) fun x (bb0:Int) _ kk0=>kk0 (.ex 2) ⟨[(1,.cs I64 x.1.1),(5,.cs I64 bb0),(10,.cs (.sl Xc) x.1.2.2.1),(11,.cs I64 x.1.2.2.2.1),(12,.cs I64 x.1.2.2.2.2.1)],[]⟩
theorem ok:Ya7 PR 32 2 (.loop c) fr:=
 Yxd Xe Xd h0 [(2,([1,5,10,11,12],[]))] (fun x s=>((x.1.1,s.1,x.1.2.2.1,x.1.2.2.2.1,x.1.2.2.2.2.1,x.1.2.2.2.2.2.1,x.1.2.2.2.2.2.2.1,s.2,x.1.2.2.2.2.2.2.2.2),x.2))
  (fun x s=>by simp only[B,mC,mB,mS,mO,mN];kernel_rfl)
end Xbo
namespace Xcw
def c:=Yap (Yaf Proofs.Tryz.f186) [1,1,0,1,0,0]
def sp:SP:=⟨[(1,.cs I64),(5,.cs I64),(10,.cs (.sl Xc)),(11,.cs I64),(12,.cs I64)],[]⟩
def fr:=Yja sp (fun x s=>Xcw.B x.1.1 x.1.2.2.1 x.1.2.2.2.1 s.1 s.2) (fun x=>(x.1.2.1,x.1.2.2.2.2.1)) fun x (bb0:Int) _ kk0=>kk0 (.ex 0) ⟨[(5,.cs I64 bb0)],[]⟩
theorem ok:Ya7 PR 32 2 (.loop c) fr:=
 Yxp Xe Xd h0 (.R (.R (.L (.one (.R (.R (.one (.fr 1)))))))) (L:=mkL [(1,Xbo.fr)]) (l:=[(1,.loop Xbo.c)]) ⟨Lam.cons Xbo.ok,trivial⟩ [(0,([5],[]))] (fun x s=>((x.1.1,s.1,x.1.2.2.1,x.1.2.2.2.1,s.2,x.1.2.2.2.2.2),x.2))
  (fun x s=>by simp only[B,mC,mB,mS,mO,mN];kernel_rfl)
end Xcw
namespace Xf2
def pts:List PT:=[.cs (.sl Xc),.cs I64]
def FS:FS:=Ybk [.sh,.sh] pts (fun x=>Xf2 x.1 x.2.1) fun t=>⟨[.cs I64 t],[]⟩
theorem ok:Yb2 PR 186 FS:=
 Yxn Xe Xd Proofs.Tryz.f186 h0 (.R (.R (.L (.R (.one (.fr 0)))))) (G:=(mkG [])) .nil (L:=mkL [(1,Xbo.fr),(0,Xcw.fr)]) (l:=[(0,.loop Xcw.c)]) ⟨Lam.skip rfl (Lam.cons Xcw.ok),trivial⟩
  (fun x=>by simp only[Xf2,mC,mB,mS,mO,mN];kernel_rfl)
end Xf2
def Xc9.B (v:Fs_) (v3:List Xa) (v4:Int) (v2:List Int) (v5:Int):Option (Int⊕((Int⊕Unit))):=
 cond (decide (v5<v4)) (cond (inB v5 v3.length) ((Xf2 v.1 v5).bind fun v6=>(some (cond ((v3.getD v5.toNat Xb).1 == 1) ((v3.getD v5.toNat Xb).2.1 != v6) false)).bind fun v7=>cond v7 (some (.inr (.inl 1))) ((some (cond ((v3.getD v5.toNat Xb).1 == 2) (v5 == 0) false)).bind fun v8=>cond (cond v8 (v6 != 0) false) (some (.inr (.inl 1))) ((some (cond ((v3.getD v5.toNat Xb).1 == 2) (decide (v5>0)) false)).bind fun v9=>cond (cond v9 (v6 != 1) false) (some (.inr (.inl 1))) (cond ((v3.getD v5.toNat Xb).1 != 0) ((Xdg v2 v5).bind fun v10=>cond (!v10) (some (.inr (.inl 1))) (some (.inl (w64 (v5+1))))) (some (.inl (w64 (v5+1)))))))) none) (some (.inr (.inr ())))
def Xc9 (v:Fs_) (v3:List Xa) (v4:Int) (v2:List Int):Int→Option ((Int⊕Unit)):=
 Y9 fun s=>Xc9.B v v3 v4 v2 s
def Xbx (v:Fs_):Option Int:=
 (Xei v.1 0).bind fun v2=>(Xc9 v v.1 (v.1.length:Int) v2 0).bind fun v11=>sel v11 (fun v12=>some v12) (fun v13=>some 0)
namespace Xbx
def G:Gam:=mkG [(185,Xei.FS),(186,Xf2.FS),(148,Xdg.FS)]
theorem Gok:GOk PR G:=.cons Xei.ok (.cons Xf2.ok (.cons Xdg.ok .nil))
end Xbx
namespace Xc9
def c:=Yap (Yaf Proofs.Tryz.f113) [1,1,0,1,0,0]
def sp:SP:=⟨[(1,.pt Xn),(3,.seg 3 []),(12,.cs (.sl Xc)),(13,.cs I64),(14,.cs I64)],[(3,.reg,.cd SI)]⟩
def fr:=Yja sp (fun x s=>Xc9.B x.1.1 x.1.2.2.1 x.1.2.2.2.1 x.2.1 s) (fun x=>x.1.2.2.2.2.1) fun x (oo0:(Int⊕Unit)) _ kk0=>sel oo0 (fun bb0=>kk0 (.rt) ⟨[(2,.cs I64 bb0)],[]⟩) (fun cc0=>kk0 (.ex 0) ⟨[],[]⟩)
theorem ok:Ya7 PR 66 1 (.loop c) fr:=
 Yt2 Xe Xd ⟨[1],[],[],0⟩ .no (G:=Xbx.G) Xbx.Gok (L:=mkL []) (l:=[]) hT [(0,([],[]))] ([2],[]) (fun x s=>((x.1.1,x.1.2.1,x.1.2.2.1,x.1.2.2.2.1,s,x.1.2.2.2.2.2),x.2))
  (fun x s=>by simp only[B,mC,mB,mS,mO,mN];kernel_rfl)
end Xc9
namespace Xbx
def pts:List PT:=[.cs Xn]
def FS:FS:=Ybk [.sh] pts (fun x=>Xbx x.1) fun t=>⟨[.cs I64 t],[]⟩
theorem ok:Yb2 PR 113 FS:=
 Yxn Xe Xd Proofs.Tryz.f113 ⟨[1],[],[],0⟩ (.R (.R (.L (.R (.one (.fr 0)))))) (G:=G) Gok (L:=mkL [(0,Xc9.fr)]) (l:=[(0,.loop Xc9.c)]) ⟨Lam.cons Xc9.ok,trivial⟩
  (fun x=>by simp only[Xbx,mC,mB,mS,mO,mN];kernel_rfl)
end Xbx
def Xa6.B (v:List Xa) (v2:Int) (v3:Int) (v7:List Int) (v6:Int) (v4:List Int) (v10:Xa) (v8:Int) (v9:List Int):Option ((Int×List Int)⊕(List Int)):=
 cond (decide (v8<v6)) (cond (inB v8 v7.length) ((some (cond (decide ((w64 (v10.2.2.1-(w64 (v8*8))))<8)) (w64 (v10.2.2.1-(w64 (v8*8)))) 8)).bind fun v11=>cond (inB (v7.getD v8.toNat 0) 20) (some (.inl (w64 (v8+1),v9.set ((v7.getD v8.toNat 0).toNat) v11))) none) none) (some (.inr v9))
def Xa6 (v:List Xa) (v2:Int) (v3:Int) (v7:List Int) (v6:Int) (v4:List Int) (v10:Xa):(Int×List Int)→Option (List Int):=
 Y9 fun s=>Xa6.B v v2 v3 v7 v6 v4 v10 s.1 s.2
def Xb0.B (v:List Xa) (v2:Int) (v4:List Int) (v3:Int) (v5:List Int):Option ((Int×List Int)⊕(List Int)):=
 cond (decide (v3<v2)) (cond (inB v3 v.length) ((some ((v.getD v3.toNat Xb).2.2.2.1.length:Int)).bind fun v6=>(Xa6 v v2 v3 (v.getD v3.toNat Xb).2.2.2.1 v6 v4 (v.getD v3.toNat Xb) (0,v5)).bind fun v12=>some (.inl (w64 (v3+1),v12))) none) (some (.inr v5))
def Xb0 (v:List Xa) (v2:Int) (v4:List Int):(Int×List Int)→Option (List Int):=
 Y9 fun s=>Xb0.B v v2 v4 s.1 s.2
def Xe7 (v:List Xa):Option (List Int):=
 (Xb0 v (v.length:Int) (List.replicate 20 0) (0,(List.replicate 20 0))).bind fun v13=>some v13
namespace Xa6
def c:=Yap (Yaf Proofs.Tryz.f139) [1,1,0,1,0,0,1,1,0,0,1,1,0,0]
def sp:SP:=⟨[(2,.loc 2 []),(3,.loc 3 []),(5,.loc 5 []),(8,.cs (.sl Xc)),(9,.cs I64),(10,.cs I64),(15,.cs SI),(16,.cs I64),(17,.cs I64)],[(2,.mem,.cd (.arr 20 I64)),(3,.mem,.cd (.arr 20 I64)),(5,.mem,.cs Xc)]⟩
def fr:=Yja sp (fun x s=>Xa6.B x.1.2.2.2.1 x.1.2.2.2.2.1 x.1.2.2.2.2.2.1 x.1.2.2.2.2.2.2.1 x.1.2.2.2.2.2.2.2.1 x.2.1 x.2.2.2.1 s.1 s.2) (fun x=>(x.1.2.2.2.2.2.2.2.2.1,x.2.2.1)) fun x (bb0:List Int) _ kk0=>kk0 (.ex 2) ⟨[(2,.loc 2 []),(3,.loc 3 []),(8,.cs (.sl Xc) x.1.2.2.2.1),(9,.cs I64 x.1.2.2.2.2.1),(10,.cs I64 x.1.2.2.2.2.2.1)],[(2,some ⟨.mem,.cd (.arr 20 I64) x.2.1⟩),(3,some ⟨.mem,.cd (.arr 20 I64) bb0⟩)]⟩
theorem ok:Ya7 PR 33 1 (.loop c) fr:=
 Yxd Xe Xd h0 [(2,([2,3,8,9,10],[2,3]))] (fun x s=>((x.1.1,x.1.2.1,x.1.2.2.1,x.1.2.2.2.1,x.1.2.2.2.2.1,x.1.2.2.2.2.2.1,x.1.2.2.2.2.2.2.1,x.1.2.2.2.2.2.2.2.1,s.1,x.1.2.2.2.2.2.2.2.2.2),(x.2.1,s.2,x.2.2.2)))
  (fun x s=>by simp only[B,mC,mB,mS,mO,mN];kernel_rfl)
end Xa6
namespace Xb0
def c:=Yap (Yaf Proofs.Tryz.f139) [1,1,0,1,0,0]
def sp:SP:=⟨[(2,.loc 2 []),(3,.loc 3 []),(8,.cs (.sl Xc)),(9,.cs I64),(10,.cs I64)],[(2,.mem,.cd (.arr 20 I64)),(3,.mem,.cd (.arr 20 I64))]⟩
def fr:=Yja sp (fun x s=>Xb0.B x.1.2.2.1 x.1.2.2.2.1 x.2.1 s.1 s.2) (fun x=>(x.1.2.2.2.2.1,x.2.2.1)) fun x (bb0:List Int) _ kk0=>kk0 (.ex 0) ⟨[(2,.loc 2 []),(3,.loc 3 [])],[(2,some ⟨.mem,.cd (.arr 20 I64) x.2.1⟩),(3,some ⟨.mem,.cd (.arr 20 I64) bb0⟩)]⟩
theorem ok:Ya7 PR 33 1 (.loop c) fr:=
 Yxp Xe Xd h0 (.R (.R (.L (.one (.R (.R (.one (.fr 1)))))))) (L:=mkL [(1,Xa6.fr)]) (l:=[(1,.loop Xa6.c)]) ⟨Lam.cons Xa6.ok,trivial⟩ [(0,([2,3],[2,3]))] (fun x s=>((x.1.1,x.1.2.1,x.1.2.2.1,x.1.2.2.2.1,s.1,x.1.2.2.2.2.2),(x.2.1,s.2,x.2.2.2)))
  (fun x s=>by simp only[B,mC,mB,mS,mO,mN];kernel_rfl)
end Xb0
namespace Xe7
def pts:List PT:=[.cs (.sl Xc)]
def FS:FS:=Ybk [.sh] pts (fun x=>Xe7 x.1) fun t=>⟨[.cs (.arr 20 I64) t],[]⟩
theorem ok:Yb2 PR 139 FS:=
 Yxn Xe Xd Proofs.Tryz.f139 h0 (.R (.R (.L (.R (.one (.fr 0)))))) (G:=(mkG [])) .nil (L:=mkL [(1,Xa6.fr),(0,Xb0.fr)]) (l:=[(0,.loop Xb0.c)]) ⟨Lam.skip rfl (Lam.cons Xb0.ok),trivial⟩
  (fun x=>by simp only[Xe7,mC,mB,mS,mO,mN];kernel_rfl)
end Xe7
def Xhk (v:List Int):Option Int:=
 some (v.length:Int)
namespace Xhk
def pts:List PT:=[.cs SB]
def FS:FS:=Ybk [.sh] pts (fun x=>Xhk x.1) fun t=>⟨[.cs I64 t],[]⟩
theorem ok:Yb2 PR 141 FS:=
 Yxn Xe Xd Proofs.Tryz.f141 h0 .no (G:=(mkG [])) .nil (L:=mkL []) (l:=[]) hT
  (fun x=>by simp only[Xhk,mC,mB,mS,mO,mN];kernel_rfl)
end Xhk
def Xdu.B (v:Fs_) (v2:List Int) (v3:Int):Option (Int⊕((Int⊕Unit))):=
 cond (decide (v3<20)) (cond (inB v3 20) (cond (inB v3 v.2.1.length) ((Xhk (v.2.1.getD v3.toNat [])).bind fun v4=>cond (v4 != (v2.getD v3.toNat 0)) (some (.inr (.inl 1))) (some (.inl (w64 (v3+1))))) none) none) (some (.inr (.inr ())))
def Xdu (v:Fs_) (v2:List Int):Int→Option ((Int⊕Unit)):=
 Y9 fun s=>Xdu.B v v2 s
def Xca (v:Fs_):Option Int:=
 (Xe7 v.1).bind fun v2=>(Xdu v v2 0).bind fun v5=>sel v5 (fun v6=>some v6) (fun v7=>some 0)
namespace Xca
def G:Gam:=mkG [(139,Xe7.FS),(141,Xhk.FS)]
theorem Gok:GOk PR G:=.cons Xe7.ok (.cons Xhk.ok .nil)
end Xca
namespace Xdu
def c:=Yap (Yaf Proofs.Tryz.f114) [1,0,1,0,0]
def sp:SP:=⟨[(1,.pt Xn),(7,.cs (.arr 20 I64)),(8,.cs I64)],[]⟩
def fr:=Yja sp (fun x s=>Xdu.B x.1.1 x.1.2.1 s) (fun x=>x.1.2.2.1) fun x (oo0:(Int⊕Unit)) _ kk0=>sel oo0 (fun bb0=>kk0 (.rt) ⟨[(2,.cs I64 bb0)],[]⟩) (fun cc0=>kk0 (.ex 0) ⟨[],[]⟩)
theorem ok:Ya7 PR 21 1 (.loop c) fr:=
 Yt2 Xe Xd ⟨[1],[],[],0⟩ .no (G:=Xca.G) Xca.Gok (L:=mkL []) (l:=[]) hT [(0,([],[]))] ([2],[]) (fun x s=>((x.1.1,x.1.2.1,s,x.1.2.2.2),x.2))
  (fun x s=>by simp only[B,mC,mB,mS,mO,mN];kernel_rfl)
end Xdu
namespace Xca
def pts:List PT:=[.cs Xn]
def FS:FS:=Ybk [.sh] pts (fun x=>Xca x.1) fun t=>⟨[.cs I64 t],[]⟩
theorem ok:Yb2 PR 114 FS:=
 Yxn Xe Xd Proofs.Tryz.f114 ⟨[1],[],[],0⟩ (.R (.L (.R (.one (.fr 0))))) (G:=G) Gok (L:=mkL [(0,Xdu.fr)]) (l:=[(0,.loop Xdu.c)]) ⟨Lam.cons Xdu.ok,trivial⟩
  (fun x=>by simp only[Xca,mC,mB,mS,mO,mN];kernel_rfl)
end Xca
def Xfa (v:Fs_):Option Int:=
 (Xay v).bind fun v2=>cond (v2 != 0) (some v2) ((Xbx v).bind fun v3=>cond (v3 != 0) (some v3) ((Xca v).bind fun v4=>some v4))
namespace Xfa
def G:Gam:=mkG [(112,Xay.FS),(113,Xbx.FS),(114,Xca.FS)]
def pts:List PT:=[.cs Xn]
def FS:FS:=Ybk [.sh] pts (fun x=>Xfa x.1) fun t=>⟨[.cs I64 t],[]⟩
theorem ok:Yb2 PR 54 FS:=
 Yxn Xe Xd Proofs.Tryz.f54 ⟨[1],[],[],0⟩ .no (G:=G) (show GOk PR G from .cons Xay.ok (.cons Xbx.ok (.cons Xca.ok .nil))) (L:=mkL []) (l:=[]) hT
  (fun x=>by simp only[Xfa,mC,mB,mS,mO,mN];kernel_rfl)
end Xfa
def Xg9 (v:List Xf):Option Int:=
 some (v.length:Int)
namespace Xg9
def pts:List PT:=[.cs (.sl Xh)]
def FS:FS:=Ybk [.sh] pts (fun x=>Xg9 x.1) fun t=>⟨[.cs I64 t],[]⟩
theorem ok:Yb2 PR 226 FS:=
 Yxn Xe Xd Proofs.Tryz.f226 h0 .no (G:=(mkG [])) .nil (L:=mkL []) (l:=[]) hT
  (fun x=>by simp only[Xg9,mC,mB,mS,mO,mN];kernel_rfl)
end Xg9
def Xbj.B (v3:List Xf) (v4:Int) (v5:Int) (v8:Int) (v11:Xf) (v9:Int) (v10:List Int):Option ((Int×List Int)⊕(List Int)):=
 cond (decide (v9<v8)) (cond (inB v9 v11.1.length) ((some (v10++([w64 (((v11.1.getD v9.toNat 0).toNat:Int))]))).bind fun v12=>cond (decide (v12.length≤2147483648)) (some (.inl (w64 (v9+1),v12))) none) none) (some (.inr v10))
def Xbj (v3:List Xf) (v4:Int) (v5:Int) (v8:Int) (v11:Xf):(Int×List Int)→Option (List Int):=
 Y9 fun s=>Xbj.B v3 v4 v5 v8 v11 s.1 s.2
def Xb9.B (v3:List Xf) (v4:Int) (v5:Int) (v6:List Int):Option ((Int×List Int)⊕(List Int)):=
 cond (decide (v5<v4)) (cond (inB v5 v3.length) ((some (v6++([(v3.getD v5.toNat Xo).2.1,((v3.getD v5.toNat Xo).1.length:Int)]))).bind fun v7=>cond (decide (v7.length≤2147483648)) ((Xbj v3 v4 v5 ((v3.getD v5.toNat Xo).1.length:Int) (v3.getD v5.toNat Xo) (0,v7)).bind fun v13=>some (.inl (w64 (v5+1),v13))) none) none) (some (.inr v6))
def Xb9 (v3:List Xf) (v4:Int):(Int×List Int)→Option (List Int):=
 Y9 fun s=>Xb9.B v3 v4 s.1 s.2
def Xau (v:Xa):Option (List Int):=
 cond (decide ((([v.1,v.2.1,v.2.2.1])++v.2.2.2.1).length≤2147483648)) (cond (v.1 != 2) (some (([v.1,v.2.1,v.2.2.1])++v.2.2.2.1)) ((Xg9 v.2.2.2.2.1).bind fun v2=>cond (decide (((([v.1,v.2.1,v.2.2.1])++v.2.2.2.1)++([v2])).length≤2147483648)) ((Xb9 v.2.2.2.2.1 (v.2.2.2.2.1.length:Int) (0,(([v.1,v.2.1,v.2.2.1])++v.2.2.2.1)++([v2]))).bind fun v14=>some v14) none)) none
namespace Xau
def G:Gam:=mkG [(226,Xg9.FS)]
theorem Gok:GOk PR G:=.cons Xg9.ok .nil
end Xau
namespace Xbj
def c:=Yap (Yaf Proofs.Tryz.f188) [1,1,1,1,0,1,0,0,1,1,0,0,1,1,1,0,0]
def sp:SP:=⟨[(3,.seg 3 []),(5,.loc 5 []),(28,.cs (.sl Xh)),(29,.cs I64),(30,.cs I64),(44,.cs I64),(45,.cs I64)],[(3,.reg,.cd SI),(5,.mem,.cd Xh)]⟩
def fr:=Yja sp (fun x s=>Xbj.B x.1.2.2.1 x.1.2.2.2.1 x.1.2.2.2.2.1 x.1.2.2.2.2.2.1 x.2.2.1 s.1 s.2) (fun x=>(x.1.2.2.2.2.2.2.1,x.2.1)) fun x (bb0:List Int) _ kk0=>kk0 (.ex 2) ⟨[(3,.seg 3 []),(28,.cs (.sl Xh) x.1.2.2.1),(29,.cs I64 x.1.2.2.2.1),(30,.cs I64 x.1.2.2.2.2.1)],[sr 3 (.cd SI bb0)]⟩
theorem ok:Ya7 PR 59 1 (.loop c) fr:=
 Yxo Xe Xd ⟨[1],[],[],0⟩ (G:=Xau.G) Xau.Gok [(2,([3,28,29,30],[3]))] (fun x s=>((x.1.1,x.1.2.1,x.1.2.2.1,x.1.2.2.2.1,x.1.2.2.2.2.1,x.1.2.2.2.2.2.1,s.1,x.1.2.2.2.2.2.2.2),(s.2,x.2.2)))
  (fun x s=>by simp only[B,mC,mB,mS,mO,mN];kernel_rfl)
end Xbj
namespace Xb9
def c:=Yap (Yaf Proofs.Tryz.f188) [1,1,1,1,0,1,0,0]
def sp:SP:=⟨[(3,.seg 3 []),(28,.cs (.sl Xh)),(29,.cs I64),(30,.cs I64)],[(3,.reg,.cd SI)]⟩
def fr:=Yja sp (fun x s=>Xb9.B x.1.2.1 x.1.2.2.1 s.1 s.2) (fun x=>(x.1.2.2.2.1,x.2.1)) fun x (bb0:List Int) _ kk0=>kk0 (.ex 0) ⟨[(3,.seg 3 [])],[sr 3 (.cd SI bb0)]⟩
theorem ok:Ya7 PR 59 1 (.loop c) fr:=
 Yxs Xe Xd ⟨[1],[],[],0⟩ (.R (.R (.L (.one (.R (.R (.R (.one (.fr 1))))))))) (G:=Xau.G) Xau.Gok (L:=mkL [(1,Xbj.fr)]) (l:=[(1,.loop Xbj.c)]) ⟨Lam.cons Xbj.ok,trivial⟩ [(0,([3],[3]))] (fun x s=>((x.1.1,x.1.2.1,x.1.2.2.1,s.1,x.1.2.2.2.2),(s.2,x.2.2)))
  (fun x s=>by simp only[B,mC,mB,mS,mO,mN];kernel_rfl)
end Xb9
namespace Xau
def pts:List PT:=[.cs Xc]
def FS:FS:=Ybk [.sh] pts (fun x=>Xau x.1) fun t=>⟨[.cd SI t],[]⟩
theorem ok:Yb2 PR 188 FS:=
 Yxn Xe Xd Proofs.Tryz.f188 ⟨[1],[],[],0⟩ (.R (.R (.R (.R (.L (.R (.one (.fr 0)))))))) (G:=G) Gok (L:=mkL [(1,Xbj.fr),(0,Xb9.fr)]) (l:=[(0,.loop Xb9.c)]) ⟨Lam.skip rfl (Lam.cons Xb9.ok),trivial⟩
  (fun x=>by simp only[Xau,mC,mB,mS,mO,mN];kernel_rfl)
end Xau
def Xdj.B (v:Fs_) (v2:Int) (v3:List Xg):Option ((Int×List Xg)⊕(List Xg)):=
 cond (decide (v2<10)) ((Xda v.1).bind fun v4=>cond (decide (v2<v4)) (cond (inB v2 v.1.length) ((Xau (v.1.getD v2.toNat Xb)).bind fun v5=>cond (decide ((v3++([(w64 ((17:Int)+v2),v5,())])).length≤2147483648)) (some (.inl (w64 (v2+1),v3++([(w64 ((17:Int)+v2),v5,())])))) none) none) (cond (decide ((v3++([(w64 ((17:Int)+v2),[],())])).length≤2147483648)) (some (.inl (w64 (v2+1),v3++([(w64 ((17:Int)+v2),[],())])))) none)) (some (.inr v3))
def Xdj (v:Fs_):(Int×List Xg)→Option (List Xg):=
 Y9 fun s=>Xdj.B v s.1 s.2
def Xbt (v:Fs_):Option (List Xg):=
 (Xdj v (0,[])).bind fun v6=>some v6
namespace Xbt
def G:Gam:=mkG [(184,Xda.FS),(188,Xau.FS)]
theorem Gok:GOk PR G:=.cons Xda.ok (.cons Xau.ok .nil)
end Xbt
namespace Xdj
def c:=Yap (Yaf Proofs.Tryz.f116) [1,1,0,1,0,0]
def sp:SP:=⟨[(0,.pt Xn),(3,.seg 3 []),(6,.cs I64)],[(3,.reg,.cd (.sl Xi))]⟩
def fr:=Yja sp (fun x s=>Xdj.B x.1.1 s.1 s.2) (fun x=>(x.1.2.2.1,x.2.1)) fun x (bb0:List Xg) _ kk0=>kk0 (.ex 0) ⟨[(3,.seg 3 [])],[sr 3 (.cd (.sl Xi) bb0)]⟩
theorem ok:Ya7 PR 34 1 (.loop c) fr:=
 Yxo Xe Xd h0 (G:=Xbt.G) Xbt.Gok [(0,([3],[3]))] (fun x s=>((x.1.1,x.1.2.1,s.1,x.1.2.2.2),(s.2,x.2.2)))
  (fun x s=>by simp only[B,mC,mB,mS,mO,mN];kernel_rfl)
end Xdj
namespace Xbt
def pts:List PT:=[.pt Xn]
def FS:FS:=Ybk [.sh] pts (fun x=>Xbt x.1) fun t=>⟨[.cd (.sl Xi) t],[]⟩
theorem ok:Yb2 PR 116 FS:=
 Yxn Xe Xd Proofs.Tryz.f116 h0 (.R (.R (.L (.R (.one (.fr 0)))))) (G:=G) Gok (L:=mkL [(0,Xdj.fr)]) (l:=[(0,.loop Xdj.c)]) ⟨Lam.cons Xdj.ok,trivial⟩
  (fun x=>by simp only[Xbt,mC,mB,mS,mO,mN];kernel_rfl)
end Xbt
def Xct.B (v:List Int) (v2:List Int) (v3:Int) (v4:Int):Option (Int⊕((Bool⊕Unit))):=
 cond (decide (v4<v3)) (cond (inB v4 v.length) (cond (inB v4 v2.length) (cond ((v.getD v4.toNat 0) != (v2.getD v4.toNat 0)) (some (.inr (.inl false))) (some (.inl (w64 (v4+1))))) none) none) (some (.inr (.inr ())))
def Xct (v:List Int) (v2:List Int) (v3:Int):Int→Option ((Bool⊕Unit)):=
 Y9 fun s=>Xct.B v v2 v3 s
def Xfm (v:List Int) (v2:List Int):Option Bool:=
 cond ((v.length:Int) != (v2.length:Int)) (some false) ((Xct v v2 (v.length:Int) 0).bind fun v5=>sel v5 (fun v6=>some v6) (fun v7=>some true))
namespace Xct
def c:=Yap (Yaf Proofs.Tryz.f187) [1,1,0,1,0,0]
def sp:SP:=⟨[(0,.cs SI),(1,.cs SI),(12,.cs I64),(13,.cs I64)],[]⟩
def fr:=Yja sp (fun x s=>Xct.B x.1.1 x.1.2.1 x.1.2.2.1 s) (fun x=>x.1.2.2.2.1) fun x (oo0:(Bool⊕Unit)) _ kk0=>sel oo0 (fun bb0=>kk0 (.rt) ⟨[(4,.cs .bool bb0)],[]⟩) (fun cc0=>kk0 (.ex 0) ⟨[],[]⟩)
theorem ok:Ya7 PR 26 2 (.loop c) fr:=
 Yt2 Xe Xd h0 .no (G:=(mkG [])) .nil (L:=mkL []) (l:=[]) hT [(0,([],[]))] ([4],[]) (fun x s=>((x.1.1,x.1.2.1,x.1.2.2.1,s,x.1.2.2.2.2),x.2))
  (fun x s=>by simp only[B,mC,mB,mS,mO,mN];kernel_rfl)
end Xct
namespace Xfm
def pts:List PT:=[.cs SI,.cs SI]
def FS:FS:=Ybk [.sh,.sh] pts (fun x=>Xfm x.1 x.2.1) fun t=>⟨[.cs .bool t],[]⟩
theorem ok:Yb2 PR 187 FS:=
 Yxn Xe Xd Proofs.Tryz.f187 h0 (.R (.R (.L (.R (.one (.fr 0)))))) (G:=(mkG [])) .nil (L:=mkL [(0,Xct.fr)]) (l:=[(0,.loop Xct.c)]) ⟨Lam.cons Xct.ok,trivial⟩
  (fun x=>by simp only[Xfm,mC,mB,mS,mO,mN];kernel_rfl)
end Xfm
def Xci.B (v:Xk) (v2:List Xg) (v3:Int) (v4:Int) (v5:List Xg):Option ((Int×List Xg)⊕(List Xg)):=
 cond (decide (v4<v3)) (cond (inB v4 v2.length) ((Xel v (v2.getD v4.toNat Xq).1).bind fun v6=>(Xfm (v2.getD v4.toNat Xq).2.1 v6).bind fun v7=>cond (!v7) (cond (decide ((v5++([v2.getD v4.toNat Xq])).length≤2147483648)) (some (.inl (w64 (v4+1),v5++([v2.getD v4.toNat Xq])))) none) (some (.inl (w64 (v4+1),v5)))) none) (some (.inr v5))
def Xci (v:Xk) (v2:List Xg) (v3:Int):(Int×List Xg)→Option (List Xg):=
 Y9 fun s=>Xci.B v v2 v3 s.1 s.2
def Xbg (v:Xk) (v2:List Xg):Option (List Xg):=
 (Xci v v2 (v2.length:Int) (0,[])).bind fun v8=>some v8
namespace Xbg
def G:Gam:=mkG [(110,Xel.FS),(187,Xfm.FS)]
theorem Gok:GOk PR G:=.cons Xel.ok (.cons Xfm.ok .nil)
end Xbg
namespace Xci
def c:=Yap (Yaf Proofs.Tryz.f115) [1,1,0,1,0,0]
def sp:SP:=⟨[(0,.pt Xj),(5,.seg 5 []),(8,.cs (.sl Xi)),(9,.cs I64),(10,.cs I64)],[(5,.reg,.cl .top (.sl Xi))]⟩
def fr:=Yja sp (fun x s=>Xci.B x.1.1 x.1.2.2.1 x.1.2.2.2.1 s.1 s.2) (fun x=>(x.1.2.2.2.2.1,x.2.1)) fun x (bb0:List Xg) _ kk0=>kk0 (.ex 0) ⟨[(5,.seg 5 [])],[(5,some ⟨.reg,.cl .top (.sl Xi) bb0⟩)]⟩
theorem ok:Ya7 PR 28 2 (.loop c) fr:=
 Yxo Xe Xd ⟨[],[5],[],0⟩ (G:=Xbg.G) Xbg.Gok [(0,([5],[5]))] (fun x s=>((x.1.1,x.1.2.1,x.1.2.2.1,x.1.2.2.2.1,s.1,x.1.2.2.2.2.2),(s.2,x.2.2)))
  (fun x s=>by simp only[B,mC,mB,mS,mO,mN];kernel_rfl)
end Xci
namespace Xbg
def pts:List PT:=[.pt Xj,.cs (.sl Xi)]
def FS:FS:=Ybk [.sh,.sh] pts (fun x=>Xbg x.1 x.2.1) fun t=>⟨[.cl .top (.sl Xi) t],[]⟩
theorem ok:Yb2 PR 115 FS:=
 Yxn Xe Xd Proofs.Tryz.f115 ⟨[],[5],[],0⟩ (.R (.R (.L (.R (.one (.fr 0)))))) (G:=G) Gok (L:=mkL [(0,Xci.fr)]) (l:=[(0,.loop Xci.c)]) ⟨Lam.cons Xci.ok,trivial⟩
  (fun x=>by simp only[Xbg,mC,mB,mS,mO,mN];kernel_rfl)
end Xbg
def Xeg (v:List Xg):Option Int:=
 some (v.length:Int)
namespace Xeg
def pts:List PT:=[.cs (.sl Xi)]
def FS:FS:=Ybk [.sh] pts (fun x=>Xeg x.1) fun t=>⟨[.cs I64 t],[]⟩
theorem ok:Yb2 PR 117 FS:=
 Yxn Xe Xd Proofs.Tryz.f117 h0 .no (G:=(mkG [])) .nil (L:=mkL []) (l:=[]) hT
  (fun x=>by simp only[Xeg,mC,mB,mS,mO,mN];kernel_rfl)
end Xeg
def Xhb (v:Int):Option (List Int):=
 some ([7,v])
namespace Xhb
def pts:List PT:=[.cs I64]
def FS:FS:=Ybk [.sh] pts (fun x=>Xhb x.1) fun t=>⟨[.cd SI t],[]⟩
theorem ok:Yb2 PR 119 FS:=
 Yxn Xe Xd Proofs.Tryz.f119 h0 .no (G:=(mkG [])) .nil (L:=mkL []) (l:=[]) hT
  (fun x=>by simp only[Xhb,mC,mB,mS,mO,mN];kernel_rfl)
end Xhb
def Xba.B (v:Fs_) (v3:Int) (v4:Int) (v10:List Int) (v9:Int) (v5:List Xg) (v6:List Int) (v7:Bool) (v8:Unit) (v11:Int) (v12:Xg):Option ((Int×Xg)⊕Xg):=
 cond (decide (v11<v9)) (cond (inB v11 v10.length) (cond (decide ((v12.2.1++([w64 (v10.getD v11.toNat 0)])).length≤2147483648)) (some (.inl (w64 (v11+1),(v12.1,v12.2.1++([w64 (v10.getD v11.toNat 0)]),v12.2.2)))) none) none) (some (.inr v12))
def Xba (v:Fs_) (v3:Int) (v4:Int) (v10:List Int) (v9:Int) (v5:List Xg) (v6:List Int) (v7:Bool) (v8:Unit):(Int×Xg)→Option Xg:=
 Y9 fun s=>Xba.B v v3 v4 v10 v9 v5 v6 v7 v8 s.1 s.2
def Xc0.B (v:Fs_) (v3:Int) (v6:List Int) (v7:Bool) (v8:Unit) (v4:Int) (v5:List Xg):Option ((Int×List Xg)⊕(List Xg)):=
 cond (decide (v4<v3)) (cond (inB v4 v6.length) (cond (inB (v6.getD v4.toNat 0) v.2.1.length) ((some ((v.2.1.getD (v6.getD v4.toNat 0).toNat []).length:Int)).bind fun v9=>(Xba v v3 v4 (v.2.1.getD (v6.getD v4.toNat 0).toNat []) v9 v5 v6 v7 v8 (0,(w64 ((27:Int)+(v6.getD v4.toNat 0)),[],()))).bind fun v13=>cond (decide ((v5++([(v13.1,v13.2.1,v13.2.2)])).length≤2147483648)) (some (.inl (w64 (v4+1),v5++([(v13.1,v13.2.1,v13.2.2)])))) none) none) none) (some (.inr v5))
def Xc0 (v:Fs_) (v3:Int) (v6:List Int) (v7:Bool) (v8:Unit):(Int×List Xg)→Option (List Xg):=
 Y9 fun s=>Xc0.B v v3 v6 v7 v8 s.1 s.2
def Xav (v:Fs_):Option (List Xg):=
 (Xat v.1).bind fun v2=>(Xc0 v (v2.1.length:Int) v2.1 v2.2 () (0,[])).bind fun v14=>some v14
namespace Xav
def G:Gam:=mkG [(147,Xat.FS)]
theorem Gok:GOk PR G:=.cons Xat.ok .nil
end Xav
namespace Xba
def c:=Yap (Yaf Proofs.Tryz.f122) [1,1,1,0,1,0,0,1,1,0,0,1,1,0,1,0,0]
def sp:SP:=⟨[(0,.pt Xn),(5,.seg 5 []),(8,.loc 8 []),(19,.seg 16 [.f1]),(20,.cs I64),(21,.cs I64),(34,.cs SB),(35,.cs I64),(36,.cs I64)],[(5,.reg,.cd (.sl Xi)),(8,.mem,.cd Xi),(16,.reg,.pr (.cd SI) (.pr (.cs .bool) (.cs .unit)))]⟩
def fr:=Yja sp (fun x s=>Xba.B x.1.1 x.1.2.2.2.2.1 x.1.2.2.2.2.2.1 x.1.2.2.2.2.2.2.1 x.1.2.2.2.2.2.2.2.1 x.2.1 x.2.2.2.1.1 x.2.2.2.1.2.1 x.2.2.2.1.2.2 s.1 s.2) (fun x=>(x.1.2.2.2.2.2.2.2.2.1,x.2.2.1)) fun x (bb0:Xg) _ kk0=>kk0 (.ex 2) ⟨[(0,.pt Xn x.1.1),(5,.seg 5 []),(8,.loc 8 []),(19,.seg 16 [.f1]),(20,.cs I64 x.1.2.2.2.2.1),(21,.cs I64 x.1.2.2.2.2.2.1)],[sr 5 (.cd (.sl Xi) x.2.1),(8,some ⟨.mem,.cd Xi bb0⟩),(16,some ⟨.reg,.pr (.cd SI x.2.2.2.1.1) (.pr (.cs .bool x.2.2.2.1.2.1) (.cs .unit x.2.2.2.1.2.2))⟩)]⟩
theorem ok:Ya7 PR 54 1 (.loop c) fr:=
 Yxo Xe Xd h0 (G:=Xav.G) Xav.Gok [(2,([0,5,8,19,20,21],[5,8,16]))] (fun x s=>((x.1.1,x.1.2.1,x.1.2.2.1,x.1.2.2.2.1,x.1.2.2.2.2.1,x.1.2.2.2.2.2.1,x.1.2.2.2.2.2.2.1,x.1.2.2.2.2.2.2.2.1,s.1,x.1.2.2.2.2.2.2.2.2.2),(x.2.1,s.2,x.2.2.2)))
  (fun x s=>by simp only[B,mC,mB,mS,mO,mN];kernel_rfl)
end Xba
namespace Xc0
def c:=Yap (Yaf Proofs.Tryz.f122) [1,1,1,0,1,0,0]
def sp:SP:=⟨[(0,.pt Xn),(5,.seg 5 []),(19,.seg 16 [.f1]),(20,.cs I64),(21,.cs I64)],[(5,.reg,.cd (.sl Xi)),(16,.reg,.pr (.cd SI) (.pr (.cs .bool) (.cs .unit)))]⟩
def fr:=Yja sp (fun x s=>Xc0.B x.1.1 x.1.2.2.2.1 x.2.2.1.1 x.2.2.1.2.1 x.2.2.1.2.2 s.1 s.2) (fun x=>(x.1.2.2.2.2.1,x.2.1)) fun x (bb0:List Xg) _ kk0=>kk0 (.ex 0) ⟨[(5,.seg 5 [])],[sr 5 (.cd (.sl Xi) bb0)]⟩
theorem ok:Ya7 PR 54 1 (.loop c) fr:=
 Yxs Xe Xd h0 (.R (.R (.L (.one (.R (.R (.L (.R (.one (.fr 1)))))))))) (G:=Xav.G) Xav.Gok (L:=mkL [(1,Xba.fr)]) (l:=[(1,.loop Xba.c)]) ⟨Lam.cons Xba.ok,trivial⟩ [(0,([5],[5]))] (fun x s=>((x.1.1,x.1.2.1,x.1.2.2.1,x.1.2.2.2.1,s.1,x.1.2.2.2.2.2),(s.2,x.2.2)))
  (fun x s=>by simp only[B,mC,mB,mS,mO,mN];kernel_rfl)
end Xc0
namespace Xav
def pts:List PT:=[.pt Xn]
def FS:FS:=Ybk [.sh] pts (fun x=>Xav x.1) fun t=>⟨[.cd (.sl Xi) t],[]⟩
theorem ok:Yb2 PR 122 FS:=
 Yxn Xe Xd Proofs.Tryz.f122 h0 (.R (.R (.R (.L (.R (.one (.fr 0))))))) (G:=G) Gok (L:=mkL [(1,Xba.fr),(0,Xc0.fr)]) (l:=[(0,.loop Xc0.c)]) ⟨Lam.skip rfl (Lam.cons Xc0.ok),trivial⟩
  (fun x=>by simp only[Xav,mC,mB,mS,mO,mN];kernel_rfl)
end Xav
noncomputable def Xdp (l:List Xg):Option (List Xl):=Ygy l
noncomputable def Xdp.FS:FS:=Ybk [.sh] [.cl .sh (.sl Ybb)] (fun x=>Ygy x.1) fun y=>⟨[.cl .deep (.sl Yi0) y],[]⟩
theorem Xdp.okA:Yb2 Go.Proofs.Tryz.prog 215 (Ybk [.sh] [.cl .sh (.sl Ybb)] (fun x=>Ymd x.1) fun y=>⟨[.cl .top (.sl Ybb) y],[]⟩):=
 Ywd (hn:=⟨[],[],[],1⟩) Xe Xd (fn:=Go.Proofs.Tryz.f215) (by kernel_rfl) (Ygs (by kernel_rfl)) (by kernel_rfl) (by kernel_rfl) .top Xi 36 36 148 (by kernel_rfl) (by kernel_rfl) (by kernel_rfl) (by kernel_rfl) (by kernel_rfl) (by kernel_rfl) (by kernel_rfl) (by kernel_rfl) (fun xs=>by kernel_rfl) (fun xs=>by kernel_rfl) (fun xs=>by kernel_rfl) (fun xs=>by kernel_rfl)
theorem Xdp.okB:Yb2 Go.Proofs.Tryz.prog 118 (Ybk [.sh] [.cl .sh (.sl (.int .i64))] (fun x=>Ymd x.1) fun y=>⟨[.cl .deep (.sl (.int .i64)) y],[]⟩):=
 Ywd (hn:=⟨[],[],[],0⟩) Xe Xd (fn:=Go.Proofs.Tryz.f118) (by kernel_rfl) (Ygs (by kernel_rfl)) (by kernel_rfl) (by kernel_rfl) .deep (.int .i64) 51 51 2 (by kernel_rfl) (by kernel_rfl) (by kernel_rfl) (by kernel_rfl) (by kernel_rfl) (by kernel_rfl) (by kernel_rfl) (by kernel_rfl) (fun xs=>by kernel_rfl) (fun xs=>by kernel_rfl) (fun xs=>by kernel_rfl) (fun xs=>by kernel_rfl)
theorem Xdp.ok:Yb2 Go.Proofs.Tryz.prog 121 Xdp.FS:=
 Yud ⟨Go.Proofs.Tryz.f121,by kernel_rfl,by kernel_rfl,by kernel_rfl⟩ (fun w A c l hr hl hls=>callsIn_wide.1 (Go.Proofs.Ps.putSteps_in Fence.wide 1 trivial trivial (Nat.le_refl _) rfl (fun m w A c l hr hl hls=>callsIn_wide.2 (callsIn_wide.1 (Go.Proofs.Cp.clonePuts_in Fence.wide 1 trivial trivial trivial (Nat.le_refl _) rfl (fun m w A c xs hr hl=>callsIn_wide.2 (Yt9 Xdp.okA (by decide) Ywp w A c xs hr hl)) (fun m w A c xs hr hl=>callsIn_wide.2 (Yt9 Xdp.okB (by decide) Yws w A c xs hr hl)) w A c l hr hl hls))) (by kernel_rfl) w A c l hr hl hls))
def Xh6 (x:List (List Xl)):Option (List Xl):=Yhy x
def Xh6.FS:FS:=Ybk [.mv] [.cl .deep (.sl (.sl Xp))] (fun x=>Yhy x.1) fun y=>⟨[.cl .deep (.sl Xp) y],[]⟩
theorem Xh6.ok:Yb2 Go.Proofs.Tryz.prog 120 Xh6.FS:=
 Yvl (E:=147) ⟨Go.Proofs.Tryz.f120,by kernel_rfl,by kernel_rfl,by kernel_rfl⟩ (fun w A b off m c hs cs hA hr hm ht=>Go.Proofs.Cc120.concat_in w A b off m c hs cs (by kernel_rfl) hA hr hm ht)
def Xbp.B (v:Xk) (v2:Fs_) (v7:Int) (v8:Int) (v5:List Xg) (v10:Bool) (v11:Int) (v12:Unit) (v9:Int) (v13:List Int) (v14:List Xl):Option ((Int×(List Int)×List Xl)⊕((List Int)×List Xl)):=
 cond (decide (v9<v8)) (cond (inB v9 v5.length) (cond (decide ((v13++([(v5.getD v9.toNat Xq).1])).length≤2147483648)) ((Xdh (v5.getD v9.toNat Xq).2.1).bind fun v15=>(some (v14++([(false,w64 ((2:Int)+v9),v15,())]))).bind fun v16=>cond (decide (v16.length≤2147483648)) (some (.inl (w64 (v9+1),v13++([(v5.getD v9.toNat Xq).1]),v16))) none) none) none) (some (.inr (v13,v14)))
def Xbp (v:Xk) (v2:Fs_) (v7:Int) (v8:Int) (v5:List Xg) (v10:Bool) (v11:Int) (v12:Unit):(Int×(List Int)×List Xl)→Option ((List Int)×List Xl):=
 Y9 fun s=>Xbp.B v v2 v7 v8 v5 v10 v11 v12 s.1 s.2.1 s.2.2
def Xa1 (v:Xk) (v2:Fs_):Option ((List Xl)×Int):=
 (Xch v).bind fun v3=>cond (v3.1 == 60000) (some ([],8)) ((Xbt v2).bind fun v4=>(Xbg v v4).bind fun v5=>cond ((v5.length:Int) == 0) (some ([],0)) ((Xeg v5).bind fun v6=>(Xbp v v2 v3.1 (v5.length:Int) v5 true 0 () (0,[1,v3.1,v6],[])).bind fun v17=>(Xeg v5).bind fun v18=>(Xeg v5).bind fun v19=>(Xhb (w64 (v3.1+1))).bind fun v20=>(Xav v2).bind fun v21=>(Xbg v v21).bind fun v22=>(Xdp v22).bind fun v23=>(Xdp v5).bind fun v24=>(Xh6 ([v23,[(true,0,[],()),(false,1,v17.1,())],v17.2,[(true,0,[],()),(false,w64 ((2:Int)+v18),[2,v3.1,v19],()),(true,0,[],())],v24,[(true,0,[],()),(false,0,v20,()),(true,0,[],())]])).bind fun v25=>some (v25,0)))
namespace Xa1
def G:Gam:=mkG [(53,Xch.FS),(116,FS.frz Xbt.FS),(115,Xbg.FS),(117,Xeg.FS),(118,Xdh.FS),(119,Xhb.FS),(122,FS.frz Xav.FS),(121,Xdp.FS),(120,Xh6.FS)]
theorem Gok:GOk PR G:=.cons Xch.ok (.cons (Yb2.frz Xbt.ok) (.cons Xbg.ok (.cons Xeg.ok (.cons Xdh.ok (.cons Xhb.ok (.cons (Yb2.frz Xav.ok) (.cons Xdp.ok (.cons Xh6.ok .nil))))))))
end Xa1
namespace Xbp
def c:=Yap (Yaf Proofs.Tryz.f55) [1,1,1,1,1,1,1,1,0,1,0,0]
def sp:SP:=⟨[(2,.pt Xj),(3,.pt Xn),(6,.cs I64),(8,.seg 8 []),(9,.loc 9 []),(10,.seg 10 []),(11,.seg 11 []),(33,.seg 8 []),(34,.cs I64),(35,.cs I64)],[(8,.reg,.cl .top (.sl Xi)),(9,.mem,.pr (.cs .bool) (.pr (.cs I64) (.pr (.nl) (.cs .unit)))),(10,.reg,.cd SI),(11,.reg,.cd (.sl Xp))]⟩
def fr:=Yja sp (fun x s=>Xbp.B x.1.1 x.1.2.1 x.1.2.2.1 x.1.2.2.2.2.2.2.2.2.1 x.2.1 x.2.2.1.1 x.2.2.1.2.1 x.2.2.1.2.2.2 s.1 s.2.1 s.2.2) (fun x=>(x.1.2.2.2.2.2.2.2.2.2.1,x.2.2.2.1,x.2.2.2.2.1)) fun x (bb0:(List Int)×List Xl) _ kk0=>kk0 (.ex 0) ⟨[(2,.pt Xj x.1.1),(3,.pt Xn x.1.2.1),(6,.cs I64 x.1.2.2.1),(8,.seg 8 []),(9,.loc 9 []),(10,.seg 10 []),(11,.seg 11 [])],[(8,some ⟨.reg,.cl .top (.sl Xi) x.2.1⟩),(9,some ⟨.mem,.pr (.cs .bool x.2.2.1.1) (.pr (.cs I64 x.2.2.1.2.1) (.pr (.nl) (.cs .unit x.2.2.1.2.2.2)))⟩),sr 10 (.cd SI bb0.1),sr 11 (.cd (.sl Xp) bb0.2)]⟩
theorem ok:Ya7 PR 87 2 (.loop c) fr:=
 Yxo Xe Xd ⟨[2,3],[],[9],0⟩ (G:=Xa1.G) Xa1.Gok [(0,([2,3,6,8,9,10,11],[8,9,10,11]))] (fun x s=>((x.1.1,x.1.2.1,x.1.2.2.1,x.1.2.2.2.1,x.1.2.2.2.2.1,x.1.2.2.2.2.2.1,x.1.2.2.2.2.2.2.1,x.1.2.2.2.2.2.2.2.1,x.1.2.2.2.2.2.2.2.2.1,s.1,x.1.2.2.2.2.2.2.2.2.2.2),(x.2.1,x.2.2.1,s.2.1,s.2.2,x.2.2.2.2.2)))
  (fun x s=>by simp only[B,mC,mB,mS,mO,mN];kernel_rfl)
end Xbp
namespace Xa1
def pts:List PT:=[.cs Xj,.cs Xn]
def FS:FS:=Ybk [.sh,.sh] pts (fun x=>Xa1 x.1 x.2.1) fun t=>⟨[.cd (.sl Xp) t.1,.cs I64 t.2],[]⟩
theorem ok:Yb2 PR 55 FS:=
 Yxn Xe Xd Proofs.Tryz.f55 ⟨[2,3],[],[9],0⟩ (.R (.R (.R (.R (.R (.R (.R (.R (.L (.R (.one (.fr 0)))))))))))) (G:=G) Gok (L:=mkL [(0,Xbp.fr)]) (l:=[(0,.loop Xbp.c)]) ⟨Lam.cons Xbp.ok,trivial⟩
  (fun x=>by simp only[Xa1,mC,mB,mS,mO,mN];kernel_rfl)
end Xa1
def Xd6 (v:Xk) (v2:Fs_):Option Xv:=
 (Xch v).bind fun v3=>cond (v3.2 != 0) (some (v3.2,[],())) ((Xfa v2).bind fun v4=>cond (v4 != 0) (some (v4,[],())) ((Xa1 v v2).bind fun v5=>some (v5.2,v5.1,())))
namespace Xd6
def G:Gam:=mkG [(53,Xch.FS),(54,Xfa.FS),(55,Xa1.FS)]
def pts:List PT:=[.cs Xj,.cs Xn]
def FS:FS:=Ybk [.sh,.sh] pts (fun x=>Xd6 x.1 x.2.1) fun t=>⟨[.cd Xm t],[]⟩
theorem ok:Yb2 PR 12 FS:=
 Yxn Xe Xd Proofs.Tryz.f12 ⟨[2,3],[],[],0⟩ .no (G:=G) (show GOk PR G from .cons Xch.ok (.cons Xfa.ok (.cons Xa1.ok .nil))) (L:=mkL []) (l:=[]) hT
  (fun x=>by simp only[Xd6,mC,mB,mS,mO,mN];kernel_rfl)
end Xd6
def Xco.B (a:List Int) (b:List Int) (i_:Int):Option (Int⊕((Bool⊕Unit))):=
 cond (decide (i_<(a.length:Int))) (cond (inB i_ a.length) (cond (inB i_ b.length) (cond ((a.getD i_.toNat 0) != (b.getD i_.toNat 0)) (some (.inr (.inl false))) (some (.inl (w64 (i_+1))))) none) none) (some (.inr (.inr ())))
def Xco (a:List Int) (b:List Int):Int→Option ((Bool⊕Unit)):=
 Y9 fun s=>Xco.B a b s
def Xag (a:List Int) (b:List Int):Option Bool:=
 cond ((a.length:Int) != (b.length:Int)) (some false) ((Xco a b 0).bind fun o=>sel o (fun b2=>some b2) (fun c=>some true))
namespace Xco
def c:=Yap (Yaf Proofs.Tryz.f71) [1,1,0,1,0,0]
def sp:SP:=⟨[(0,.cs SI),(1,.cs SI),(5,.cs I64)],[]⟩
def fr:=Yja sp (fun x s=>Xco.B x.1.1 x.1.2.1 s) (fun x=>x.1.2.2.1) fun x (oo0:(Bool⊕Unit)) _ kk0=>sel oo0 (fun bb0=>kk0 (.rt) ⟨[(4,.cs .bool bb0)],[]⟩) (fun cc0=>kk0 (.ex 0) ⟨[],[]⟩)
theorem ok:Ya7 PR 26 2 (.loop c) fr:=
 Yt2 Xe Xd h0 .no (G:=(mkG [])) .nil (L:=mkL []) (l:=[]) hT [(0,([],[]))] ([4],[]) (fun x s=>((x.1.1,x.1.2.1,s,x.1.2.2.2),x.2))
  (fun x s=>by simp only[B,mC,mB,mS,mO,mN];kernel_rfl)
end Xco
namespace Xag
def pts:List PT:=[.cs SI,.cs SI]
def FS:FS:=Ybk [.sh,.sh] pts (fun x=>Xag x.1 x.2.1) fun t=>⟨[.cs .bool t],[]⟩
theorem ok:Yb2 PR 71 FS:=
 Yxn Xe Xd Proofs.Tryz.f71 h0 (.R (.R (.L (.R (.one (.fr 0)))))) (G:=(mkG [])) .nil (L:=mkL [(0,Xco.fr)]) (l:=[(0,.loop Xco.c)]) ⟨Lam.cons Xco.ok,trivial⟩
  (fun x=>by simp only[Xag,mC,mB,mS,mO,mN];kernel_rfl)
end Xag
def Xe1 (a:Xl) (b:Xl):Option Bool:=
 cond (!(a.1 == b.1)) (some false) (cond (a.2.1 != b.2.1) (some false) ((Xag a.2.2.1 b.2.2.1).bind fun r=>cond (!r) (some false) (some true)))
namespace Xe1
def G:Gam:=mkG [(71,Xag.FS)]
def pts:List PT:=[.cs Xp,.cs Xp]
def FS:FS:=Ybk [.sh,.sh] pts (fun x=>Xe1 x.1 x.2.1) fun t=>⟨[.cs .bool t],[]⟩
theorem ok:Yb2 PR 123 FS:=
 Yxn Xe Xd Proofs.Tryz.f123 ⟨[2,3],[],[],0⟩ .no (G:=G) (show GOk PR G from .cons Xag.ok .nil) (L:=mkL []) (l:=[]) hT
  (fun x=>by simp only[Xe1,mC,mB,mS,mO,mN];kernel_rfl)
end Xe1
def Xby.B (a:List Xl) (b:List Xl) (i_:Int):Option (Int⊕((Bool⊕Unit))):=
 cond (decide (i_<(a.length:Int))) (cond (inB i_ a.length) (cond (inB i_ b.length) ((Xe1 (a.getD i_.toNat Xar) (b.getD i_.toNat Xar)).bind fun r=>cond (!r) (some (.inr (.inl false))) (some (.inl (w64 (i_+1))))) none) none) (some (.inr (.inr ())))
def Xby (a:List Xl) (b:List Xl):Int→Option ((Bool⊕Unit)):=
 Y9 fun s=>Xby.B a b s
def Xb5 (a:List Xl) (b:List Xl):Option Bool:=
 cond ((a.length:Int) != (b.length:Int)) (some false) ((Xby a b 0).bind fun o=>sel o (fun b2=>some b2) (fun c=>some true))
namespace Xb5
def G:Gam:=mkG [(123,Xe1.FS)]
theorem Gok:GOk PR G:=.cons Xe1.ok .nil
end Xb5
namespace Xby
def c:=Yap (Yaf Proofs.Tryz.f56) [1,1,0,1,0,0]
def sp:SP:=⟨[(0,.cs (.sl Xp)),(1,.cs (.sl Xp)),(5,.cs I64)],[]⟩
def fr:=Yja sp (fun x s=>Xby.B x.1.1 x.1.2.1 s) (fun x=>x.1.2.2.1) fun x (oo0:(Bool⊕Unit)) _ kk0=>sel oo0 (fun bb0=>kk0 (.rt) ⟨[(4,.cs .bool bb0)],[]⟩) (fun cc0=>kk0 (.ex 0) ⟨[],[]⟩)
theorem ok:Ya7 PR 27 2 (.loop c) fr:=
 Yt2 Xe Xd h0 .no (G:=Xb5.G) Xb5.Gok (L:=mkL []) (l:=[]) hT [(0,([],[]))] ([4],[]) (fun x s=>((x.1.1,x.1.2.1,s,x.1.2.2.2),x.2))
  (fun x s=>by simp only[B,mC,mB,mS,mO,mN];kernel_rfl)
end Xby
namespace Xb5
def pts:List PT:=[.cs (.sl Xp),.cs (.sl Xp)]
def FS:FS:=Ybk [.sh,.sh] pts (fun x=>Xb5 x.1 x.2.1) fun t=>⟨[.cs .bool t],[]⟩
theorem ok:Yb2 PR 56 FS:=
 Yxn Xe Xd Proofs.Tryz.f56 h0 (.R (.R (.L (.R (.one (.fr 0)))))) (G:=G) Gok (L:=mkL [(0,Xby.fr)]) (l:=[(0,.loop Xby.c)]) ⟨Lam.cons Xby.ok,trivial⟩
  (fun x=>by simp only[Xb5,mC,mB,mS,mO,mN];kernel_rfl)
end Xb5
def Xdv (a:Xv) (b:Xv):Option Bool:=
 cond (a.1 != b.1) (some false) ((Xb5 a.2.1 b.2.1).bind fun r=>cond (!r) (some false) (some true))
namespace Xdv
def G:Gam:=mkG [(56,Xb5.FS)]
def pts:List PT:=[.cs Xm,.cs Xm]
def FS:FS:=Ybk [.sh,.sh] pts (fun x=>Xdv x.1 x.2.1) fun t=>⟨[.cs .bool t],[]⟩
theorem ok:Yb2 PR 13 FS:=
 Yxn Xe Xd Proofs.Tryz.f13 ⟨[2,3],[],[],0⟩ .no (G:=G) (show GOk PR G from .cons Xb5.ok .nil) (L:=mkL []) (l:=[]) hT
  (fun x=>by simp only[Xdv,mC,mB,mS,mO,mN];kernel_rfl)
end Xdv
def Xbv.B (a:List (List Int)) (b:List (List Int)) (i_:Int):Option (Int⊕((Bool⊕Unit))):=
 cond (decide (i_<(a.length:Int))) (cond (inB i_ a.length) (cond (inB i_ b.length) ((Xag (a.getD i_.toNat []) (b.getD i_.toNat [])).bind fun r=>cond (!r) (some (.inr (.inl false))) (some (.inl (w64 (i_+1))))) none) none) (some (.inr (.inr ())))
def Xbv (a:List (List Int)) (b:List (List Int)):Int→Option ((Bool⊕Unit)):=
 Y9 fun s=>Xbv.B a b s
def Xcs (a:List (List Int)) (b:List (List Int)):Option Bool:=
 cond ((a.length:Int) != (b.length:Int)) (some false) ((Xbv a b 0).bind fun o=>sel o (fun b2=>some b2) (fun c=>some true))
namespace Xcs
def G:Gam:=mkG [(71,Xag.FS)]
theorem Gok:GOk PR G:=.cons Xag.ok .nil
end Xcs
namespace Xbv
def c:=Yap (Yaf Proofs.Tryz.f57) [1,1,0,1,0,0]
def sp:SP:=⟨[(0,.cs (.sl SI)),(1,.cs (.sl SI)),(5,.cs I64)],[]⟩
def fr:=Yja sp (fun x s=>Xbv.B x.1.1 x.1.2.1 s) (fun x=>x.1.2.2.1) fun x (oo0:(Bool⊕Unit)) _ kk0=>sel oo0 (fun bb0=>kk0 (.rt) ⟨[(4,.cs .bool bb0)],[]⟩) (fun cc0=>kk0 (.ex 0) ⟨[],[]⟩)
theorem ok:Ya7 PR 27 2 (.loop c) fr:=
 Yt2 Xe Xd h0 .no (G:=Xcs.G) Xcs.Gok (L:=mkL []) (l:=[]) hT [(0,([],[]))] ([4],[]) (fun x s=>((x.1.1,x.1.2.1,s,x.1.2.2.2),x.2))
  (fun x s=>by simp only[B,mC,mB,mS,mO,mN];kernel_rfl)
end Xbv
namespace Xcs
def pts:List PT:=[.cs (.sl SI),.cs (.sl SI)]
def FS:FS:=Ybk [.sh,.sh] pts (fun x=>Xcs x.1 x.2.1) fun t=>⟨[.cs .bool t],[]⟩
theorem ok:Yb2 PR 57 FS:=
 Yxn Xe Xd Proofs.Tryz.f57 h0 (.R (.R (.L (.R (.one (.fr 0)))))) (G:=G) Gok (L:=mkL [(0,Xbv.fr)]) (l:=[(0,.loop Xbv.c)]) ⟨Lam.cons Xbv.ok,trivial⟩
  (fun x=>by simp only[Xcs,mC,mB,mS,mO,mN];kernel_rfl)
end Xcs
def Xfl (a:Xg) (b:Xg):Option Bool:=
 cond (a.1 != b.1) (some false) ((Xag a.2.1 b.2.1).bind fun r=>cond (!r) (some false) (some true))
namespace Xfl
def G:Gam:=mkG [(71,Xag.FS)]
def pts:List PT:=[.cs Xi,.cs Xi]
def FS:FS:=Ybk [.sh,.sh] pts (fun x=>Xfl x.1 x.2.1) fun t=>⟨[.cs .bool t],[]⟩
theorem ok:Yb2 PR 124 FS:=
 Yxn Xe Xd Proofs.Tryz.f124 ⟨[2,3],[],[],0⟩ .no (G:=G) (show GOk PR G from .cons Xag.ok .nil) (L:=mkL []) (l:=[]) hT
  (fun x=>by simp only[Xfl,mC,mB,mS,mO,mN];kernel_rfl)
end Xfl
def Xc3.B (a:List Xg) (b:List Xg) (i_:Int):Option (Int⊕((Bool⊕Unit))):=
 cond (decide (i_<(a.length:Int))) (cond (inB i_ a.length) (cond (inB i_ b.length) ((Xfl (a.getD i_.toNat Xq) (b.getD i_.toNat Xq)).bind fun r=>cond (!r) (some (.inr (.inl false))) (some (.inl (w64 (i_+1))))) none) none) (some (.inr (.inr ())))
def Xc3 (a:List Xg) (b:List Xg):Int→Option ((Bool⊕Unit)):=
 Y9 fun s=>Xc3.B a b s
def Xcd (a:List Xg) (b:List Xg):Option Bool:=
 cond ((a.length:Int) != (b.length:Int)) (some false) ((Xc3 a b 0).bind fun o=>sel o (fun b2=>some b2) (fun c=>some true))
namespace Xcd
def G:Gam:=mkG [(124,Xfl.FS)]
theorem Gok:GOk PR G:=.cons Xfl.ok .nil
end Xcd
namespace Xc3
def c:=Yap (Yaf Proofs.Tryz.f58) [1,1,0,1,0,0]
def sp:SP:=⟨[(0,.cs (.sl Xi)),(1,.cs (.sl Xi)),(5,.cs I64)],[]⟩
def fr:=Yja sp (fun x s=>Xc3.B x.1.1 x.1.2.1 s) (fun x=>x.1.2.2.1) fun x (oo0:(Bool⊕Unit)) _ kk0=>sel oo0 (fun bb0=>kk0 (.rt) ⟨[(4,.cs .bool bb0)],[]⟩) (fun cc0=>kk0 (.ex 0) ⟨[],[]⟩)
theorem ok:Ya7 PR 27 2 (.loop c) fr:=
 Yt2 Xe Xd h0 .no (G:=Xcd.G) Xcd.Gok (L:=mkL []) (l:=[]) hT [(0,([],[]))] ([4],[]) (fun x s=>((x.1.1,x.1.2.1,s,x.1.2.2.2),x.2))
  (fun x s=>by simp only[B,mC,mB,mS,mO,mN];kernel_rfl)
end Xc3
namespace Xcd
def pts:List PT:=[.cs (.sl Xi),.cs (.sl Xi)]
def FS:FS:=Ybk [.sh,.sh] pts (fun x=>Xcd x.1 x.2.1) fun t=>⟨[.cs .bool t],[]⟩
theorem ok:Yb2 PR 58 FS:=
 Yxn Xe Xd Proofs.Tryz.f58 h0 (.R (.R (.L (.R (.one (.fr 0)))))) (G:=G) Gok (L:=mkL [(0,Xc3.fr)]) (l:=[(0,.loop Xc3.c)]) ⟨Lam.cons Xc3.ok,trivial⟩
  (fun x=>by simp only[Xcd,mC,mB,mS,mO,mN];kernel_rfl)
end Xcd
def Xfc (a:Xk) (b:Xk):Option Bool:=
 (Xcs a.1 b.1).bind fun r=>cond (!r) (some false) ((Xcd a.2.1 b.2.1).bind fun r2=>cond (!r2) (some false) (some true))
namespace Xfc
def G:Gam:=mkG [(57,Xcs.FS),(58,Xcd.FS)]
def pts:List PT:=[.cs Xj,.cs Xj]
def FS:FS:=Ybk [.sh,.sh] pts (fun x=>Xfc x.1 x.2.1) fun t=>⟨[.cs .bool t],[]⟩
theorem ok:Yb2 PR 14 FS:=
 Yxn Xe Xd Proofs.Tryz.f14 ⟨[2,3],[],[],0⟩ .no (G:=G) (show GOk PR G from .cons Xcs.ok (.cons Xcd.ok .nil)) (L:=mkL []) (l:=[]) hT
  (fun x=>by simp only[Xfc,mC,mB,mS,mO,mN];kernel_rfl)
end Xfc
def Xfk (a:Xf) (b:Xf):Option Bool:=
 cond (!(a.1 == b.1)) (some false) (cond (a.2.1 != b.2.1) (some false) (some true))
namespace Xfk
def pts:List PT:=[.cs Xh,.cs Xh]
def FS:FS:=Ybk [.sh,.sh] pts (fun x=>Xfk x.1 x.2.1) fun t=>⟨[.cs .bool t],[]⟩
theorem ok:Yb2 PR 227 FS:=
 Yxn Xe Xd Proofs.Tryz.f227 ⟨[2,3],[],[],0⟩ .no (G:=(mkG [])) .nil (L:=mkL []) (l:=[]) hT
  (fun x=>by simp only[Xfk,mC,mB,mS,mO,mN];kernel_rfl)
end Xfk
def Xb4.B (a:List Xf) (b:List Xf) (i_:Int):Option (Int⊕((Bool⊕Unit))):=
 cond (decide (i_<(a.length:Int))) (cond (inB i_ a.length) (cond (inB i_ b.length) ((Xfk (a.getD i_.toNat Xo) (b.getD i_.toNat Xo)).bind fun r=>cond (!r) (some (.inr (.inl false))) (some (.inl (w64 (i_+1))))) none) none) (some (.inr (.inr ())))
def Xb4 (a:List Xf) (b:List Xf):Int→Option ((Bool⊕Unit)):=
 Y9 fun s=>Xb4.B a b s
def Xb2 (a:List Xf) (b:List Xf):Option Bool:=
 cond ((a.length:Int) != (b.length:Int)) (some false) ((Xb4 a b 0).bind fun o=>sel o (fun b2=>some b2) (fun c=>some true))
namespace Xb2
def G:Gam:=mkG [(227,Xfk.FS)]
theorem Gok:GOk PR G:=.cons Xfk.ok .nil
end Xb2
namespace Xb4
def c:=Yap (Yaf Proofs.Tryz.f190) [1,1,0,1,0,0]
def sp:SP:=⟨[(0,.cs (.sl Xh)),(1,.cs (.sl Xh)),(5,.cs I64)],[]⟩
def fr:=Yja sp (fun x s=>Xb4.B x.1.1 x.1.2.1 s) (fun x=>x.1.2.2.1) fun x (oo0:(Bool⊕Unit)) _ kk0=>sel oo0 (fun bb0=>kk0 (.rt) ⟨[(4,.cs .bool bb0)],[]⟩) (fun cc0=>kk0 (.ex 0) ⟨[],[]⟩)
theorem ok:Ya7 PR 27 2 (.loop c) fr:=
 Yt2 Xe Xd h0 .no (G:=Xb2.G) Xb2.Gok (L:=mkL []) (l:=[]) hT [(0,([],[]))] ([4],[]) (fun x s=>((x.1.1,x.1.2.1,s,x.1.2.2.2),x.2))
  (fun x s=>by simp only[B,mC,mB,mS,mO,mN];kernel_rfl)
end Xb4
namespace Xb2
def pts:List PT:=[.cs (.sl Xh),.cs (.sl Xh)]
def FS:FS:=Ybk [.sh,.sh] pts (fun x=>Xb2 x.1 x.2.1) fun t=>⟨[.cs .bool t],[]⟩
theorem ok:Yb2 PR 190 FS:=
 Yxn Xe Xd Proofs.Tryz.f190 h0 (.R (.R (.L (.R (.one (.fr 0)))))) (G:=G) Gok (L:=mkL [(0,Xb4.fr)]) (l:=[(0,.loop Xb4.c)]) ⟨Lam.cons Xb4.ok,trivial⟩
  (fun x=>by simp only[Xb2,mC,mB,mS,mO,mN];kernel_rfl)
end Xb2
def Xf1 (a:Xa) (b:Xa):Option Bool:=
 cond (a.1 != b.1) (some false) (cond (a.2.1 != b.2.1) (some false) (cond (a.2.2.1 != b.2.2.1) (some false) ((Xag a.2.2.2.1 b.2.2.2.1).bind fun r=>cond (!r) (some false) ((Xb2 a.2.2.2.2.1 b.2.2.2.2.1).bind fun r2=>cond (!r2) (some false) (some true)))))
namespace Xf1
def G:Gam:=mkG [(71,Xag.FS),(190,Xb2.FS)]
def pts:List PT:=[.cs Xc,.cs Xc]
def FS:FS:=Ybk [.sh,.sh] pts (fun x=>Xf1 x.1 x.2.1) fun t=>⟨[.cs .bool t],[]⟩
theorem ok:Yb2 PR 125 FS:=
 Yxn Xe Xd Proofs.Tryz.f125 ⟨[2,3],[],[],0⟩ .no (G:=G) (show GOk PR G from .cons Xag.ok (.cons Xb2.ok .nil)) (L:=mkL []) (l:=[]) hT
  (fun x=>by simp only[Xf1,mC,mB,mS,mO,mN];kernel_rfl)
end Xf1
def Xbu.B (a:List Xa) (b:List Xa) (i_:Int):Option (Int⊕((Bool⊕Unit))):=
 cond (decide (i_<(a.length:Int))) (cond (inB i_ a.length) (cond (inB i_ b.length) ((Xf1 (a.getD i_.toNat Xb) (b.getD i_.toNat Xb)).bind fun r=>cond (!r) (some (.inr (.inl false))) (some (.inl (w64 (i_+1))))) none) none) (some (.inr (.inr ())))
def Xbu (a:List Xa) (b:List Xa):Int→Option ((Bool⊕Unit)):=
 Y9 fun s=>Xbu.B a b s
def Xcv (a:List Xa) (b:List Xa):Option Bool:=
 cond ((a.length:Int) != (b.length:Int)) (some false) ((Xbu a b 0).bind fun o=>sel o (fun b2=>some b2) (fun c=>some true))
namespace Xcv
def G:Gam:=mkG [(125,Xf1.FS)]
theorem Gok:GOk PR G:=.cons Xf1.ok .nil
end Xcv
namespace Xbu
def c:=Yap (Yaf Proofs.Tryz.f59) [1,1,0,1,0,0]
def sp:SP:=⟨[(0,.cs (.sl Xc)),(1,.cs (.sl Xc)),(5,.cs I64)],[]⟩
def fr:=Yja sp (fun x s=>Xbu.B x.1.1 x.1.2.1 s) (fun x=>x.1.2.2.1) fun x (oo0:(Bool⊕Unit)) _ kk0=>sel oo0 (fun bb0=>kk0 (.rt) ⟨[(4,.cs .bool bb0)],[]⟩) (fun cc0=>kk0 (.ex 0) ⟨[],[]⟩)
theorem ok:Ya7 PR 27 2 (.loop c) fr:=
 Yt2 Xe Xd h0 .no (G:=Xcv.G) Xcv.Gok (L:=mkL []) (l:=[]) hT [(0,([],[]))] ([4],[]) (fun x s=>((x.1.1,x.1.2.1,s,x.1.2.2.2),x.2))
  (fun x s=>by simp only[B,mC,mB,mS,mO,mN];kernel_rfl)
end Xbu
namespace Xcv
def pts:List PT:=[.cs (.sl Xc),.cs (.sl Xc)]
def FS:FS:=Ybk [.sh,.sh] pts (fun x=>Xcv x.1 x.2.1) fun t=>⟨[.cs .bool t],[]⟩
theorem ok:Yb2 PR 59 FS:=
 Yxn Xe Xd Proofs.Tryz.f59 h0 (.R (.R (.L (.R (.one (.fr 0)))))) (G:=G) Gok (L:=mkL [(0,Xbu.fr)]) (l:=[(0,.loop Xbu.c)]) ⟨Lam.cons Xbu.ok,trivial⟩
  (fun x=>by simp only[Xcv,mC,mB,mS,mO,mN];kernel_rfl)
end Xcv
def Xb6.B (a:List Int) (b:List Int) (i_:Int):Option (Int⊕((Bool⊕Unit))):=
 cond (decide (i_<(a.length:Int))) (cond (inB i_ a.length) (cond (inB i_ b.length) (cond ((a.getD i_.toNat 0) != (b.getD i_.toNat 0)) (some (.inr (.inl false))) (some (.inl (w64 (i_+1))))) none) none) (some (.inr (.inr ())))
def Xb6 (a:List Int) (b:List Int):Int→Option ((Bool⊕Unit)):=
 Y9 fun s=>Xb6.B a b s
def Xe9 (a:List Int) (b:List Int):Option Bool:=
 cond ((a.length:Int) != (b.length:Int)) (some false) ((Xb6 a b 0).bind fun o=>sel o (fun b2=>some b2) (fun c=>some true))
namespace Xb6
def c:=Yap (Yaf Proofs.Tryz.f126) [1,1,0,1,0,0]
def sp:SP:=⟨[(0,.cs SB),(1,.cs SB),(5,.cs I64)],[]⟩
def fr:=Yja sp (fun x s=>Xb6.B x.1.1 x.1.2.1 s) (fun x=>x.1.2.2.1) fun x (oo0:(Bool⊕Unit)) _ kk0=>sel oo0 (fun bb0=>kk0 (.rt) ⟨[(4,.cs .bool bb0)],[]⟩) (fun cc0=>kk0 (.ex 0) ⟨[],[]⟩)
theorem ok:Ya7 PR 26 2 (.loop c) fr:=
 Yt2 Xe Xd h0 .no (G:=(mkG [])) .nil (L:=mkL []) (l:=[]) hT [(0,([],[]))] ([4],[]) (fun x s=>((x.1.1,x.1.2.1,s,x.1.2.2.2),x.2))
  (fun x s=>by simp only[B,mC,mB,mS,mO,mN];kernel_rfl)
end Xb6
namespace Xe9
def pts:List PT:=[.cs SB,.cs SB]
def FS:FS:=Ybk [.sh,.sh] pts (fun x=>Xe9 x.1 x.2.1) fun t=>⟨[.cs .bool t],[]⟩
theorem ok:Yb2 PR 126 FS:=
 Yxn Xe Xd Proofs.Tryz.f126 h0 (.R (.R (.L (.R (.one (.fr 0)))))) (G:=(mkG [])) .nil (L:=mkL [(0,Xb6.fr)]) (l:=[(0,.loop Xb6.c)]) ⟨Lam.cons Xb6.ok,trivial⟩
  (fun x=>by simp only[Xe9,mC,mB,mS,mO,mN];kernel_rfl)
end Xe9
def Xcz.B (a:List (List Int)) (b:List (List Int)) (i_:Int):Option (Int⊕((Bool⊕Unit))):=
 cond (decide (i_<(a.length:Int))) (cond (inB i_ a.length) (cond (inB i_ b.length) ((Xe9 (a.getD i_.toNat []) (b.getD i_.toNat [])).bind fun r=>cond (!r) (some (.inr (.inl false))) (some (.inl (w64 (i_+1))))) none) none) (some (.inr (.inr ())))
def Xcz (a:List (List Int)) (b:List (List Int)):Int→Option ((Bool⊕Unit)):=
 Y9 fun s=>Xcz.B a b s
def Xb3 (a:List (List Int)) (b:List (List Int)):Option Bool:=
 cond ((a.length:Int) != (b.length:Int)) (some false) ((Xcz a b 0).bind fun o=>sel o (fun b2=>some b2) (fun c=>some true))
namespace Xb3
def G:Gam:=mkG [(126,Xe9.FS)]
theorem Gok:GOk PR G:=.cons Xe9.ok .nil
end Xb3
namespace Xcz
def c:=Yap (Yaf Proofs.Tryz.f60) [1,1,0,1,0,0]
def sp:SP:=⟨[(0,.cs (.sl SB)),(1,.cs (.sl SB)),(5,.cs I64)],[]⟩
def fr:=Yja sp (fun x s=>Xcz.B x.1.1 x.1.2.1 s) (fun x=>x.1.2.2.1) fun x (oo0:(Bool⊕Unit)) _ kk0=>sel oo0 (fun bb0=>kk0 (.rt) ⟨[(4,.cs .bool bb0)],[]⟩) (fun cc0=>kk0 (.ex 0) ⟨[],[]⟩)
theorem ok:Ya7 PR 27 2 (.loop c) fr:=
 Yt2 Xe Xd h0 .no (G:=Xb3.G) Xb3.Gok (L:=mkL []) (l:=[]) hT [(0,([],[]))] ([4],[]) (fun x s=>((x.1.1,x.1.2.1,s,x.1.2.2.2),x.2))
  (fun x s=>by simp only[B,mC,mB,mS,mO,mN];kernel_rfl)
end Xcz
namespace Xb3
def pts:List PT:=[.cs (.sl SB),.cs (.sl SB)]
def FS:FS:=Ybk [.sh,.sh] pts (fun x=>Xb3 x.1 x.2.1) fun t=>⟨[.cs .bool t],[]⟩
theorem ok:Yb2 PR 60 FS:=
 Yxn Xe Xd Proofs.Tryz.f60 h0 (.R (.R (.L (.R (.one (.fr 0)))))) (G:=G) Gok (L:=mkL [(0,Xcz.fr)]) (l:=[(0,.loop Xcz.c)]) ⟨Lam.cons Xcz.ok,trivial⟩
  (fun x=>by simp only[Xb3,mC,mB,mS,mO,mN];kernel_rfl)
end Xb3
def Xfx (a:Fs_) (b:Fs_):Option Bool:=
 (Xcv a.1 b.1).bind fun r=>cond (!r) (some false) ((Xb3 a.2.1 b.2.1).bind fun r2=>cond (!r2) (some false) (some true))
namespace Xfx
def G:Gam:=mkG [(59,Xcv.FS),(60,Xb3.FS)]
def pts:List PT:=[.cs Xn,.cs Xn]
def FS:FS:=Ybk [.sh,.sh] pts (fun x=>Xfx x.1 x.2.1) fun t=>⟨[.cs .bool t],[]⟩
theorem ok:Yb2 PR 15 FS:=
 Yxn Xe Xd Proofs.Tryz.f15 ⟨[2,3],[],[],0⟩ .no (G:=G) (show GOk PR G from .cons Xcv.ok (.cons Xb3.ok .nil)) (L:=mkL []) (l:=[]) hT
  (fun x=>by simp only[Xfx,mC,mB,mS,mO,mN];kernel_rfl)
end Xfx
def Xa8.B (k_:Int) (i_:Int) (a_:List Int):Option ((Int×Int×List Int)⊕(Int×List Int)):=
 cond (decide (i_<(a_.length:Int))) (cond (inB i_ a_.length) (some (.inl (w64 (k_+1),w64 (i_+1),a_.set i_.toNat k_))) none) (some (.inr (k_,a_)))
def Xa8 :(Int×Int×List Int)→Option (Int×List Int):=
 Y9 fun s=>Xa8.B s.1 s.2.1 s.2.2
def Xaf (a:List Int) (k:Int):Option (Int×List Int):=
 (Xa8 (k,0,a)).bind fun o=>some (o.1,o.2)
namespace Xa8
def c:=Yap (Yaf Proofs.Tryz.f72) [1,0,1,0,0]
def sp:SP:=⟨[(0,.seg 0 []),(1,.cs I64),(5,.cs I64)],[(0,.reg,.cd SI)]⟩
def fr:=Yja sp (fun x s=>Xa8.B  s.1 s.2.1 s.2.2) (fun x=>(x.1.2.1,x.1.2.2.1,x.2.1)) fun x (bb0:Int×List Int) _ kk0=>kk0 (.ex 0) ⟨[(1,.cs I64 bb0.1)],[sr 0 (.cd SI bb0.2)]⟩
theorem ok:Ya7 PR 19 2 (.loop c) fr:=
 Yxd Xe Xd h0 [(0,([1],[0]))] (fun x s=>((x.1.1,s.1,s.2.1,x.1.2.2.2),(s.2.2,x.2.2)))
  (fun x s=>by simp only[B,mC,mB,mS,mO,mN];kernel_rfl)
end Xa8
namespace Xaf
def pts:List PT:=[.cd SI,.cs I64]
def FS:FS:=Ybk [.mu,.sh] pts (fun x=>Xaf x.1 x.2.1) fun t=>⟨[.cs I64 t.1],[.cd SI t.2]⟩
theorem ok:Yb2 PR 72 FS:=
 Yxn Xe Xd Proofs.Tryz.f72 h0 (.R (.L (.R (.one (.fr 0))))) (G:=(mkG [])) .nil (L:=mkL [(0,Xa8.fr)]) (l:=[(0,.loop Xa8.c)]) ⟨Lam.cons Xa8.ok,trivial⟩
  (fun x=>by simp only[Xaf,mC,mB,mS,mO,mN];kernel_rfl)
end Xaf
def Xbd.B (k_:Int) (i_:Int) (a_:List (List Int)):Option ((Int×Int×List (List Int))⊕(Int×List (List Int))):=
 cond (decide (i_<(a_.length:Int))) (cond (inB i_ a_.length) ((Xaf (a_.getD i_.toNat []) k_).bind fun r=>some (.inl (r.1,w64 (i_+1),a_.set i_.toNat r.2))) none) (some (.inr (k_,a_)))
def Xbd :(Int×Int×List (List Int))→Option (Int×List (List Int)):=
 Y9 fun s=>Xbd.B s.1 s.2.1 s.2.2
def Xcf (a:List (List Int)) (k:Int):Option (Int×List (List Int)):=
 (Xbd (k,0,a)).bind fun o=>some (o.1,o.2)
namespace Xcf
def G:Gam:=mkG [(72,Xaf.FS)]
theorem Gok:GOk PR G:=.cons Xaf.ok .nil
end Xcf
namespace Xbd
def c:=Yap (Yaf Proofs.Tryz.f61) [1,0,1,0,0]
def sp:SP:=⟨[(0,.seg 0 []),(1,.cs I64),(5,.cs I64)],[(0,.reg,.cd (.sl SI))]⟩
def fr:=Yja sp (fun x s=>Xbd.B  s.1 s.2.1 s.2.2) (fun x=>(x.1.2.1,x.1.2.2.1,x.2.1)) fun x (bb0:Int×List (List Int)) _ kk0=>kk0 (.ex 0) ⟨[(1,.cs I64 bb0.1)],[sr 0 (.cd (.sl SI) bb0.2)]⟩
theorem ok:Ya7 PR 19 2 (.loop c) fr:=
 Yxo Xe Xd h0 (G:=Xcf.G) Xcf.Gok [(0,([1],[0]))] (fun x s=>((x.1.1,s.1,s.2.1,x.1.2.2.2),(s.2.2,x.2.2)))
  (fun x s=>by simp only[B,mC,mB,mS,mO,mN];kernel_rfl)
end Xbd
namespace Xcf
def pts:List PT:=[.cd (.sl SI),.cs I64]
def FS:FS:=Ybk [.mu,.sh] pts (fun x=>Xcf x.1 x.2.1) fun t=>⟨[.cs I64 t.1],[.cd (.sl SI) t.2]⟩
theorem ok:Yb2 PR 61 FS:=
 Yxn Xe Xd Proofs.Tryz.f61 h0 (.R (.L (.R (.one (.fr 0))))) (G:=G) Gok (L:=mkL [(0,Xbd.fr)]) (l:=[(0,.loop Xbd.c)]) ⟨Lam.cons Xbd.ok,trivial⟩
  (fun x=>by simp only[Xcf,mC,mB,mS,mO,mN];kernel_rfl)
end Xcf
def Xbn.B (k_:Int) (i_:Int) (a_:List Xg):Option ((Int×Int×List Xg)⊕(Int×List Xg)):=
 cond (decide (i_<(a_.length:Int))) (cond (inB i_ a_.length) (cond (inB i_ ((a_.set i_.toNat (k_,(a_.getD i_.toNat Xq).2)).length)) ((Xaf ((a_.set i_.toNat (k_,(a_.getD i_.toNat Xq).2)).getD i_.toNat Xq).2.1 (w64 (k_+1))).bind fun r=>some (.inl (r.1,w64 (i_+1),(a_.set i_.toNat (k_,(a_.getD i_.toNat Xq).2)).set i_.toNat (((a_.set i_.toNat (k_,(a_.getD i_.toNat Xq).2)).getD i_.toNat Xq).1,r.2,((a_.set i_.toNat (k_,(a_.getD i_.toNat Xq).2)).getD i_.toNat Xq).2.2)))) none) none) (some (.inr (k_,a_)))
def Xbn :(Int×Int×List Xg)→Option (Int×List Xg):=
 Y9 fun s=>Xbn.B s.1 s.2.1 s.2.2
def Xb1 (a:List Xg) (k:Int):Option (Int×List Xg):=
 (Xbn (k,0,a)).bind fun o=>some (o.1,o.2)
namespace Xb1
def G:Gam:=mkG [(72,Xaf.FS)]
theorem Gok:GOk PR G:=.cons Xaf.ok .nil
end Xb1
namespace Xbn
def c:=Yap (Yaf Proofs.Tryz.f62) [1,0,1,0,0]
def sp:SP:=⟨[(0,.seg 0 []),(1,.cs I64),(5,.cs I64)],[(0,.reg,.cd (.sl Xi))]⟩
def fr:=Yja sp (fun x s=>Xbn.B  s.1 s.2.1 s.2.2) (fun x=>(x.1.2.1,x.1.2.2.1,x.2.1)) fun x (bb0:Int×List Xg) _ kk0=>kk0 (.ex 0) ⟨[(1,.cs I64 bb0.1)],[sr 0 (.cd (.sl Xi) bb0.2)]⟩
theorem ok:Ya7 PR 27 2 (.loop c) fr:=
 Yxo Xe Xd h0 (G:=Xb1.G) Xb1.Gok [(0,([1],[0]))] (fun x s=>((x.1.1,s.1,s.2.1,x.1.2.2.2),(s.2.2,x.2.2)))
  (fun x s=>by simp only[B,mC,mB,mS,mO,mN];kernel_rfl)
end Xbn
namespace Xb1
def pts:List PT:=[.cd (.sl Xi),.cs I64]
def FS:FS:=Ybk [.mu,.sh] pts (fun x=>Xb1 x.1 x.2.1) fun t=>⟨[.cs I64 t.1],[.cd (.sl Xi) t.2]⟩
theorem ok:Yb2 PR 62 FS:=
 Yxn Xe Xd Proofs.Tryz.f62 h0 (.R (.L (.R (.one (.fr 0))))) (G:=G) Gok (L:=mkL [(0,Xbn.fr)]) (l:=[(0,.loop Xbn.c)]) ⟨Lam.cons Xbn.ok,trivial⟩
  (fun x=>by simp only[Xb1,mC,mB,mS,mO,mN];kernel_rfl)
end Xb1
end Mf
