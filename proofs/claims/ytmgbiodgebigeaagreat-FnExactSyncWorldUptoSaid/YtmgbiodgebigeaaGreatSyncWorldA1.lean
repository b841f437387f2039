import Derived.Test.YtmgbiodgebigeaaGreatSyncWorldH
import Derived.Test.YtmgbiodgebigeaaGreatSyncWorldJ
import Derived.Test.YtmgbiodgebigeaaGreatProg
import Derived.KernelRfl
import Derived.Shelf.SortM.Plain
import Derived.Shelf.SortM.SortNone
import Derived.Shelf.SlGeneric
import Derived.Ground.SlgmProg
set_option linter.unusedVariables false
set_option linter.unusedSimpArgs false
namespace Go.Proofs
open Go.Shelf
def Tryz.Xo1:Go.Shelf.Ren:=⟨fun | 5=>132 | 8=>179 | 7=>178 | 19=>203 | 20=>204 | 10=>194 | 11=>195 | 12=>196 | 13=>197 | 14=>198 | 15=>199 | 16=>200 | 17=>201 | 18=>202 | 30=>212 | 31=>213 | 32=>214 | 33=>215 | 34=>216 | 35=>217 | 40=>218 | n=>n,fun | 23=>97 | 25=>2 | 3=>3 | 32=>206 | 22=>97 | 0=>0 | 44=>223 | 46=>225 | 4=>4 | 36=>215 | 35=>214 | 41=>220 | 5=>5 | 9=>9 | 53=>229 | 57=>233 | 63=>235 | 64=>236 | n=>n,fun | n=>n⟩
theorem Tryz.Xpt:Go.Proofs.SlLaysM.n5 Tryz.prog Tryz.Xo1:={
 mixed:=by kernel_rfl
 f5:=⟨Tryz.f132.name,by decide,Tryz.func132.trans (congrArg some (by kernel_rfl))⟩
 f7:=⟨Tryz.f178.name,by decide,Tryz.func178.trans (congrArg some (by kernel_rfl))⟩
 f8:=Tryz.func179.trans (congrArg some (by kernel_rfl))
 f10:=⟨Tryz.f194.name,by decide,Tryz.func194.trans (congrArg some (by kernel_rfl))⟩
 f11:=⟨Tryz.f195.name,by decide,Tryz.func195.trans (congrArg some (by kernel_rfl))⟩
 f12:=⟨Tryz.f196.name,by decide,Tryz.func196.trans (congrArg some (by kernel_rfl))⟩
 f13:=⟨Tryz.f197.name,by decide,Tryz.func197.trans (congrArg some (by kernel_rfl))⟩
 f14:=⟨Tryz.f198.name,by decide,Tryz.func198.trans (congrArg some (by kernel_rfl))⟩
 f15:=⟨Tryz.f199.name,by decide,Tryz.func199.trans (congrArg some (by kernel_rfl))⟩
 f16:=⟨Tryz.f200.name,by decide,Tryz.func200.trans (congrArg some (by kernel_rfl))⟩
 f17:=⟨Tryz.f201.name,by decide,Tryz.func201.trans (congrArg some (by kernel_rfl))⟩
 f18:=⟨Tryz.f202.name,by decide,Tryz.func202.trans (congrArg some (by kernel_rfl))⟩
 f19:=Tryz.func203.trans (congrArg some (by kernel_rfl))
 f20:=Tryz.func204.trans (congrArg some (by kernel_rfl))
 f30:=⟨Tryz.f212.name,by decide,Tryz.func212.trans (congrArg some (by kernel_rfl))⟩
 f31:=Tryz.func213.trans (congrArg some (by kernel_rfl))
 f32:=Tryz.func214.trans (congrArg some (by kernel_rfl))
 f33:=⟨Tryz.f215.name,by decide,Tryz.func215.trans (congrArg some (by kernel_rfl))⟩
 f34:=⟨Tryz.f216.name,by decide,Tryz.func216.trans (congrArg some (by kernel_rfl))⟩
 f35:=⟨Tryz.f217.name,by decide,Tryz.func217.trans (congrArg some (by kernel_rfl))⟩
 f40:=⟨Tryz.f218.name,by decide,Tryz.func218.trans (congrArg some (by kernel_rfl))⟩
 t0:=Tryz.underlying0
 a0:=Tryz.isAgg0
 z0:=Tryz.sizeOf0
 v0:=Tryz.zeroValue0
 t3:=Tryz.underlying3
 a3:=Tryz.isAgg3
 z3:=Tryz.sizeOf3
 v3:=Tryz.zeroValue3
 t4:=Tryz.underlying4
 a4:=Tryz.isAgg4
 z4:=Tryz.sizeOf4
 v4:=Tryz.zeroValue4
 t5:=Tryz.underlying5
 a5:=Tryz.isAgg5
 z5:=Tryz.sizeOf5
 v5:=Tryz.zeroValue5
 t9:=Tryz.underlying9
 a9:=Tryz.isAgg9
 z9:=Tryz.sizeOf9
 v9:=Tryz.zeroValue9
 t22:=Tryz.underlying97
 a22:=Tryz.isAgg97
 z22:=Tryz.sizeOf97
 v22:=Tryz.zeroValue97
 t23:=Tryz.underlying97
 a23:=Tryz.isAgg97
 z23:=Tryz.sizeOf97
 v23:=Tryz.zeroValue97
 t25:=Tryz.underlying2
 a25:=Tryz.isAgg2
 z25:=Tryz.sizeOf2
 v25:=Tryz.zeroValue2
 t32:=Tryz.underlying206
 a32:=Tryz.isAgg206
 z32:=Tryz.sizeOf206
 v32:=Tryz.zeroValue206
 t35:=Tryz.underlying214
 a35:=Tryz.isAgg214
 z35:=Tryz.sizeOf214
 v35:=Tryz.zeroValue214
 t36:=Tryz.underlying215
 a36:=Tryz.isAgg215
 z36:=Tryz.sizeOf215
 v36:=Tryz.zeroValue215
 t41:=Tryz.underlying220
 a41:=Tryz.isAgg220
 z41:=Tryz.sizeOf220
 v41:=Tryz.zeroValue220
 t44:=Tryz.underlying223
 a44:=Tryz.isAgg223
 z44:=Tryz.sizeOf223
 v44:=Tryz.zeroValue223
 t46:=Tryz.underlying225
 a46:=Tryz.isAgg225
 z46:=Tryz.sizeOf225
 v46:=Tryz.zeroValue225
 t53:=Tryz.underlying229
 a53:=Tryz.isAgg229
 z53:=Tryz.sizeOf229
 v53:=Tryz.zeroValue229
 t57:=Tryz.underlying233
 a57:=Tryz.isAgg233
 z57:=Tryz.sizeOf233
 v57:=Tryz.zeroValue233
 t63:=Tryz.underlying235
 a63:=Tryz.isAgg235
 z63:=Tryz.sizeOf235
 v63:=Tryz.zeroValue235
 t64:=Tryz.underlying236
 a64:=Tryz.isAgg236
 z64:=Tryz.sizeOf236
 v64:=Tryz.zeroValue236 }
end Go.Proofs
noncomputable section
namespace Mf
open Go
set_option maxRecDepth 100000
abbrev Xm:Ty:=(.pair (.int .i64) (.pair (.sl (.int .i64)) .unit))
abbrev Xj:Type:=Int×(List Int)×Unit
def Xv:Xj:=(0,[],())
abbrev Xh:Ty:=(.pair (.sl (.sl (.int .i64))) (.pair (.sl Xm) .unit))
abbrev Xd:Type:=(List (List Int))×(List Xj)×Unit
def Xv9:Xd:=([],[],())
abbrev X6:Ty:=(.pair .bool Xm)
abbrev Xr:Type:=Bool×Xj
def Xiu:Xr:=(false,0,[],())
abbrev Xi:Ty:=(.pair .str (.pair (.int .i64) .unit))
abbrev Xg:Type:=(List UInt8)×Int×Unit
def Xl:Xg:=([],0,())
abbrev Xc:Ty:=(.pair (.int .i64) (.pair (.int .i64) (.pair (.int .i64) (.pair (.sl (.int .i64)) (.pair (.sl Xi) .unit)))))
abbrev Xa:Type:=Int×Int×Int×(List Int)×(List Xg)×Unit
def Xb:Xa:=(0,0,0,[],[],())
abbrev Xk:Ty:=(.pair (.sl Xc) (.pair (.sl (.sl (.int .u8))) .unit))
abbrev Fs_:Type:=(List Xa)×(List (List Int))×Unit
def Xwd:Fs_:=([],[],())
abbrev Xp:Ty:=(.pair Xh (.pair Xk (.pair Xk .unit)))
abbrev X0:Type:=Xd×Fs_×Fs_×Unit
def Xv1:X0:=(([],[],()),([],[],()),([],[],()),())
abbrev Xz:Ty:=(.pair (.int .i64) (.pair (.int .i64) (.pair (.int .i64) (.pair (.sl (.int .u8)) (.pair (.sl .str) (.pair Xk .unit))))))
abbrev Xar:Type:=Int×Int×Int×(List Int)×(List (List UInt8))×Fs_×Unit
def Xrp:Xar:=(0,0,0,[],[],([],[],()),())
abbrev X7:Ty:=(.pair (.int .i64) (.pair Xh .unit))
abbrev Xu:Type:=Int×Xd×Unit
def Xrs:Xu:=(0,([],[],()),())
abbrev Xbt:Ty:=(.pair (.int .i64) (.pair Xk .unit))
abbrev Xbf:Type:=Int×Fs_×Unit
def Xs0:Xbf:=(0,([],[],()),())
abbrev Xhq:Ty:=(.pair (.int .i64) (.pair (.int .i64) .unit))
abbrev Xmp:Type:=Int×Int×Unit
def Xr2:Xmp:=(0,0,())
abbrev Xdx:Ty:=(.pair (.int .i64) (.pair (.sl X6) .unit))
abbrev Xjr:Type:=Int×(List Xr)×Unit
def Xrl:Xjr:=(0,[],())
abbrev Xt:Ty:=(.pair (.int .i64) (.pair Xz (.pair Xp .unit)))
abbrev Xaa:Type:=Int×Xar×X0×Unit
def Xrm:Xaa:=(0,(0,0,0,[],[],([],[],()),()),(([],[],()),([],[],()),([],[],()),()),())
abbrev Xif:Ty:=(.pair (.int .i64) (.pair (.int .i64) (.pair .bool (.pair (.int .u8) .unit))))
abbrev Xn9:Type:=Int×Int×Bool×Int×Unit
def Xrn:Xn9:=(0,0,false,0,())
abbrev Xb0:Ty:=(.pair .str (.pair (.int .u64) .unit))
abbrev Xh9:Type:=(List UInt8)×Int×Unit
def Xok:Xh9:=([],0,())
abbrev PR:Program:=Go.Proofs.Tryz.prog
def tb:Tb:=[(2,⟨.int .i64,(.int .i64),8⟩),(3,⟨.int .i64,(.int .i64),8⟩),(4,⟨.bool,.bool,1⟩),(5,⟨.int .u8,(.int .u8),1⟩),(6,⟨.int .u8,(.int .u8),1⟩),(7,⟨.st [0,1,2,3],Xif,24⟩),(8,⟨.st [0,1,2,3],Xif,24⟩),(9,⟨.str,.str,16⟩),(10,⟨.str,.str,16⟩),(11,⟨.str,.str,16⟩),(12,⟨.int .u64,(.int .u64),8⟩),(13,⟨.st [0,1],Xb0,24⟩),(14,⟨.st [0,1],Xb0,24⟩),(21,⟨.int .i32,(.int .i32),4⟩),(22,⟨.sl 97,(.sl (.sl (.int .i64))),24⟩),(23,⟨.sl 141,(.sl Xm),24⟩),(24,⟨.st [0,1],Xh,48⟩),(25,⟨.st [0,1],Xh,48⟩),(26,⟨.sl 145,(.sl Xc),24⟩),(27,⟨.sl 33,(.sl (.sl (.int .u8))),24⟩),(28,⟨.st [0,1],Xk,48⟩),(29,⟨.st [0,1],Xk,48⟩),(30,⟨.st [0,2,4],Xp,144⟩),(31,⟨.st [0,2,4],Xp,144⟩),(33,⟨.sl 5,(.sl (.int .u8)),24⟩),(34,⟨.sl 9,(.sl .str),24⟩),(35,⟨.sl 100,(.sl Xc),24⟩),(36,⟨.st [0,1],Xk,48⟩),(37,⟨.st [0,1],Xk,48⟩),(38,⟨.st [0,1,2,3,4,5],Xz,120⟩),(39,⟨.st [0,1,2,3,4,5],Xz,120⟩),(40,⟨.sl 121,(.sl Xm),24⟩),(41,⟨.st [0,1],Xh,48⟩),(42,⟨.st [0,1],Xh,48⟩),(43,⟨.st [0,2,4],Xp,144⟩),(44,⟨.st [0,2,4],Xp,144⟩),(45,⟨.st [0,1,8],Xt,272⟩),(46,⟨.st [0,1,8],Xt,272⟩),(58,⟨.sl 118,(.sl X6),24⟩),(59,⟨.st [0,1],Xdx,32⟩),(60,⟨.st [0,1],Xdx,32⟩),(62,⟨.st [0,1],X7,56⟩),(63,⟨.st [0,1],X7,56⟩),(84,⟨.st [0,1],Xhq,16⟩),(85,⟨.st [0,1],Xhq,16⟩),(89,⟨.st [0,1],Xbt,56⟩),(90,⟨.st [0,1],Xbt,56⟩),(97,⟨.sl 2,(.sl (.int .i64)),24⟩),(98,⟨.sl 129,(.sl Xi),24⟩),(99,⟨.st [0,1,2,3,4],Xc,72⟩),(100,⟨.st [0,1,2,3,4],Xc,72⟩),(117,⟨.st [0,1,2],X6,40⟩),(118,⟨.st [0,1,2],X6,40⟩),(120,⟨.st [0,1],Xm,32⟩),(121,⟨.st [0,1],Xm,32⟩),(128,⟨.st [0,1],Xi,24⟩),(129,⟨.st [0,1],Xi,0⟩),(141,⟨.st [0,1],Xm,32⟩),(143,⟨.sl 209,(.sl Xi),24⟩),(144,⟨.st [0,1,2,3,4],Xc,72⟩),(145,⟨.st [0,1,2,3,4],Xc,72⟩),(169,⟨.arr 20 2,(.arr 20 (.int .i64)),160⟩),(180,⟨.sl 58,(.sl (.sl X6)),24⟩),(190,⟨.sl 4,(.sl .bool),24⟩),(206,⟨.int .u64,(.int .u64),8⟩),(209,⟨.st [0,1],Xi,24⟩),(214,⟨.int .i64,(.int .i64),8⟩),(223,⟨.int .u32,(.int .u32),4⟩),(225,⟨.int .u64,(.int .u64),8⟩),(229,⟨.int .u64,(.int .u64),8⟩),(245,⟨.int .u8,(.int .u8),1⟩),(246,⟨.int .u8,(.int .u8),1⟩),(249,⟨.int .i32,(.int .i32),4⟩),(250,⟨.int .i32,(.int .i32),4⟩)]
theorem Xe:Yag Go.Proofs.Tryz.prog tb:=Yv2 (by kernel_rfl)
theorem Xf:Go.Proofs.Tryz.prog.follows .mixedOrders=true:=by kernel_rfl
def Zq0 (a:List Int) (left:Int):Option Int:=
 cond (decide ((w64 (left-(a.length:Int)))<0)) (some (-1)) (some (w64 (left-(a.length:Int))))
namespace Zq0
def pts:List PT:=[.cs SI,.cs I64]
def FS:FS:=Ycc [.sh,.sh] pts (fun x=>Zq0 x.1 x.2.1) fun t=>⟨[.cs I64 t],[]⟩
theorem ok:Ycs PR 89 FS:=
 Ywh Xe Xf Proofs.Tryz.f89 h0 .no (G:=(mkG [])) .nil (L:=mkL []) (l:=[]) hT
  (fun x=>by simp only[Zq0,mC,mB,mS,mO,mN];kernel_rfl)
end Zq0
def Zq1.B (a:List (List Int)) (left_:Int) (i_:Int):Option ((Int×Int)⊕((Int⊕Int))):=
 cond (decide (i_<(a.length:Int))) (cond (inB i_ a.length) ((Zq0 (a.getD i_.toNat []) left_).bind fun r=>cond (decide (r<0)) (some (.inr (.inl (-1)))) (some (.inl (r,w64 (i_+1))))) none) (some (.inr (.inr left_)))
def Zq1 (a:List (List Int)):(Int×Int)→Option ((Int⊕Int)):=
 Yaj fun s=>Zq1.B a s.1 s.2
def Zq2 (a:List (List Int)) (left:Int):Option Int:=
 cond (decide ((w64 (left-(a.length:Int)))<0)) (some (-1)) ((Zq1 a (w64 (left-(a.length:Int)),0)).bind fun o=>sel o (fun b=>some b) (fun c=>some c))
namespace Zq2
def G:Gam:=mkG [(89,Zq0.FS)]
theorem Gok:GOk PR G:=.cons Zq0.ok .nil
end Zq2
namespace Zq1
def c:=Yao (Yai Proofs.Tryz.f35) [1,1,1,0,1,0,0]
def sp:SP:=⟨[(0,.cs (.sl SI)),(1,.cs I64),(5,.cs I64)],[]⟩
def fr:=Yh3 sp (fun x s=>Zq1.B x.1.1 s.1 s.2) (fun x=>(x.1.2.1,x.1.2.2.1)) fun x (oo0:(Int⊕Int)) _ kk0=>sel oo0 (fun bb0=>kk0 (.rt) ⟨[(4,.cs I64 bb0)],[]⟩) (fun cc0=>kk0 (.ex 0) ⟨[(1,.cs I64 cc0)],[]⟩)
theorem ok:Ya9 PR 27 2 (.loop c) fr:=
 Yst Xe Xf h0 .no (G:=Zq2.G) Zq2.Gok (L:=mkL []) (l:=[]) hT [(0,([1],[]))] ([4],[]) (fun x s=>((x.1.1,s.1,s.2,x.1.2.2.2),x.2))
  (fun x s=>by simp only[B,mC,mB,mS,mO,mN];kernel_rfl)
end Zq1
namespace Zq2
def pts:List PT:=[.cs (.sl SI),.cs I64]
def FS:FS:=Ycc [.sh,.sh] pts (fun x=>Zq2 x.1 x.2.1) fun t=>⟨[.cs I64 t],[]⟩
theorem ok:Ycs PR 35 FS:=
 Ywh Xe Xf Proofs.Tryz.f35 h0 (.R (.R (.R (.L (.R (.one (.fr 0))))))) (G:=G) Gok (L:=mkL [(0,Zq1.fr)]) (l:=[(0,.loop Zq1.c)]) ⟨Lam.cons Zq1.ok,trivial⟩
  (fun x=>by simp only[Zq2,mC,mB,mS,mO,mN];kernel_rfl)
end Zq2
def Zq3 (a:Xj) (left:Int):Option Int:=
 (Zq0 a.2.1 left).bind fun r=>cond (decide (r<0)) (some (-1)) (some r)
namespace Zq3
def G:Gam:=mkG [(89,Zq0.FS)]
def pts:List PT:=[.cs Xm,.cs I64]
def FS:FS:=Ycc [.sh,.sh] pts (fun x=>Zq3 x.1 x.2.1) fun t=>⟨[.cs I64 t],[]⟩
theorem ok:Ycs PR 90 FS:=
 Ywh Xe Xf Proofs.Tryz.f90 ⟨[2],[],[],0⟩ .no (G:=G) (show GOk PR G from .cons Zq0.ok .nil) (L:=mkL []) (l:=[]) hT
  (fun x=>by simp only[Zq3,mC,mB,mS,mO,mN];kernel_rfl)
end Zq3
def Zq4.B (a:List Xj) (left_:Int) (i_:Int):Option ((Int×Int)⊕((Int⊕Int))):=
 cond (decide (i_<(a.length:Int))) (cond (inB i_ a.length) ((Zq3 (a.getD i_.toNat Xv) left_).bind fun r=>cond (decide (r<0)) (some (.inr (.inl (-1)))) (some (.inl (r,w64 (i_+1))))) none) (some (.inr (.inr left_)))
def Zq4 (a:List Xj):(Int×Int)→Option ((Int⊕Int)):=
 Yaj fun s=>Zq4.B a s.1 s.2
def Zq5 (a:List Xj) (left:Int):Option Int:=
 cond (decide ((w64 (left-(a.length:Int)))<0)) (some (-1)) ((Zq4 a (w64 (left-(a.length:Int)),0)).bind fun o=>sel o (fun b=>some b) (fun c=>some c))
namespace Zq5
def G:Gam:=mkG [(90,Zq3.FS)]
theorem Gok:GOk PR G:=.cons Zq3.ok .nil
end Zq5
namespace Zq4
def c:=Yao (Yai Proofs.Tryz.f36) [1,1,1,0,1,0,0]
def sp:SP:=⟨[(0,.cs (.sl Xm)),(1,.cs I64),(5,.cs I64)],[]⟩
def fr:=Yh3 sp (fun x s=>Zq4.B x.1.1 s.1 s.2) (fun x=>(x.1.2.1,x.1.2.2.1)) fun x (oo0:(Int⊕Int)) _ kk0=>sel oo0 (fun bb0=>kk0 (.rt) ⟨[(4,.cs I64 bb0)],[]⟩) (fun cc0=>kk0 (.ex 0) ⟨[(1,.cs I64 cc0)],[]⟩)
theorem ok:Ya9 PR 27 2 (.loop c) fr:=
 Yst Xe Xf h0 .no (G:=Zq5.G) Zq5.Gok (L:=mkL []) (l:=[]) hT [(0,([1],[]))] ([4],[]) (fun x s=>((x.1.1,s.1,s.2,x.1.2.2.2),x.2))
  (fun x s=>by simp only[B,mC,mB,mS,mO,mN];kernel_rfl)
end Zq4
namespace Zq5
def pts:List PT:=[.cs (.sl Xm),.cs I64]
def FS:FS:=Ycc [.sh,.sh] pts (fun x=>Zq5 x.1 x.2.1) fun t=>⟨[.cs I64 t],[]⟩
theorem ok:Ycs PR 36 FS:=
 Ywh Xe Xf Proofs.Tryz.f36 h0 (.R (.R (.R (.L (.R (.one (.fr 0))))))) (G:=G) Gok (L:=mkL [(0,Zq4.fr)]) (l:=[(0,.loop Zq4.c)]) ⟨Lam.cons Zq4.ok,trivial⟩
  (fun x=>by simp only[Zq5,mC,mB,mS,mO,mN];kernel_rfl)
end Zq5
def Zq6 (a:Xd) (left:Int):Option Int:=
 (Zq2 a.1 left).bind fun r=>cond (decide (r<0)) (some (-1)) ((Zq5 a.2.1 r).bind fun r2=>cond (decide (r2<0)) (some (-1)) (some r2))
namespace Zq6
def G:Gam:=mkG [(35,Zq2.FS),(36,Zq5.FS)]
def pts:List PT:=[.cs Xh,.cs I64]
def FS:FS:=Ycc [.sh,.sh] pts (fun x=>Zq6 x.1 x.2.1) fun t=>⟨[.cs I64 t],[]⟩
theorem ok:Ycs PR 13 FS:=
 Ywh Xe Xf Proofs.Tryz.f13 ⟨[2],[],[],0⟩ .no (G:=G) (show GOk PR G from .cons Zq2.ok (.cons Zq5.ok .nil)) (L:=mkL []) (l:=[]) hT
  (fun x=>by simp only[Zq6,mC,mB,mS,mO,mN];kernel_rfl)
end Zq6
def Zq7 (a:Xg) (left:Int):Option Int:=
 cond (decide ((w64 (left-(a.1.length:Int)))<0)) (some (-1)) (some (w64 (left-(a.1.length:Int))))
namespace Zq7
def pts:List PT:=[.cs Xi,.cs I64]
def FS:FS:=Ycc [.sh,.sh] pts (fun x=>Zq7 x.1 x.2.1) fun t=>⟨[.cs I64 t],[]⟩
theorem ok:Ycs PR 184 FS:=
 Ywh Xe Xf Proofs.Tryz.f184 ⟨[2],[],[],0⟩ .no (G:=(mkG [])) .nil (L:=mkL []) (l:=[]) hT
  (fun x=>by simp only[Zq7,mC,mB,mS,mO,mN];kernel_rfl)
end Zq7
def Zq8.B (a:List Xg) (left_:Int) (i_:Int):Option ((Int×Int)⊕((Int⊕Int))):=
 cond (decide (i_<(a.length:Int))) (cond (inB i_ a.length) ((Zq7 (a.getD i_.toNat Xl) left_).bind fun r=>cond (decide (r<0)) (some (.inr (.inl (-1)))) (some (.inl (r,w64 (i_+1))))) none) (some (.inr (.inr left_)))
def Zq8 (a:List Xg):(Int×Int)→Option ((Int⊕Int)):=
 Yaj fun s=>Zq8.B a s.1 s.2
def Zq9 (a:List Xg) (left:Int):Option Int:=
 cond (decide ((w64 (left-(a.length:Int)))<0)) (some (-1)) ((Zq8 a (w64 (left-(a.length:Int)),0)).bind fun o=>sel o (fun b=>some b) (fun c=>some c))
namespace Zq9
def G:Gam:=mkG [(184,Zq7.FS)]
theorem Gok:GOk PR G:=.cons Zq7.ok .nil
end Zq9
namespace Zq8
def c:=Yao (Yai Proofs.Tryz.f151) [1,1,1,0,1,0,0]
def sp:SP:=⟨[(0,.cs (.sl Xi)),(1,.cs I64),(5,.cs I64)],[]⟩
def fr:=Yh3 sp (fun x s=>Zq8.B x.1.1 s.1 s.2) (fun x=>(x.1.2.1,x.1.2.2.1)) fun x (oo0:(Int⊕Int)) _ kk0=>sel oo0 (fun bb0=>kk0 (.rt) ⟨[(4,.cs I64 bb0)],[]⟩) (fun cc0=>kk0 (.ex 0) ⟨[(1,.cs I64 cc0)],[]⟩)
theorem ok:Ya9 PR 27 2 (.loop c) fr:=
 Yst Xe Xf h0 .no (G:=Zq9.G) Zq9.Gok (L:=mkL []) (l:=[]) hT [(0,([1],[]))] ([4],[]) (fun x s=>((x.1.1,s.1,s.2,x.1.2.2.2),x.2))
  (fun x s=>by simp only[B,mC,mB,mS,mO,mN];kernel_rfl)
end Zq8
namespace Zq9
def pts:List PT:=[.cs (.sl Xi),.cs I64]
def FS:FS:=Ycc [.sh,.sh] pts (fun x=>Zq9 x.1 x.2.1) fun t=>⟨[.cs I64 t],[]⟩
theorem ok:Ycs PR 151 FS:=
 Ywh Xe Xf Proofs.Tryz.f151 h0 (.R (.R (.R (.L (.R (.one (.fr 0))))))) (G:=G) Gok (L:=mkL [(0,Zq8.fr)]) (l:=[(0,.loop Zq8.c)]) ⟨Lam.cons Zq8.ok,trivial⟩
  (fun x=>by simp only[Zq9,mC,mB,mS,mO,mN];kernel_rfl)
end Zq9
def Xoa (a:Xa) (left:Int):Option Int:=
 (Zq0 a.2.2.2.1 left).bind fun r=>cond (decide (r<0)) (some (-1)) ((Zq9 a.2.2.2.2.1 r).bind fun r2=>cond (decide (r2<0)) (some (-1)) (some r2))
namespace Xoa
def G:Gam:=mkG [(89,Zq0.FS),(151,Zq9.FS)]
def pts:List PT:=[.cs Xc,.cs I64]
def FS:FS:=Ycc [.sh,.sh] pts (fun x=>Xoa x.1 x.2.1) fun t=>⟨[.cs I64 t],[]⟩
theorem ok:Ycs PR 91 FS:=
 Ywh Xe Xf Proofs.Tryz.f91 ⟨[2],[],[],0⟩ .no (G:=G) (show GOk PR G from .cons Zq0.ok (.cons Zq9.ok .nil)) (L:=mkL []) (l:=[]) hT
  (fun x=>by simp only[Xoa,mC,mB,mS,mO,mN];kernel_rfl)
end Xoa
def Xk9.B (a:List Xa) (left_:Int) (i_:Int):Option ((Int×Int)⊕((Int⊕Int))):=
 cond (decide (i_<(a.length:Int))) (cond (inB i_ a.length) ((Xoa (a.getD i_.toNat Xb) left_).bind fun r=>cond (decide (r<0)) (some (.inr (.inl (-1)))) (some (.inl (r,w64 (i_+1))))) none) (some (.inr (.inr left_)))
def Xk9 (a:List Xa):(Int×Int)→Option ((Int⊕Int)):=
 Yaj fun s=>Xk9.B a s.1 s.2
def Xke (a:List Xa) (left:Int):Option Int:=
 cond (decide ((w64 (left-(a.length:Int)))<0)) (some (-1)) ((Xk9 a (w64 (left-(a.length:Int)),0)).bind fun o=>sel o (fun b=>some b) (fun c=>some c))
namespace Xke
def G:Gam:=mkG [(91,Xoa.FS)]
theorem Gok:GOk PR G:=.cons Xoa.ok .nil
end Xke
namespace Xk9
def c:=Yao (Yai Proofs.Tryz.f37) [1,1,1,0,1,0,0]
def sp:SP:=⟨[(0,.cs (.sl Xc)),(1,.cs I64),(5,.cs I64)],[]⟩
def fr:=Yh3 sp (fun x s=>Xk9.B x.1.1 s.1 s.2) (fun x=>(x.1.2.1,x.1.2.2.1)) fun x (oo0:(Int⊕Int)) _ kk0=>sel oo0 (fun bb0=>kk0 (.rt) ⟨[(4,.cs I64 bb0)],[]⟩) (fun cc0=>kk0 (.ex 0) ⟨[(1,.cs I64 cc0)],[]⟩)
theorem ok:Ya9 PR 27 2 (.loop c) fr:=
 Yst Xe Xf h0 .no (G:=Xke.G) Xke.Gok (L:=mkL []) (l:=[]) hT [(0,([1],[]))] ([4],[]) (fun x s=>((x.1.1,s.1,s.2,x.1.2.2.2),x.2))
  (fun x s=>by simp only[B,mC,mB,mS,mO,mN];kernel_rfl)
end Xk9
namespace Xke
def pts:List PT:=[.cs (.sl Xc),.cs I64]
def FS:FS:=Ycc [.sh,.sh] pts (fun x=>Xke x.1 x.2.1) fun t=>⟨[.cs I64 t],[]⟩
theorem ok:Ycs PR 37 FS:=
 Ywh Xe Xf Proofs.Tryz.f37 h0 (.R (.R (.R (.L (.R (.one (.fr 0))))))) (G:=G) Gok (L:=mkL [(0,Xk9.fr)]) (l:=[(0,.loop Xk9.c)]) ⟨Lam.cons Xk9.ok,trivial⟩
  (fun x=>by simp only[Xke,mC,mB,mS,mO,mN];kernel_rfl)
end Xke
def Xod (a:List Int) (left:Int):Option Int:=
 cond (decide ((w64 (left-(a.length:Int)))<0)) (some (-1)) (some (w64 (left-(a.length:Int))))
namespace Xod
def pts:List PT:=[.cs SB,.cs I64]
def FS:FS:=Ycc [.sh,.sh] pts (fun x=>Xod x.1 x.2.1) fun t=>⟨[.cs I64 t],[]⟩
theorem ok:Ycs PR 92 FS:=
 Ywh Xe Xf Proofs.Tryz.f92 h0 .no (G:=(mkG [])) .nil (L:=mkL []) (l:=[]) hT
  (fun x=>by simp only[Xod,mC,mB,mS,mO,mN];kernel_rfl)
end Xod
def Xkq.B (a:List (List Int)) (left_:Int) (i_:Int):Option ((Int×Int)⊕((Int⊕Int))):=
 cond (decide (i_<(a.length:Int))) (cond (inB i_ a.length) ((Xod (a.getD i_.toNat []) left_).bind fun r=>cond (decide (r<0)) (some (.inr (.inl (-1)))) (some (.inl (r,w64 (i_+1))))) none) (some (.inr (.inr left_)))
def Xkq (a:List (List Int)):(Int×Int)→Option ((Int⊕Int)):=
 Yaj fun s=>Xkq.B a s.1 s.2
def Xkt (a:List (List Int)) (left:Int):Option Int:=
 cond (decide ((w64 (left-(a.length:Int)))<0)) (some (-1)) ((Xkq a (w64 (left-(a.length:Int)),0)).bind fun o=>sel o (fun b=>some b) (fun c=>some c))
namespace Xkt
def G:Gam:=mkG [(92,Xod.FS)]
theorem Gok:GOk PR G:=.cons Xod.ok .nil
end Xkt
namespace Xkq
def c:=Yao (Yai Proofs.Tryz.f38) [1,1,1,0,1,0,0]
def sp:SP:=⟨[(0,.cs (.sl SB)),(1,.cs I64),(5,.cs I64)],[]⟩
def fr:=Yh3 sp (fun x s=>Xkq.B x.1.1 s.1 s.2) (fun x=>(x.1.2.1,x.1.2.2.1)) fun x (oo0:(Int⊕Int)) _ kk0=>sel oo0 (fun bb0=>kk0 (.rt) ⟨[(4,.cs I64 bb0)],[]⟩) (fun cc0=>kk0 (.ex 0) ⟨[(1,.cs I64 cc0)],[]⟩)
theorem ok:Ya9 PR 27 2 (.loop c) fr:=
 Yst Xe Xf h0 .no (G:=Xkt.G) Xkt.Gok (L:=mkL []) (l:=[]) hT [(0,([1],[]))] ([4],[]) (fun x s=>((x.1.1,s.1,s.2,x.1.2.2.2),x.2))
  (fun x s=>by simp only[B,mC,mB,mS,mO,mN];kernel_rfl)
end Xkq
namespace Xkt
def pts:List PT:=[.cs (.sl SB),.cs I64]
def FS:FS:=Ycc [.sh,.sh] pts (fun x=>Xkt x.1 x.2.1) fun t=>⟨[.cs I64 t],[]⟩
theorem ok:Ycs PR 38 FS:=
 Ywh Xe Xf Proofs.Tryz.f38 h0 (.R (.R (.R (.L (.R (.one (.fr 0))))))) (G:=G) Gok (L:=mkL [(0,Xkq.fr)]) (l:=[(0,.loop Xkq.c)]) ⟨Lam.cons Xkq.ok,trivial⟩
  (fun x=>by simp only[Xkt,mC,mB,mS,mO,mN];kernel_rfl)
end Xkt
def Xm8 (a:Fs_) (left:Int):Option Int:=
 (Xke a.1 left).bind fun r=>cond (decide (r<0)) (some (-1)) ((Xkt a.2.1 r).bind fun r2=>cond (decide (r2<0)) (some (-1)) (some r2))
namespace Xm8
def G:Gam:=mkG [(37,Xke.FS),(38,Xkt.FS)]
def pts:List PT:=[.cs Xk,.cs I64]
def FS:FS:=Ycc [.sh,.sh] pts (fun x=>Xm8 x.1 x.2.1) fun t=>⟨[.cs I64 t],[]⟩
theorem ok:Ycs PR 14 FS:=
 Ywh Xe Xf Proofs.Tryz.f14 ⟨[2],[],[],0⟩ .no (G:=G) (show GOk PR G from .cons Xke.ok (.cons Xkt.ok .nil)) (L:=mkL []) (l:=[]) hT
  (fun x=>by simp only[Xm8,mC,mB,mS,mO,mN];kernel_rfl)
end Xm8
def Xob (a:X0) (left:Int):Option Int:=
 (Zq6 a.1 left).bind fun r=>cond (decide (r<0)) (some (-1)) ((Xm8 a.2.1 r).bind fun r2=>cond (decide (r2<0)) (some (-1)) ((Xm8 a.2.2.1 r2).bind fun r3=>cond (decide (r3<0)) (some (-1)) (some r3)))
namespace Xob
def G:Gam:=mkG [(13,Zq6.FS),(14,Xm8.FS)]
def pts:List PT:=[.cs Xp,.cs I64]
def FS:FS:=Ycc [.sh,.sh] pts (fun x=>Xob x.1 x.2.1) fun t=>⟨[.cs I64 t],[]⟩
theorem ok:Ycs PR 4 FS:=
 Ywh Xe Xf Proofs.Tryz.f4 ⟨[2],[],[],0⟩ .no (G:=G) (show GOk PR G from .cons Zq6.ok (.cons Xm8.ok .nil)) (L:=mkL []) (l:=[]) hT
  (fun x=>by simp only[Xob,mC,mB,mS,mO,mN];kernel_rfl)
end Xob
def Xko.B (a:List Int) (i_:Int) (out_:List Int):Option ((Int×List Int)⊕(List Int)):=
 cond (decide (i_<(a.length:Int))) (cond (inB i_ a.length) (cond (inB i_ out_.length) (some (.inl (w64 (i_+1),out_.set i_.toNat (a.getD i_.toNat 0)))) none) none) (some (.inr out_))
def Xko (a:List Int):(Int×List Int)→Option (List Int):=
 Yaj fun s=>Xko.B a s.1 s.2
def Xi0 (a:List Int):Option (List Int):=
 cond (decide ((0:Int)≤(a.length:Int))&&(decide ((a.length:Int)≤(a.length:Int))&&decide ((a.length:Int)≤2147483648))) ((Xko a (0,List.replicate (a.length:Int).toNat 0)).bind fun o=>some o) none
namespace Xko
def c:=Yao (Yai Proofs.Tryz.f114) [1,1,0,1,0,0]
def sp:SP:=⟨[(0,.cs SI),(3,.seg 3 []),(4,.cs I64)],[(3,.reg,.cd SI)]⟩
def fr:=Yh3 sp (fun x s=>Xko.B x.1.1 s.1 s.2) (fun x=>(x.1.2.2.1,x.2.1)) fun x (bb0:List Int) _ kk0=>kk0 (.ex 0) ⟨[(3,.seg 3 [])],[sr 3 (.cd SI bb0)]⟩
theorem ok:Ya9 PR 22 1 (.loop c) fr:=
 Yv8 Xe Xf h0 [(0,([3],[3]))] (fun x s=>((x.1.1,x.1.2.1,s.1,x.1.2.2.2),(s.2,x.2.2)))
  (fun x s=>by simp only[B,mC,mB,mS,mO,mN];kernel_rfl)
end Xko
namespace Xi0
def pts:List PT:=[.cs SI]
def FS:FS:=Ycc [.sh] pts (fun x=>Xi0 x.1) fun t=>⟨[.cd SI t],[]⟩
theorem ok:Ycs PR 114 FS:=
 Ywh Xe Xf Proofs.Tryz.f114 h0 (.R (.R (.L (.R (.one (.fr 0)))))) (G:=(mkG [])) .nil (L:=mkL [(0,Xko.fr)]) (l:=[(0,.loop Xko.c)]) ⟨Lam.cons Xko.ok,trivial⟩
  (fun x=>by simp only[Xi0,mC,mB,mS,mO,mN];kernel_rfl)
end Xi0
def Xkd.B (a:List (List Int)) (i_:Int) (out_:List (List Int)):Option ((Int×List (List Int))⊕(List (List Int))):=
 cond (decide (i_<(a.length:Int))) (cond (inB i_ a.length) ((Xi0 (a.getD i_.toNat [])).bind fun r=>cond (inB i_ out_.length) (some (.inl (w64 (i_+1),out_.set i_.toNat r))) none) none) (some (.inr out_))
def Xkd (a:List (List Int)):(Int×List (List Int))→Option (List (List Int)):=
 Yaj fun s=>Xkd.B a s.1 s.2
def Xkc (a:List (List Int)):Option (List (List Int)):=
 cond (decide ((0:Int)≤(a.length:Int))&&(decide ((a.length:Int)≤(a.length:Int))&&decide ((a.length:Int)≤2147483648))) ((some (List.replicate (a.length:Int).toNat ([]:List Int))).bind fun v=>(Xkd a (0,v)).bind fun o=>some o) none
namespace Xkc
def G:Gam:=mkG [(114,Xi0.FS)]
theorem Gok:GOk PR G:=.cons Xi0.ok .nil
end Xkc
namespace Xkd
def c:=Yao (Yai Proofs.Tryz.f49) [1,1,0,1,0,0]
def sp:SP:=⟨[(0,.cs (.sl SI)),(3,.seg 3 []),(4,.cs I64)],[(3,.reg,.cd (.sl SI))]⟩
def fr:=Yh3 sp (fun x s=>Xkd.B x.1.1 s.1 s.2) (fun x=>(x.1.2.2.1,x.2.1)) fun x (bb0:List (List Int)) _ kk0=>kk0 (.ex 0) ⟨[(3,.seg 3 [])],[sr 3 (.cd (.sl SI) bb0)]⟩
theorem ok:Ya9 PR 23 1 (.loop c) fr:=
 Ywi Xe Xf h0 (G:=Xkc.G) Xkc.Gok [(0,([3],[3]))] (fun x s=>((x.1.1,x.1.2.1,s.1,x.1.2.2.2),(s.2,x.2.2)))
  (fun x s=>by simp only[B,mC,mB,mS,mO,mN];kernel_rfl)
end Xkd
namespace Xkc
def pts:List PT:=[.cs (.sl SI)]
def FS:FS:=Ycc [.sh] pts (fun x=>Xkc x.1) fun t=>⟨[.cd (.sl SI) t],[]⟩
theorem ok:Ycs PR 49 FS:=
 Ywh Xe Xf Proofs.Tryz.f49 h0 (.R (.R (.L (.R (.one (.fr 0)))))) (G:=G) Gok (L:=mkL [(0,Xkd.fr)]) (l:=[(0,.loop Xkd.c)]) ⟨Lam.cons Xkd.ok,trivial⟩
  (fun x=>by simp only[Xkc,mC,mB,mS,mO,mN];kernel_rfl)
end Xkc
def Xn4 (a:Xj):Option Xj:=
 (Xi0 a.2.1).bind fun r=>some (a.1,r,())
namespace Xn4
def G:Gam:=mkG [(114,Xi0.FS)]
def pts:List PT:=[.cs Xm]
def FS:FS:=Ycc [.sh] pts (fun x=>Xn4 x.1) fun t=>⟨[.cd Xm t],[]⟩
theorem ok:Ycs PR 115 FS:=
 Ywh Xe Xf Proofs.Tryz.f115 ⟨[1],[],[],0⟩ .no (G:=G) (show GOk PR G from .cons Xi0.ok .nil) (L:=mkL []) (l:=[]) hT
  (fun x=>by simp only[Xn4,mC,mB,mS,mO,mN];kernel_rfl)
end Xn4
def Xk8.B (a:List Xj) (i_:Int) (out_:List Xj):Option ((Int×List Xj)⊕(List Xj)):=
 cond (decide (i_<(a.length:Int))) (cond (inB i_ a.length) ((Xn4 (a.getD i_.toNat Xv)).bind fun r=>cond (inB i_ out_.length) (some (.inl (w64 (i_+1),out_.set i_.toNat (r.1,r.2.1,r.2.2)))) none) none) (some (.inr out_))
def Xk8 (a:List Xj):(Int×List Xj)→Option (List Xj):=
 Yaj fun s=>Xk8.B a s.1 s.2
def Xkl (a:List Xj):Option (List Xj):=
 cond (decide ((0:Int)≤(a.length:Int))&&(decide ((a.length:Int)≤(a.length:Int))&&decide ((a.length:Int)≤2147483648))) ((Xk8 a (0,List.replicate (a.length:Int).toNat Xv)).bind fun o=>some o) none
namespace Xkl
def G:Gam:=mkG [(115,Xn4.FS)]
theorem Gok:GOk PR G:=.cons Xn4.ok .nil
end Xkl
namespace Xk8
def c:=Yao (Yai Proofs.Tryz.f50) [1,1,0,1,0,0]
def sp:SP:=⟨[(0,.cs (.sl Xm)),(3,.seg 3 []),(4,.cs I64)],[(3,.reg,.cd (.sl Xm))]⟩
def fr:=Yh3 sp (fun x s=>Xk8.B x.1.1 s.1 s.2) (fun x=>(x.1.2.2.1,x.2.1)) fun x (bb0:List Xj) _ kk0=>kk0 (.ex 0) ⟨[(3,.seg 3 [])],[sr 3 (.cd (.sl Xm) bb0)]⟩
theorem ok:Ya9 PR 23 1 (.loop c) fr:=
 Ywi Xe Xf h0 (G:=Xkl.G) Xkl.Gok [(0,([3],[3]))] (fun x s=>((x.1.1,x.1.2.1,s.1,x.1.2.2.2),(s.2,x.2.2)))
  (fun x s=>by simp only[B,mC,mB,mS,mO,mN];kernel_rfl)
end Xk8
namespace Xkl
def pts:List PT:=[.cs (.sl Xm)]
def FS:FS:=Ycc [.sh] pts (fun x=>Xkl x.1) fun t=>⟨[.cd (.sl Xm) t],[]⟩
theorem ok:Ycs PR 50 FS:=
 Ywh Xe Xf Proofs.Tryz.f50 h0 (.R (.R (.L (.R (.one (.fr 0)))))) (G:=G) Gok (L:=mkL [(0,Xk8.fr)]) (l:=[(0,.loop Xk8.c)]) ⟨Lam.cons Xk8.ok,trivial⟩
  (fun x=>by simp only[Xkl,mC,mB,mS,mO,mN];kernel_rfl)
end Xkl
def Xoc (a:Xd):Option Xd:=
 (Xkc a.1).bind fun r=>(Xkl a.2.1).bind fun r2=>some (r,r2,())
namespace Xoc
def G:Gam:=mkG [(49,Xkc.FS),(50,Xkl.FS)]
def pts:List PT:=[.cs Xh]
def FS:FS:=Ycc [.sh] pts (fun x=>Xoc x.1) fun t=>⟨[.cd Xh t],[]⟩
theorem ok:Ycs PR 20 FS:=
 Ywh Xe Xf Proofs.Tryz.f20 ⟨[1],[],[],0⟩ .no (G:=G) (show GOk PR G from .cons Xkc.ok (.cons Xkl.ok .nil)) (L:=mkL []) (l:=[]) hT
  (fun x=>by simp only[Xoc,mC,mB,mS,mO,mN];kernel_rfl)
end Xoc
def Xn0 (a:Xg):Option Xg:=
 some (a.1,a.2.1,())
namespace Xn0
def pts:List PT:=[.cs Xi]
def FS:FS:=Ycc [.sh] pts (fun x=>Xn0 x.1) fun t=>⟨[.cs Xi t],[]⟩
theorem ok:Ycs PR 187 FS:=
 Ywh Xe Xf Proofs.Tryz.f187 ⟨[1],[],[],0⟩ .no (G:=(mkG [])) .nil (L:=mkL []) (l:=[]) hT
  (fun x=>by simp only[Xn0,mC,mB,mS,mO,mN];kernel_rfl)
end Xn0
def Xla.B (a:List Xg) (i_:Int) (out_:List Xg):Option ((Int×List Xg)⊕(List Xg)):=
 cond (decide (i_<(a.length:Int))) (cond (inB i_ a.length) ((Xn0 (a.getD i_.toNat Xl)).bind fun r=>cond (inB i_ out_.length) (some (.inl (w64 (i_+1),out_.set i_.toNat r))) none) none) (some (.inr out_))
def Xla (a:List Xg):(Int×List Xg)→Option (List Xg):=
 Yaj fun s=>Xla.B a s.1 s.2
def Xkv (a:List Xg):Option (List Xg):=
 cond (decide ((0:Int)≤(a.length:Int))&&(decide ((a.length:Int)≤(a.length:Int))&&decide ((a.length:Int)≤2147483648))) ((Xla a (0,List.replicate (a.length:Int).toNat Xl)).bind fun o=>some o) none
namespace Xkv
def G:Gam:=mkG [(187,Xn0.FS)]
theorem Gok:GOk PR G:=.cons Xn0.ok .nil
end Xkv
namespace Xla
def c:=Yao (Yai Proofs.Tryz.f163) [1,1,0,1,0,0]
def sp:SP:=⟨[(0,.cs (.sl Xi)),(3,.seg 3 []),(4,.cs I64)],[(3,.reg,.cd (.sl Xi))]⟩
def fr:=Yh3 sp (fun x s=>Xla.B x.1.1 s.1 s.2) (fun x=>(x.1.2.2.1,x.2.1)) fun x (bb0:List Xg) _ kk0=>kk0 (.ex 0) ⟨[(3,.seg 3 [])],[sr 3 (.cd (.sl Xi) bb0)]⟩
theorem ok:Ya9 PR 23 1 (.loop c) fr:=
 Ywi Xe Xf h0 (G:=Xkv.G) Xkv.Gok [(0,([3],[3]))] (fun x s=>((x.1.1,x.1.2.1,s.1,x.1.2.2.2),(s.2,x.2.2)))
  (fun x s=>by simp only[B,mC,mB,mS,mO,mN];kernel_rfl)
end Xla
namespace Xkv
def pts:List PT:=[.cs (.sl Xi)]
def FS:FS:=Ycc [.sh] pts (fun x=>Xkv x.1) fun t=>⟨[.cd (.sl Xi) t],[]⟩
theorem ok:Ycs PR 163 FS:=
 Ywh Xe Xf Proofs.Tryz.f163 h0 (.R (.R (.L (.R (.one (.fr 0)))))) (G:=G) Gok (L:=mkL [(0,Xla.fr)]) (l:=[(0,.loop Xla.c)]) ⟨Lam.cons Xla.ok,trivial⟩
  (fun x=>by simp only[Xkv,mC,mB,mS,mO,mN];kernel_rfl)
end Xkv
def Xny (a:Xa):Option Xa:=
 (Xi0 a.2.2.2.1).bind fun r=>(Xkv a.2.2.2.2.1).bind fun r2=>some (a.1,a.2.1,a.2.2.1,r,r2,())
namespace Xny
def G:Gam:=mkG [(114,Xi0.FS),(163,Xkv.FS)]
def pts:List PT:=[.cs Xc]
def FS:FS:=Ycc [.sh] pts (fun x=>Xny x.1) fun t=>⟨[.cd Xc t],[]⟩
theorem ok:Ycs PR 116 FS:=
 Ywh Xe Xf Proofs.Tryz.f116 ⟨[1],[],[],0⟩ .no (G:=G) (show GOk PR G from .cons Xi0.ok (.cons Xkv.ok .nil)) (L:=mkL []) (l:=[]) hT
  (fun x=>by simp only[Xny,mC,mB,mS,mO,mN];kernel_rfl)
end Xny
def Xku.B (a:List Xa) (i_:Int) (out_:List Xa):Option ((Int×List Xa)⊕(List Xa)):=
 cond (decide (i_<(a.length:Int))) (cond (inB i_ a.length) ((Xny (a.getD i_.toNat Xb)).bind fun r=>cond (inB i_ out_.length) ((some (out_.set i_.toNat (r.1,r.2.1,r.2.2.1,r.2.2.2.1,r.2.2.2.2.1,r.2.2.2.2.2))).bind fun out_2=>some (.inl (w64 (i_+1),out_2))) none) none) (some (.inr out_))
def Xku (a:List Xa):(Int×List Xa)→Option (List Xa):=
 Yaj fun s=>Xku.B a s.1 s.2
def Xlc (a:List Xa):Option (List Xa):=
 cond (decide ((0:Int)≤(a.length:Int))&&(decide ((a.length:Int)≤(a.length:Int))&&decide ((a.length:Int)≤2147483648))) ((Xku a (0,List.replicate (a.length:Int).toNat Xb)).bind fun o=>some o) none
namespace Xlc
def G:Gam:=mkG [(116,Xny.FS)]
theorem Gok:GOk PR G:=.cons Xny.ok .nil
end Xlc
namespace Xku
def c:=Yao (Yai Proofs.Tryz.f51) [1,1,0,1,0,0]
def sp:SP:=⟨[(0,.cs (.sl Xc)),(3,.seg 3 []),(4,.cs I64)],[(3,.reg,.cd (.sl Xc))]⟩
def fr:=Yh3 sp (fun x s=>Xku.B x.1.1 s.1 s.2) (fun x=>(x.1.2.2.1,x.2.1)) fun x (bb0:List Xa) _ kk0=>kk0 (.ex 0) ⟨[(3,.seg 3 [])],[sr 3 (.cd (.sl Xc) bb0)]⟩
theorem ok:Ya9 PR 23 1 (.loop c) fr:=
 Ywi Xe Xf h0 (G:=Xlc.G) Xlc.Gok [(0,([3],[3]))] (fun x s=>((x.1.1,x.1.2.1,s.1,x.1.2.2.2),(s.2,x.2.2)))
  (fun x s=>by simp only[B,mC,mB,mS,mO,mN];kernel_rfl)
end Xku
namespace Xlc
def pts:List PT:=[.cs (.sl Xc)]
def FS:FS:=Ycc [.sh] pts (fun x=>Xlc x.1) fun t=>⟨[.cd (.sl Xc) t],[]⟩
theorem ok:Ycs PR 51 FS:=
 Ywh Xe Xf Proofs.Tryz.f51 h0 (.R (.R (.L (.R (.one (.fr 0)))))) (G:=G) Gok (L:=mkL [(0,Xku.fr)]) (l:=[(0,.loop Xku.c)]) ⟨Lam.cons Xku.ok,trivial⟩
  (fun x=>by simp only[Xlc,mC,mB,mS,mO,mN];kernel_rfl)
end Xlc
def Xk2.B (a:List Int) (i_:Int) (out_:List Int):Option ((Int×List Int)⊕(List Int)):=
 cond (decide (i_<(a.length:Int))) (cond (inB i_ a.length) (cond (inB i_ out_.length) (some (.inl (w64 (i_+1),out_.set i_.toNat (a.getD i_.toNat 0)))) none) none) (some (.inr out_))
def Xk2 (a:List Int):(Int×List Int)→Option (List Int):=
 Yaj fun s=>Xk2.B a s.1 s.2
def Xnt (a:List Int):Option (List Int):=
 cond (decide ((0:Int)≤(a.length:Int))&&(decide ((a.length:Int)≤(a.length:Int))&&decide ((a.length:Int)≤2147483648))) ((Xk2 a (0,List.replicate (a.length:Int).toNat 0)).bind fun o=>some o) none
namespace Xk2
def c:=Yao (Yai Proofs.Tryz.f117) [1,1,0,1,0,0]
def sp:SP:=⟨[(0,.cs SB),(3,.seg 3 []),(4,.cs I64)],[(3,.reg,.cd SB)]⟩
def fr:=Yh3 sp (fun x s=>Xk2.B x.1.1 s.1 s.2) (fun x=>(x.1.2.2.1,x.2.1)) fun x (bb0:List Int) _ kk0=>kk0 (.ex 0) ⟨[(3,.seg 3 [])],[sr 3 (.cd SB bb0)]⟩
theorem ok:Ya9 PR 22 1 (.loop c) fr:=
 Yv8 Xe Xf h0 [(0,([3],[3]))] (fun x s=>((x.1.1,x.1.2.1,s.1,x.1.2.2.2),(s.2,x.2.2)))
  (fun x s=>by simp only[B,mC,mB,mS,mO,mN];kernel_rfl)
end Xk2
namespace Xnt
def pts:List PT:=[.cs SB]
def FS:FS:=Ycc [.sh] pts (fun x=>Xnt x.1) fun t=>⟨[.cd SB t],[]⟩
theorem ok:Ycs PR 117 FS:=
 Ywh Xe Xf Proofs.Tryz.f117 h0 (.R (.R (.L (.R (.one (.fr 0)))))) (G:=(mkG [])) .nil (L:=mkL [(0,Xk2.fr)]) (l:=[(0,.loop Xk2.c)]) ⟨Lam.cons Xk2.ok,trivial⟩
  (fun x=>by simp only[Xnt,mC,mB,mS,mO,mN];kernel_rfl)
end Xnt
def Xkk.B (a:List (List Int)) (i_:Int) (out_:List (List Int)):Option ((Int×List (List Int))⊕(List (List Int))):=
 cond (decide (i_<(a.length:Int))) (cond (inB i_ a.length) ((Xnt (a.getD i_.toNat [])).bind fun r=>cond (inB i_ out_.length) (some (.inl (w64 (i_+1),out_.set i_.toNat r))) none) none) (some (.inr out_))
def Xkk (a:List (List Int)):(Int×List (List Int))→Option (List (List Int)):=
 Yaj fun s=>Xkk.B a s.1 s.2
def Xk4 (a:List (List Int)):Option (List (List Int)):=
 cond (decide ((0:Int)≤(a.length:Int))&&(decide ((a.length:Int)≤(a.length:Int))&&decide ((a.length:Int)≤2147483648))) ((some (List.replicate (a.length:Int).toNat ([]:List Int))).bind fun v=>(Xkk a (0,v)).bind fun o=>some o) none
namespace Xk4
def G:Gam:=mkG [(117,Xnt.FS)]
theorem Gok:GOk PR G:=.cons Xnt.ok .nil
end Xk4
namespace Xkk
def c:=Yao (Yai Proofs.Tryz.f52) [1,1,0,1,0,0]
def sp:SP:=⟨[(0,.cs (.sl SB)),(3,.seg 3 []),(4,.cs I64)],[(3,.reg,.cd (.sl SB))]⟩
def fr:=Yh3 sp (fun x s=>Xkk.B x.1.1 s.1 s.2) (fun x=>(x.1.2.2.1,x.2.1)) fun x (bb0:List (List Int)) _ kk0=>kk0 (.ex 0) ⟨[(3,.seg 3 [])],[sr 3 (.cd (.sl SB) bb0)]⟩
theorem ok:Ya9 PR 23 1 (.loop c) fr:=
 Ywi Xe Xf h0 (G:=Xk4.G) Xk4.Gok [(0,([3],[3]))] (fun x s=>((x.1.1,x.1.2.1,s.1,x.1.2.2.2),(s.2,x.2.2)))
  (fun x s=>by simp only[B,mC,mB,mS,mO,mN];kernel_rfl)
end Xkk
namespace Xk4
def pts:List PT:=[.cs (.sl SB)]
def FS:FS:=Ycc [.sh] pts (fun x=>Xk4 x.1) fun t=>⟨[.cd (.sl SB) t],[]⟩
theorem ok:Ycs PR 52 FS:=
 Ywh Xe Xf Proofs.Tryz.f52 h0 (.R (.R (.L (.R (.one (.fr 0)))))) (G:=G) Gok (L:=mkL [(0,Xkk.fr)]) (l:=[(0,.loop Xkk.c)]) ⟨Lam.cons Xkk.ok,trivial⟩
  (fun x=>by simp only[Xk4,mC,mB,mS,mO,mN];kernel_rfl)
end Xk4
def Xnb (a:Fs_):Option Fs_:=
 (Xlc a.1).bind fun r=>(Xk4 a.2.1).bind fun r2=>some (r,r2,())
namespace Xnb
def G:Gam:=mkG [(51,Xlc.FS),(52,Xk4.FS)]
def pts:List PT:=[.cs Xk]
def FS:FS:=Ycc [.sh] pts (fun x=>Xnb x.1) fun t=>⟨[.cd Xk t],[]⟩
theorem ok:Ycs PR 21 FS:=
 Ywh Xe Xf Proofs.Tryz.f21 ⟨[1],[],[],0⟩ .no (G:=G) (show GOk PR G from .cons Xlc.ok (.cons Xk4.ok .nil)) (L:=mkL []) (l:=[]) hT
  (fun x=>by simp only[Xnb,mC,mB,mS,mO,mN];kernel_rfl)
end Xnb
def Xl2 (a:X0):Option X0:=
 (Xoc a.1).bind fun r=>(Xnb a.2.1).bind fun r2=>(Xnb a.2.2.1).bind fun r3=>some ((r.1,r.2.1,r.2.2),(r2.1,r2.2.1,r2.2.2),(r3.1,r3.2.1,r3.2.2),())
namespace Xl2
def G:Gam:=mkG [(20,Xoc.FS),(21,Xnb.FS)]
def pts:List PT:=[.cs Xp]
def FS:FS:=Ycc [.sh] pts (fun x=>Xl2 x.1) fun t=>⟨[.cd Xp t],[]⟩
theorem ok:Ycs PR 6 FS:=
 Ywh Xe Xf Proofs.Tryz.f6 ⟨[1],[],[],0⟩ .no (G:=G) (show GOk PR G from .cons Xoc.ok (.cons Xnb.ok .nil)) (L:=mkL []) (l:=[]) hT
  (fun x=>by simp only[Xl2,mC,mB,mS,mO,mN];kernel_rfl)
end Xl2
def Xa7 (v:Int) (v2:Int) (v3:Int):Option Bool:=
 some (cond (decide (v≥v2)) (decide (v≤v3)) false)
namespace Xa7
def pts:List PT:=[.cs I64,.cs I64,.cs I64]
def FS:FS:=Ycc [.sh,.sh,.sh] pts (fun x=>Xa7 x.1 x.2.1 x.2.2.1) fun t=>⟨[.cs .bool t],[]⟩
theorem ok:Ycs PR 109 FS:=
 Ywh Xe Xf Proofs.Tryz.f109 h0 .no (G:=(mkG [])) .nil (L:=mkL []) (l:=[]) hT
  (fun x=>by simp only[Xa7,mC,mB,mS,mO,mN];kernel_rfl)
end Xa7
def Xmd.B (v:List Int) (v2:Int):Option (Int⊕((Int⊕Unit))):=
 cond (decide (v2<(v.length:Int))) (cond (inB v2 v.length) ((Xa7 (v.getD v2.toNat 0) 0 65535).bind fun v3=>cond (!v3) (some (.inr (.inl 3))) (some (.inl (w64 (v2+1))))) none) (some (.inr (.inr ())))
def Xmd (v:List Int):Int→Option ((Int⊕Unit)):=
 Yaj fun s=>Xmd.B v s
def Xd8 (v:List Int):Option Int:=
 cond (decide ((v.length:Int)>64)) (some 2) ((Xmd v 0).bind fun v4=>sel v4 (fun v5=>some v5) (fun v6=>some 0))
namespace Xd8
def G:Gam:=mkG [(109,Xa7.FS)]
theorem Gok:GOk PR G:=.cons Xa7.ok .nil
end Xd8
namespace Xmd
def c:=Yao (Yai Proofs.Tryz.f108) [1,1,0,1,0,0]
def sp:SP:=⟨[(0,.cs SI),(3,.cs I64)],[]⟩
def fr:=Yh3 sp (fun x s=>Xmd.B x.1.1 s) (fun x=>x.1.2.1) fun x (oo0:(Int⊕Unit)) _ kk0=>sel oo0 (fun bb0=>kk0 (.rt) ⟨[(2,.cs I64 bb0)],[]⟩) (fun cc0=>kk0 (.ex 0) ⟨[],[]⟩)
theorem ok:Ya9 PR 19 1 (.loop c) fr:=
 Yst Xe Xf h0 .no (G:=Xd8.G) Xd8.Gok (L:=mkL []) (l:=[]) hT [(0,([],[]))] ([2],[]) (fun x s=>((x.1.1,s,x.1.2.2),x.2))
  (fun x s=>by simp only[B,mC,mB,mS,mO,mN];kernel_rfl)
end Xmd
namespace Xd8
def pts:List PT:=[.cs SI]
def FS:FS:=Ycc [.sh] pts (fun x=>Xd8 x.1) fun t=>⟨[.cs I64 t],[]⟩
theorem ok:Ycs PR 108 FS:=
 Ywh Xe Xf Proofs.Tryz.f108 h0 (.R (.R (.L (.R (.one (.fr 0)))))) (G:=G) Gok (L:=mkL [(0,Xmd.fr)]) (l:=[(0,.loop Xmd.c)]) ⟨Lam.cons Xmd.ok,trivial⟩
  (fun x=>by simp only[Xd8,mC,mB,mS,mO,mN];kernel_rfl)
end Xd8
def Xmc.B (v:Xd) (v3:Int):Option (Int⊕((Int⊕Unit))):=
 cond (decide (v3<(v.1.length:Int))) (cond (inB v3 v.1.length) ((Xd8 (v.1.getD v3.toNat [])).bind fun v4=>cond (v4 != 0) (some (.inr (.inl v4))) (some (.inl (w64 (v3+1))))) none) (some (.inr (.inr ())))
def Xmc (v:Xd):Int→Option ((Int⊕Unit)):=
 Yaj fun s=>Xmc.B v s
def Xme.B (v:Xd) (v8:Int):Option (Int⊕((Int⊕Unit))):=
 cond (decide (v8<(v.2.1.length:Int))) (cond (inB v8 v.2.1.length) ((Xa7 (v.2.1.getD v8.toNat Xv).1 0 (w64 ((v.1.length:Int)-1))).bind fun v9=>cond (!v9) (some (.inr (.inl 3))) (cond (inB v8 v.2.1.length) ((Xd8 (v.2.1.getD v8.toNat Xv).2.1).bind fun v10=>cond (v10 != 0) (some (.inr (.inl v10))) (some (.inl (w64 (v8+1))))) none)) none) (some (.inr (.inr ())))
def Xme (v:Xd):Int→Option ((Int⊕Unit)):=
 Yaj fun s=>Xme.B v s
def Xdv (v:Xd):Option Int:=
 (some (cond (decide ((v.1.length:Int)>60)) true (decide ((v.2.1.length:Int)>200)))).bind fun v2=>cond v2 (some 2) ((Xmc v 0).bind fun v5=>sel v5 (fun v6=>some v6) (fun v7=>(Xme v 0).bind fun v11=>sel v11 (fun v12=>some v12) (fun v13=>some 0)))
namespace Xdv
def G:Gam:=mkG [(108,Xd8.FS),(109,Xa7.FS)]
theorem Gok:GOk PR G:=.cons Xd8.ok (.cons Xa7.ok .nil)
end Xdv
namespace Xmc
def c:=Yao (Yai Proofs.Tryz.f45) [1,1,0,1,0,0]
def sp:SP:=⟨[(0,.pt Xh),(3,.cs I64)],[]⟩
def fr:=Yh3 sp (fun x s=>Xmc.B x.1.1 s) (fun x=>x.1.2.1) fun x (oo0:(Int⊕Unit)) _ kk0=>sel oo0 (fun bb0=>kk0 (.rt) ⟨[(2,.cs I64 bb0)],[]⟩) (fun cc0=>kk0 (.ex 0) ⟨[(0,.pt Xh x.1.1)],[]⟩)
theorem ok:Ya9 PR 78 1 (.loop c) fr:=
 Yst Xe Xf h0 .no (G:=Xdv.G) Xdv.Gok (L:=mkL []) (l:=[]) hT [(0,([0],[]))] ([2],[]) (fun x s=>((x.1.1,s,x.1.2.2),x.2))
  (fun x s=>by simp only[B,mC,mB,mS,mO,mN];kernel_rfl)
end Xmc
namespace Xme
def c:=Yao (Yai Proofs.Tryz.f45) [1,1,1,0,1,0,0]
def sp:SP:=⟨[(0,.pt Xh),(5,.cs I64)],[]⟩
def fr:=Yh3 sp (fun x s=>Xme.B x.1.1 s) (fun x=>x.1.2.1) fun x (oo0:(Int⊕Unit)) _ kk0=>sel oo0 (fun bb0=>kk0 (.rt) ⟨[(2,.cs I64 bb0)],[]⟩) (fun cc0=>kk0 (.ex 2) ⟨[],[]⟩)
theorem ok:Ya9 PR 78 1 (.loop c) fr:=
 Yst Xe Xf h0 .no (G:=Xdv.G) Xdv.Gok (L:=mkL []) (l:=[]) hT [(2,([],[]))] ([2],[]) (fun x s=>((x.1.1,s,x.1.2.2),x.2))
  (fun x s=>by simp only[B,mC,mB,mS,mO,mN];kernel_rfl)
end Xme
namespace Xdv
def pts:List PT:=[.pt Xh]
def FS:FS:=Ycc [.sh] pts (fun x=>Xdv x.1) fun t=>⟨[.cs I64 t],[]⟩
theorem ok:Ycs PR 45 FS:=
 Ywh Xe Xf Proofs.Tryz.f45 h0 (.R (.R (.two (.R (.one (.fr 0))) (.L (.R (.one (.fr 1))))))) (G:=G) Gok (L:=mkL [(0,Xmc.fr),(1,Xme.fr)]) (l:=[(0,.loop Xmc.c),(1,.loop Xme.c)]) ⟨Lam.cons Xmc.ok,Lam.skip rfl (Lam.cons Xme.ok),trivial⟩
  (fun x=>by simp only[Xdv,mC,mB,mS,mO,mN];kernel_rfl)
end Xdv
def Xgk.B (v:Xd) (v2:Int) (v3:Int):Option (Int⊕(((List Int)⊕Unit))):=
 cond (decide (v3≥0)) (cond (inB v3 v.2.1.length) (cond ((v.2.1.getD v3.toNat Xv).1 == v2) (cond (inB v3 v.2.1.length) (some (.inr (.inl (v.2.1.getD v3.toNat Xv).2.1))) none) (some (.inl (w64 (v3-1))))) none) (some (.inr (.inr ())))
def Xgk (v:Xd) (v2:Int):Int→Option (((List Int)⊕Unit)):=
 Yaj fun s=>Xgk.B v v2 s
def Xhi (v:Xd) (v2:Int):Option (List Int):=
 (Xgk v v2 (w64 ((v.2.1.length:Int)-1))).bind fun v4=>sel v4 (fun v5=>some v5) (fun v6=>cond (inB v2 v.1.length) (some (v.1.getD v2.toNat [])) none)
namespace Xgk
def c:=Yao (Yai Proofs.Tryz.f93) [1,0,1,0,0]
def sp:SP:=⟨[(0,.pt Xh),(1,.cs I64),(5,.cs I64)],[]⟩
def fr:=Yh3 sp (fun x s=>Xgk.B x.1.1 x.1.2.1 s) (fun x=>x.1.2.2.1) fun x (oo0:((List Int)⊕Unit)) _ kk0=>sel oo0 (fun bb0=>kk0 (.rt) ⟨[(4,.cs SI bb0)],[]⟩) (fun cc0=>kk0 (.ex 0) ⟨[(0,.pt Xh x.1.1),(1,.cs I64 x.1.2.1)],[]⟩)
theorem ok:Ya9 PR 41 2 (.loop c) fr:=
 Yst Xe Xf h0 .no (G:=(mkG [])) .nil (L:=mkL []) (l:=[]) hT [(0,([0,1],[]))] ([4],[]) (fun x s=>((x.1.1,x.1.2.1,s,x.1.2.2.2),x.2))
  (fun x s=>by simp only[B,mC,mB,mS,mO,mN];kernel_rfl)
end Xgk
namespace Xhi
def pts:List PT:=[.pt Xh,.cs I64]
def FS:FS:=Ycc [.sh,.sh] pts (fun x=>Xhi x.1 x.2.1) fun t=>⟨[.cs SI t],[]⟩
theorem ok:Ycs PR 93 FS:=
 Ywh Xe Xf Proofs.Tryz.f93 h0 (.R (.L (.R (.one (.fr 0))))) (G:=(mkG [])) .nil (L:=mkL [(0,Xgk.fr)]) (l:=[(0,.loop Xgk.c)]) ⟨Lam.cons Xgk.ok,trivial⟩
  (fun x=>by simp only[Xhi,mC,mB,mS,mO,mN];kernel_rfl)
end Xhi
def Xoj (v:Int):Option Bool:=
 (Xa7 v 1 60000).bind fun v2=>some v2
namespace Xoj
def G:Gam:=mkG [(109,Xa7.FS)]
def pts:List PT:=[.cs I64]
def FS:FS:=Ycc [.sh] pts (fun x=>Xoj x.1) fun t=>⟨[.cs .bool t],[]⟩
theorem ok:Ycs PR 94 FS:=
 Ywh Xe Xf Proofs.Tryz.f94 h0 .no (G:=G) (show GOk PR G from .cons Xa7.ok .nil) (L:=mkL []) (l:=[]) hT
  (fun x=>by simp only[Xoj,mC,mB,mS,mO,mN];kernel_rfl)
end Xoj
def Xio (v:Xd):Option Xmp:=
 (Xdv v).bind fun v2=>cond (v2 != 0) (some (v2,0,())) (cond ((v.1.length:Int) != 47) (some (1,0,())) ((Xhi v 0).bind fun v3=>cond (cond (!((v3.length:Int) != 2)) (inB 0 v3.length) true) ((some (cond ((v3.length:Int) != 2) true ((v3.getD (0:Int).toNat 0) != 7))).bind fun v4=>cond v4 (some (5,0,())) (cond (inB 1 v3.length) ((Xoj (v3.getD (1:Int).toNat 0)).bind fun v5=>cond (!v5) (some (5,0,())) (cond (inB 1 v3.length) (some (0,v3.getD (1:Int).toNat 0,())) none)) none)) none))
namespace Xio
def G:Gam:=mkG [(45,Xdv.FS),(93,Xhi.FS),(94,Xoj.FS)]
def pts:List PT:=[.cs Xh]
def FS:FS:=Ycc [.sh] pts (fun x=>Xio x.1) fun t=>⟨[.cs Xhq t],[]⟩
theorem ok:Ycs PR 39 FS:=
 Ywh Xe Xf Proofs.Tryz.f39 ⟨[1],[],[],0⟩ .no (G:=G) (show GOk PR G from .cons Xdv.ok (.cons Xhi.ok (.cons Xoj.ok .nil))) (L:=mkL []) (l:=[]) hT
  (fun x=>by simp only[Xio,mC,mB,mS,mO,mN];kernel_rfl)
end Xio
def Xol (v:Int):Option Bool:=
 (Xa7 v 0 32).bind fun v2=>some v2
namespace Xol
def G:Gam:=mkG [(109,Xa7.FS)]
def pts:List PT:=[.cs I64]
def FS:FS:=Ycc [.sh] pts (fun x=>Xol x.1) fun t=>⟨[.cs .bool t],[]⟩
theorem ok:Ycs PR 206 FS:=
 Ywh Xe Xf Proofs.Tryz.f206 h0 .no (G:=G) (show GOk PR G from .cons Xa7.ok .nil) (L:=mkL []) (l:=[]) hT
  (fun x=>by simp only[Xol,mC,mB,mS,mO,mN];kernel_rfl)
end Xol
def Xot (v:Int):Option Int:=
 cond (!((8:Int) == 0)) (some (w64 ((w64 ((w64 (v+8))-1)).tdiv 8))) none
namespace Xot
def pts:List PT:=[.cs I64]
def FS:FS:=Ycc [.sh] pts (fun x=>Xot x.1) fun t=>⟨[.cs I64 t],[]⟩
theorem ok:Ycs PR 207 FS:=
 Ywh Xe Xf Proofs.Tryz.f207 h0 .no (G:=(mkG [])) .nil (L:=mkL []) (l:=[]) hT
  (fun x=>by simp only[Xot,mC,mB,mS,mO,mN];kernel_rfl)
end Xot
def Xl4.B (v:Xa) (v5:Int):Option (Int⊕((Int⊕Unit))):=
 cond (decide (v5<(v.2.2.2.1.length:Int))) (cond (inB v5 v.2.2.2.1.length) ((Xa7 (v.2.2.2.1.getD v5.toNat 0) 0 19).bind fun v6=>cond (!v6) (some (.inr (.inl 3))) (some (.inl (w64 (v5+1))))) none) (some (.inr (.inr ())))
def Xl4 (v:Xa):Int→Option ((Int⊕Unit)):=
 Yaj fun s=>Xl4.B v s
def Xka.B (v:Xa) (v10:Int) (v11:Int):Option (Int⊕((Int⊕Unit))):=
 cond (decide (v11<v10)) (cond (inB v11 v.2.2.2.1.length) (cond (inB v10 v.2.2.2.1.length) ((some ((v.2.2.2.1.getD v11.toNat 0) == (v.2.2.2.1.getD v10.toNat 0))).bind fun v12=>cond v12 (some (.inr (.inl 7))) (some (.inl (w64 (v11+1))))) none) none) (some (.inr (.inr ())))
def Xka (v:Xa) (v10:Int):Int→Option ((Int⊕Unit)):=
 Yaj fun s=>Xka.B v v10 s
def Xki.B (v:Xa) (v10:Int):Option (Int⊕((Int⊕Unit))):=
 cond (decide (v10<(v.2.2.2.1.length:Int))) ((Xka v v10 0).bind fun v13=>sel v13 (fun v14=>some (.inr (.inl v14))) (fun v15=>some (.inl (w64 (v10+1))))) (some (.inr (.inr ())))
def Xki (v:Xa):Int→Option ((Int⊕Unit)):=
 Yaj fun s=>Xki.B v s
def Xh0 (v:Xa):Option Int:=
 (Xa7 v.2.1 1 60).bind fun v2=>cond (!v2) (some 3) ((Xol v.2.2.1).bind fun v3=>cond (!v3) (some 3) ((Xot v.2.2.1).bind fun v4=>cond ((v.2.2.2.1.length:Int) != v4) (some 1) ((Xl4 v 0).bind fun v7=>sel v7 (fun v8=>some v8) (fun v9=>(Xki v 0).bind fun v16=>sel v16 (fun v17=>some v17) (fun v18=>some 0)))))
namespace Xh0
def G:Gam:=mkG [(109,Xa7.FS),(206,Xol.FS),(207,Xot.FS)]
theorem Gok:GOk PR G:=.cons Xa7.ok (.cons Xol.ok (.cons Xot.ok .nil))
end Xh0
namespace Xl4
def c:=Yao (Yai Proofs.Tryz.f185) [1,1,1,0,1,0,0]
def sp:SP:=⟨[(0,.pt Xc),(3,.cs I64)],[]⟩
def fr:=Yh3 sp (fun x s=>Xl4.B x.1.1 s) (fun x=>x.1.2.1) fun x (oo0:(Int⊕Unit)) _ kk0=>sel oo0 (fun bb0=>kk0 (.rt) ⟨[(2,.cs I64 bb0)],[]⟩) (fun cc0=>kk0 (.ex 0) ⟨[(0,.pt Xc x.1.1)],[]⟩)
theorem ok:Ya9 PR 78 1 (.loop c) fr:=
 Yst Xe Xf h0 .no (G:=Xh0.G) Xh0.Gok (L:=mkL []) (l:=[]) hT [(0,([0],[]))] ([2],[]) (fun x s=>((x.1.1,s,x.1.2.2),x.2))
  (fun x s=>by simp only[B,mC,mB,mS,mO,mN];kernel_rfl)
end Xl4
namespace Xka
def c:=Yao (Yai Proofs.Tryz.f185) [1,1,1,1,0,1,0,0,1,0,0,1,0,0]
def sp:SP:=⟨[(0,.pt Xc),(4,.cs I64),(5,.cs I64)],[]⟩
def fr:=Yh3 sp (fun x s=>Xka.B x.1.1 x.1.2.1 s) (fun x=>x.1.2.2.1) fun x (oo0:(Int⊕Unit)) _ kk0=>sel oo0 (fun bb0=>kk0 (.rt) ⟨[(2,.cs I64 bb0)],[]⟩) (fun cc0=>kk0 (.ex 4) ⟨[(0,.pt Xc x.1.1),(4,.cs I64 x.1.2.1)],[]⟩)
theorem ok:Ya9 PR 78 1 (.loop c) fr:=
 Yst Xe Xf h0 .no (G:=Xh0.G) Xh0.Gok (L:=mkL []) (l:=[]) hT [(4,([0,4],[]))] ([2],[]) (fun x s=>((x.1.1,x.1.2.1,s,x.1.2.2.2),x.2))
  (fun x s=>by simp only[B,mC,mB,mS,mO,mN];kernel_rfl)
end Xka
namespace Xki
def c:=Yao (Yai Proofs.Tryz.f185) [1,1,1,1,0,1,0,0]
def sp:SP:=⟨[(0,.pt Xc),(4,.cs I64)],[]⟩
def fr:=Yh3 sp (fun x s=>Xki.B x.1.1 s) (fun x=>x.1.2.1) fun x (oo0:(Int⊕Unit)) _ kk0=>sel oo0 (fun bb0=>kk0 (.rt) ⟨[(2,.cs I64 bb0)],[]⟩) (fun cc0=>kk0 (.ex 2) ⟨[],[]⟩)
theorem ok:Ya9 PR 78 1 (.loop c) fr:=
 Yst Xe Xf h0 (.R (.L (.one (.R (.one (.fr 2)))))) (G:=Xh0.G) Xh0.Gok (L:=mkL [(2,Xka.fr)]) (l:=[(2,.loop Xka.c)]) ⟨Lam.cons Xka.ok,trivial⟩ [(2,([],[]))] ([2],[]) (fun x s=>((x.1.1,s,x.1.2.2),x.2))
  (fun x s=>by simp only[B,mC,mB,mS,mO,mN];kernel_rfl)
end Xki
namespace Xh0
def pts:List PT:=[.pt Xc]
def FS:FS:=Ycc [.sh] pts (fun x=>Xh0 x.1) fun t=>⟨[.cs I64 t],[]⟩
theorem ok:Ycs PR 185 FS:=
 Ywh Xe Xf Proofs.Tryz.f185 h0 (.R (.R (.R (.two (.R (.one (.fr 0))) (.L (.R (.one (.fr 1)))))))) (G:=G) Gok (L:=mkL [(0,Xl4.fr),(2,Xka.fr),(1,Xki.fr)]) (l:=[(0,.loop Xl4.c),(1,.loop Xki.c)]) ⟨Lam.cons Xl4.ok,Lam.skip rfl (Lam.skip rfl (Lam.cons Xki.ok)),trivial⟩
  (fun x=>by simp only[Xh0,mC,mB,mS,mO,mN];kernel_rfl)
end Xh0
def Xl5.B (v:List UInt8) (v2:Int):Option (Int⊕((Int⊕Unit))):=
 cond (decide (v2<(v.length:Int))) (cond (inB v2 v.length) (cond (cond (!(decide (((v.getD v2.toNat 0).toNat:Int)<97))) (inB v2 v.length) true) ((some (cond (decide (((v.getD v2.toNat 0).toNat:Int)<97)) true (decide (((v.getD v2.toNat 0).toNat:Int)>122)))).bind fun v3=>cond v3 (some (.inr (.inl 5))) (some (.inl (w64 (v2+1))))) none) none) (some (.inr (.inr ())))
def Xl5 (v:List UInt8):Int→Option ((Int⊕Unit)):=
 Yaj fun s=>Xl5.B v s
def Xof (v:List UInt8):Option Int:=
 (Xl5 v 0).bind fun v4=>sel v4 (fun v5=>some v5) (fun v6=>cond (v == ([]:List UInt8)) (some 5) (cond (decide ((v.length:Int)>4)) (some 2) (some 0)))
namespace Xl5
def c:=Yao (Yai Proofs.Tryz.f208) [1,0,1,0,0]
def sp:SP:=⟨[(0,.cs .str),(3,.cs I64)],[]⟩
def fr:=Yh3 sp (fun x s=>Xl5.B x.1.1 s) (fun x=>x.1.2.1) fun x (oo0:(Int⊕Unit)) _ kk0=>sel oo0 (fun bb0=>kk0 (.rt) ⟨[(2,.cs I64 bb0)],[]⟩) (fun cc0=>kk0 (.ex 0) ⟨[(0,.cs .str x.1.1)],[]⟩)
theorem ok:Ya9 PR 25 1 (.loop c) fr:=
 Yst Xe Xf h0 .no (G:=(mkG [])) .nil (L:=mkL []) (l:=[]) hT [(0,([0],[]))] ([2],[]) (fun x s=>((x.1.1,s,x.1.2.2),x.2))
  (fun x s=>by simp only[B,mC,mB,mS,mO,mN];kernel_rfl)
end Xl5
namespace Xof
def pts:List PT:=[.cs .str]
def FS:FS:=Ycc [.sh] pts (fun x=>Xof x.1) fun t=>⟨[.cs I64 t],[]⟩
theorem ok:Ycs PR 208 FS:=
 Ywh Xe Xf Proofs.Tryz.f208 h0 (.R (.L (.R (.one (.fr 0))))) (G:=(mkG [])) .nil (L:=mkL [(0,Xl5.fr)]) (l:=[(0,.loop Xl5.c)]) ⟨Lam.cons Xl5.ok,trivial⟩
  (fun x=>by simp only[Xof,mC,mB,mS,mO,mN];kernel_rfl)
end Xof
def Xlb.B (v:Xa) (v2:Int):Option (Int⊕((Int⊕Unit))):=
 cond (decide (v2<(v.2.2.2.2.1.length:Int))) (cond (inB v2 v.2.2.2.2.1.length) ((Xof (v.2.2.2.2.1.getD v2.toNat Xl).1).bind fun v3=>cond (v3 != 0) (some (.inr (.inl v3))) (cond (inB v2 v.2.2.2.2.1.length) ((Xa7 (v.2.2.2.2.1.getD v2.toNat Xl).2.1 0 9).bind fun v4=>cond (!v4) (some (.inr (.inl 3))) (cond (cond (decide (v2>0)) (inB v2 v.2.2.2.2.1.length) true) (cond (cond (decide (v2>0)) (inB (w64 (v2-1)) v.2.2.2.2.1.length) true) ((some (cond (decide (v2>0)) (leB (v.2.2.2.2.1.getD v2.toNat Xl).1 (v.2.2.2.2.1.getD (w64 (v2-1)).toNat Xl).1 || (v.2.2.2.2.1.getD v2.toNat Xl).1 == (v.2.2.2.2.1.getD (w64 (v2-1)).toNat Xl).1) false)).bind fun v5=>cond v5 (some (.inr (.inl 1))) (some (.inl (w64 (v2+1))))) none) none)) none)) none) (some (.inr (.inr ())))
def Xlb (v:Xa):Int→Option ((Int⊕Unit)):=
 Yaj fun s=>Xlb.B v s
def Xkr (v:Xa):Option Int:=
 cond (decide ((v.2.2.2.2.1.length:Int)>6)) (some 2) ((Xlb v 0).bind fun v6=>sel v6 (fun v7=>some v7) (fun v8=>some 0))
namespace Xkr
def G:Gam:=mkG [(208,Xof.FS),(109,Xa7.FS)]
theorem Gok:GOk PR G:=.cons Xof.ok (.cons Xa7.ok .nil)
end Xkr
namespace Xlb
def c:=Yao (Yai Proofs.Tryz.f186) [1,1,0,1,0,0]
def sp:SP:=⟨[(0,.pt Xc),(3,.cs I64)],[]⟩
def fr:=Yh3 sp (fun x s=>Xlb.B x.1.1 s) (fun x=>x.1.2.1) fun x (oo0:(Int⊕Unit)) _ kk0=>sel oo0 (fun bb0=>kk0 (.rt) ⟨[(2,.cs I64 bb0)],[]⟩) (fun cc0=>kk0 (.ex 0) ⟨[],[]⟩)
theorem ok:Ya9 PR 64 1 (.loop c) fr:=
 Yst Xe Xf h0 .no (G:=Xkr.G) Xkr.Gok (L:=mkL []) (l:=[]) hT [(0,([],[]))] ([2],[]) (fun x s=>((x.1.1,s,x.1.2.2),x.2))
  (fun x s=>by simp only[B,mC,mB,mS,mO,mN];kernel_rfl)
end Xlb
namespace Xkr
def pts:List PT:=[.pt Xc]
def FS:FS:=Ycc [.sh] pts (fun x=>Xkr x.1) fun t=>⟨[.cs I64 t],[]⟩
theorem ok:Ycs PR 186 FS:=
 Ywh Xe Xf Proofs.Tryz.f186 h0 (.R (.R (.L (.R (.one (.fr 0)))))) (G:=G) Gok (L:=mkL [(0,Xlb.fr)]) (l:=[(0,.loop Xlb.c)]) ⟨Lam.cons Xlb.ok,trivial⟩
  (fun x=>by simp only[Xkr,mC,mB,mS,mO,mN];kernel_rfl)
end Xkr
def Xiy (v:Xa):Option Int:=
 (Xa7 v.1 0 2).bind fun v2=>cond (!v2) (some 1) ((some (cond (v.1 != 1) (cond (cond (v.2.1 != 0) true (v.2.2.1 != 0)) true (decide ((v.2.2.2.1.length:Int)>0))) false)).bind fun v3=>(some (cond v3 true (cond (v.1 != 2) (decide ((v.2.2.2.2.1.length:Int)>0)) false))).bind fun v4=>cond v4 (some 1) (cond (v.1 == 1) ((Xh0 v).bind fun v5=>some v5) (cond (v.1 == 2) ((Xkr v).bind fun v6=>some v6) (some 0))))
namespace Xiy
def G:Gam:=mkG [(109,Xa7.FS),(185,Xh0.FS),(186,Xkr.FS)]
def pts:List PT:=[.pt Xc]
def FS:FS:=Ycc [.sh] pts (fun x=>Xiy x.1) fun t=>⟨[.cs I64 t],[]⟩
theorem ok:Ycs PR 159 FS:=
 Ywh Xe Xf Proofs.Tryz.f159 h0 .no (G:=G) (show GOk PR G from .cons Xa7.ok (.cons Xh0.ok (.cons Xkr.ok .nil))) (L:=mkL []) (l:=[]) hT
  (fun x=>by simp only[Xiy,mC,mB,mS,mO,mN];kernel_rfl)
end Xiy
def Xmb.B (v:List Xa) (v2:Int):Option (Int⊕((Int⊕Unit))):=
 cond (decide (v2<(v.length:Int))) (cond (inB v2 v.length) ((Xiy (v.getD v2.toNat Xb)).bind fun v3=>cond (v3 != 0) (some (.inr (.inl v3))) (some (.inl (w64 (v2+1))))) none) (some (.inr (.inr ())))
def Xmb (v:List Xa):Int→Option ((Int⊕Unit)):=
 Yaj fun s=>Xmb.B v s
def Xky (v:List Xa):Option Int:=
 cond (decide ((v.length:Int)>10)) (some 2) ((Xmb v 0).bind fun v4=>sel v4 (fun v5=>some v5) (fun v6=>some 0))
namespace Xky
def G:Gam:=mkG [(159,Xiy.FS)]
theorem Gok:GOk PR G:=.cons Xiy.ok .nil
end Xky
namespace Xmb
def c:=Yao (Yai Proofs.Tryz.f152) [1,1,0,1,0,0]
def sp:SP:=⟨[(0,.cs (.sl Xc)),(3,.cs I64)],[]⟩
def fr:=Yh3 sp (fun x s=>Xmb.B x.1.1 s) (fun x=>x.1.2.1) fun x (oo0:(Int⊕Unit)) _ kk0=>sel oo0 (fun bb0=>kk0 (.rt) ⟨[(2,.cs I64 bb0)],[]⟩) (fun cc0=>kk0 (.ex 0) ⟨[],[]⟩)
theorem ok:Ya9 PR 21 1 (.loop c) fr:=
 Yst Xe Xf h0 .no (G:=Xky.G) Xky.Gok (L:=mkL []) (l:=[]) hT [(0,([],[]))] ([2],[]) (fun x s=>((x.1.1,s,x.1.2.2),x.2))
  (fun x s=>by simp only[B,mC,mB,mS,mO,mN];kernel_rfl)
end Xmb
namespace Xky
def pts:List PT:=[.cs (.sl Xc)]
def FS:FS:=Ycc [.sh] pts (fun x=>Xky x.1) fun t=>⟨[.cs I64 t],[]⟩
theorem ok:Ycs PR 152 FS:=
 Ywh Xe Xf Proofs.Tryz.f152 h0 (.R (.R (.L (.R (.one (.fr 0)))))) (G:=G) Gok (L:=mkL [(0,Xmb.fr)]) (l:=[(0,.loop Xmb.c)]) ⟨Lam.cons Xmb.ok,trivial⟩
  (fun x=>by simp only[Xky,mC,mB,mS,mO,mN];kernel_rfl)
end Xky
def Xjn.B (v:List Xa) (v2:Int) (v4:Int) (v5:Int) (v6:Int):Option ((Int×Int)⊕Int):=
 cond (inB v4 v.length) ((some ((v.getD v4.toNat Xb).2.2.2.1.length:Int)).bind fun v7=>cond (decide (v6<v7)) (cond (inB v4 v.length) (cond (inB v6 ((v.getD v4.toNat Xb).2.2.2.1.length)) ((some ((v.getD v4.toNat Xb).2.2.2.1.getD v6.toNat 0)).bind fun v8=>cond (v8 == v2) (some (.inl (w64 (v5+1),w64 (v6+1)))) (some (.inl (v5,w64 (v6+1))))) none) none) (some (.inr v5))) none
def Xjn (v:List Xa) (v2:Int) (v4:Int):(Int×Int)→Option Int:=
 Yaj fun s=>Xjn.B v v2 v4 s.1 s.2
def Xkp.B (v:List Xa) (v2:Int) (v3:Int) (v4:Int):Option ((Int×Int)⊕Int):=
 cond (decide (v4<(v.length:Int))) ((Xjn v v2 v4 (v3,0)).bind fun v9=>some (.inl (v9,w64 (v4+1)))) (some (.inr v3))
def Xkp (v:List Xa) (v2:Int):(Int×Int)→Option Int:=
 Yaj fun s=>Xkp.B v v2 s.1 s.2
def Xkm (v:List Xa) (v2:Int):Option Int:=
 (Xkp v v2 (0,0)).bind fun v10=>some v10
namespace Xjn
def c:=Yao (Yai Proofs.Tryz.f101) [1,1,0,1,0,0,1,0,0,1,0,0]
def sp:SP:=⟨[(0,.cs (.sl Xc)),(1,.cs I64),(5,.cs I64),(6,.cs I64),(7,.cs I64)],[]⟩
def fr:=Yh3 sp (fun x s=>Xjn.B x.1.1 x.1.2.1 x.1.2.2.2.1 s.1 s.2) (fun x=>(x.1.2.2.1,x.1.2.2.2.2.1)) fun x (bb0:Int) _ kk0=>kk0 (.ex 2) ⟨[(0,.cs (.sl Xc) x.1.1),(1,.cs I64 x.1.2.1),(5,.cs I64 bb0),(6,.cs I64 x.1.2.2.2.1)],[]⟩
theorem ok:Ya9 PR 37 2 (.loop c) fr:=
 Yv8 Xe Xf h0 [(2,([0,1,5,6],[]))] (fun x s=>((x.1.1,x.1.2.1,s.1,x.1.2.2.2.1,s.2,x.1.2.2.2.2.2),x.2))
  (fun x s=>by simp only[B,mC,mB,mS,mO,mN];kernel_rfl)
end Xjn
namespace Xkp
def c:=Yao (Yai Proofs.Tryz.f101) [1,1,0,1,0,0]
def sp:SP:=⟨[(0,.cs (.sl Xc)),(1,.cs I64),(5,.cs I64),(6,.cs I64)],[]⟩
def fr:=Yh3 sp (fun x s=>Xkp.B x.1.1 x.1.2.1 s.1 s.2) (fun x=>(x.1.2.2.1,x.1.2.2.2.1)) fun x (bb0:Int) _ kk0=>kk0 (.ex 0) ⟨[(5,.cs I64 bb0)],[]⟩
theorem ok:Ya9 PR 37 2 (.loop c) fr:=
 Ywg Xe Xf h0 (.R (.L (.one (.R (.one (.fr 1)))))) (L:=mkL [(1,Xjn.fr)]) (l:=[(1,.loop Xjn.c)]) ⟨Lam.cons Xjn.ok,trivial⟩ [(0,([5],[]))] (fun x s=>((x.1.1,x.1.2.1,s.1,s.2,x.1.2.2.2.2),x.2))
  (fun x s=>by simp only[B,mC,mB,mS,mO,mN];kernel_rfl)
end Xkp
namespace Xkm
def pts:List PT:=[.cs (.sl Xc),.cs I64]
def FS:FS:=Ycc [.sh,.sh] pts (fun x=>Xkm x.1 x.2.1) fun t=>⟨[.cs I64 t],[]⟩
theorem ok:Ycs PR 101 FS:=
 Ywh Xe Xf Proofs.Tryz.f101 h0 (.R (.R (.L (.R (.one (.fr 0)))))) (G:=(mkG [])) .nil (L:=mkL [(1,Xjn.fr),(0,Xkp.fr)]) (l:=[(0,.loop Xkp.c)]) ⟨Lam.skip rfl (Lam.cons Xkp.ok),trivial⟩
  (fun x=>by simp only[Xkm,mC,mB,mS,mO,mN];kernel_rfl)
end Xkm
def Xma.B (v:List Xa) (v2:Bool) (v3:Int) (v4:List Int):Option ((Bool×Int×List Int)⊕(Bool×List Int)):=
 cond (decide (v3<20)) ((Xkm v v3).bind fun v5=>cond (decide (v5>0)) (cond (decide ((v4++([v3])).length≤2147483648)) (some (.inl (cond v2 (decide (v5≤1)) false,w64 (v3+1),v4++([v3])))) none) (some (.inl (cond v2 (decide (v5≤1)) false,w64 (v3+1),v4)))) (some (.inr (v2,v4)))
def Xma (v:List Xa):(Bool×Int×List Int)→Option (Bool×List Int):=
 Yaj fun s=>Xma.B v s.1 s.2.1 s.2.2
def Xh8 (v:List Xa):Option ((List Int)×Bool):=
 (Xma v (true,0,[])).bind fun v6=>some (v6.2,v6.1)
namespace Xh8
def G:Gam:=mkG [(101,Xkm.FS)]
theorem Gok:GOk PR G:=.cons Xkm.ok .nil
end Xh8
namespace Xma
def c:=Yao (Yai Proofs.Tryz.f153) [1,1,1,0,1,0,0]
def sp:SP:=⟨[(0,.cs (.sl Xc)),(4,.seg 4 []),(5,.cs .bool),(6,.cs I64)],[(4,.reg,.cd SI)]⟩
def fr:=Yh3 sp (fun x s=>Xma.B x.1.1 s.1 s.2.1 s.2.2) (fun x=>(x.1.2.2.1,x.1.2.2.2.1,x.2.1)) fun x (bb0:Bool×List Int) _ kk0=>kk0 (.ex 0) ⟨[(4,.seg 4 []),(5,.cs .bool bb0.1)],[sr 4 (.cd SI bb0.2)]⟩
theorem ok:Ya9 PR 29 1 (.loop c) fr:=
 Ywi Xe Xf h0 (G:=Xh8.G) Xh8.Gok [(0,([4,5],[4]))] (fun x s=>((x.1.1,x.1.2.1,s.1,s.2.1,x.1.2.2.2.2),(s.2.2,x.2.2)))
  (fun x s=>by simp only[B,mC,mB,mS,mO,mN];kernel_rfl)
end Xma
namespace Xh8
def pts:List PT:=[.cs (.sl Xc)]
def FS:FS:=Ycc [.sh] pts (fun x=>Xh8 x.1) fun t=>⟨[.cd SI t.1,.cs .bool t.2],[]⟩
theorem ok:Ycs PR 153 FS:=
 Ywh Xe Xf Proofs.Tryz.f153 h0 (.R (.R (.R (.L (.R (.one (.fr 0))))))) (G:=G) Gok (L:=mkL [(0,Xma.fr)]) (l:=[(0,.loop Xma.c)]) ⟨Lam.cons Xma.ok,trivial⟩
  (fun x=>by simp only[Xh8,mC,mB,mS,mO,mN];kernel_rfl)
end Xh8
def Xl9.B (v:Fs_) (v4:Int):Option (Int⊕((Int⊕Unit))):=
 cond (decide (v4<(v.2.1.length:Int))) (cond (inB v4 v.2.1.length) ((some (decide (((v.2.1.getD v4.toNat []).length:Int)>8))).bind fun v5=>cond v5 (some (.inr (.inl 2))) (some (.inl (w64 (v4+1))))) none) (some (.inr (.inr ())))
def Xl9 (v:Fs_):Int→Option ((Int⊕Unit)):=
 Yaj fun s=>Xl9.B v s
def Xjj.B (v:Fs_) (v10:Int) (v11:Int):Option (Int⊕((Int⊕Unit))):=
 cond (inB v10 v.1.length) ((some ((v.1.getD v10.toNat Xb).2.2.2.2.1.length:Int)).bind fun v12=>cond (decide (v11<v12)) (cond (inB v10 v.1.length) (cond (inB v11 ((v.1.getD v10.toNat Xb).2.2.2.2.1.length)) ((some ((v.1.getD v10.toNat Xb).2.2.2.2.1.getD v11.toNat Xl).2.1).bind fun v13=>cond (cond (!(decide (v13≥(v.1.length:Int)))) (inB v13 v.1.length) true) ((some (cond (decide (v13≥(v.1.length:Int))) true ((v.1.getD v13.toNat Xb).1 == 0))).bind fun v14=>cond v14 (some (.inr (.inl 4))) (some (.inl (w64 (v11+1))))) none) none) none) (some (.inr (.inr ())))) none
def Xjj (v:Fs_) (v10:Int):Int→Option ((Int⊕Unit)):=
 Yaj fun s=>Xjj.B v v10 s
def Xl7.B (v:Fs_) (v10:Int):Option (Int⊕((Int⊕Unit))):=
 cond (decide (v10<(v.1.length:Int))) ((Xjj v v10 0).bind fun v15=>sel v15 (fun v16=>some (.inr (.inl v16))) (fun v17=>some (.inl (w64 (v10+1))))) (some (.inr (.inr ())))
def Xl7 (v:Fs_):Int→Option ((Int⊕Unit)):=
 Yaj fun s=>Xl7.B v s
def Xfo (v:Fs_):Option Int:=
 (Xky v.1).bind fun v2=>cond (v2 != 0) (some v2) (cond (cond (!((v.1.length:Int) == 0)) (inB 0 v.1.length) true) ((some (cond ((v.1.length:Int) == 0) true ((v.1.getD (0:Int).toNat Xb).1 != 2))).bind fun v3=>cond (cond v3 true ((v.2.1.length:Int) != 20)) (some 1) ((Xl9 v 0).bind fun v6=>sel v6 (fun v7=>some v7) (fun v8=>(Xh8 v.1).bind fun v9=>cond (!v9.2) (some 7) ((Xl7 v 0).bind fun v18=>sel v18 (fun v19=>some v19) (fun v20=>some 0))))) none)
namespace Xfo
def G:Gam:=mkG [(152,Xky.FS),(153,Xh8.FS)]
theorem Gok:GOk PR G:=.cons Xky.ok (.cons Xh8.ok .nil)
end Xfo
namespace Xl9
def c:=Yao (Yai Proofs.Tryz.f95) [1,1,1,0,1,0,0]
def sp:SP:=⟨[(0,.pt Xk),(4,.cs I64)],[]⟩
def fr:=Yh3 sp (fun x s=>Xl9.B x.1.1 s) (fun x=>x.1.2.1) fun x (oo0:(Int⊕Unit)) _ kk0=>sel oo0 (fun bb0=>kk0 (.rt) ⟨[(2,.cs I64 bb0)],[]⟩) (fun cc0=>kk0 (.ex 0) ⟨[(0,.pt Xk x.1.1)],[]⟩)
theorem ok:Ya9 PR 122 1 (.loop c) fr:=
 Yst Xe Xf h0 .no (G:=Xfo.G) Xfo.Gok (L:=mkL []) (l:=[]) hT [(0,([0],[]))] ([2],[]) (fun x s=>((x.1.1,s,x.1.2.2),x.2))
  (fun x s=>by simp only[B,mC,mB,mS,mO,mN];kernel_rfl)
end Xl9
namespace Xjj
def c:=Yao (Yai Proofs.Tryz.f95) [1,1,1,1,1,0,1,0,0,1,0,0,1,0,0]
def sp:SP:=⟨[(0,.pt Xk),(7,.cs I64),(8,.cs I64)],[]⟩
def fr:=Yh3 sp (fun x s=>Xjj.B x.1.1 x.1.2.1 s) (fun x=>x.1.2.2.1) fun x (oo0:(Int⊕Unit)) _ kk0=>sel oo0 (fun bb0=>kk0 (.rt) ⟨[(2,.cs I64 bb0)],[]⟩) (fun cc0=>kk0 (.ex 4) ⟨[(0,.pt Xk x.1.1),(7,.cs I64 x.1.2.1)],[]⟩)
theorem ok:Ya9 PR 122 1 (.loop c) fr:=
 Yst Xe Xf h0 .no (G:=Xfo.G) Xfo.Gok (L:=mkL []) (l:=[]) hT [(4,([0,7],[]))] ([2],[]) (fun x s=>((x.1.1,x.1.2.1,s,x.1.2.2.2),x.2))
  (fun x s=>by simp only[B,mC,mB,mS,mO,mN];kernel_rfl)
end Xjj
namespace Xl7
def c:=Yao (Yai Proofs.Tryz.f95) [1,1,1,1,1,0,1,0,0]
def sp:SP:=⟨[(0,.pt Xk),(7,.cs I64)],[]⟩
def fr:=Yh3 sp (fun x s=>Xl7.B x.1.1 s) (fun x=>x.1.2.1) fun x (oo0:(Int⊕Unit)) _ kk0=>sel oo0 (fun bb0=>kk0 (.rt) ⟨[(2,.cs I64 bb0)],[]⟩) (fun cc0=>kk0 (.ex 2) ⟨[],[]⟩)
theorem ok:Ya9 PR 122 1 (.loop c) fr:=
 Yst Xe Xf h0 (.R (.L (.one (.R (.one (.fr 2)))))) (G:=Xfo.G) Xfo.Gok (L:=mkL [(2,Xjj.fr)]) (l:=[(2,.loop Xjj.c)]) ⟨Lam.cons Xjj.ok,trivial⟩ [(2,([],[]))] ([2],[]) (fun x s=>((x.1.1,s,x.1.2.2),x.2))
  (fun x s=>by simp only[B,mC,mB,mS,mO,mN];kernel_rfl)
end Xl7
namespace Xfo
def pts:List PT:=[.pt Xk]
def FS:FS:=Ycc [.sh] pts (fun x=>Xfo x.1) fun t=>⟨[.cs I64 t],[]⟩
theorem ok:Ycs PR 95 FS:=
 Ywh Xe Xf Proofs.Tryz.f95 h0 (.R (.R (.R (.two (.R (.one (.fr 0))) (.R (.L (.R (.one (.fr 1))))))))) (G:=G) Gok (L:=mkL [(0,Xl9.fr),(2,Xjj.fr),(1,Xl7.fr)]) (l:=[(0,.loop Xl9.c),(1,.loop Xl7.c)]) ⟨Lam.cons Xl9.ok,Lam.skip rfl (Lam.skip rfl (Lam.cons Xl7.ok)),trivial⟩
  (fun x=>by simp only[Xfo,mC,mB,mS,mO,mN];kernel_rfl)
end Xfo
def Xh7.B (v:Fs_) (v3:Int) (v5:Int) (v7:Int) (v8:List Bool):Option ((Int×List Bool)⊕(List Bool)):=
 cond (inB v5 v8.length) (cond (cond (v8.getD v5.toNat false) (inB v5 v.1.length) true) ((some (cond (v8.getD v5.toNat false) (decide (v7<((v.1.getD v5.toNat Xb).2.2.2.2.1.length:Int))) false)).bind fun v9=>cond v9 (cond (inB v5 v.1.length) (cond (inB v7 ((v.1.getD v5.toNat Xb).2.2.2.2.1.length)) ((some ((v.1.getD v5.toNat Xb).2.2.2.2.1.getD v7.toNat Xl).2.1).bind fun v10=>cond (inB v10 v8.length) (some (.inl (w64 (v7+1),v8.set v10.toNat true))) none) none) none) (some (.inr v8))) none) none
def Xh7 (v:Fs_) (v3:Int) (v5:Int):(Int×List Bool)→Option (List Bool):=
 Yaj fun s=>Xh7.B v v3 v5 s.1 s.2
def Xj0.B (v:Fs_) (v3:Int) (v5:Int) (v6:List Bool):Option ((Int×List Bool)⊕(List Bool)):=
 cond (decide (v5<(v.1.length:Int))) ((Xh7 v v3 v5 (0,v6)).bind fun v11=>some (.inl (w64 (v5+1),v11))) (some (.inr v6))
def Xj0 (v:Fs_) (v3:Int):(Int×List Bool)→Option (List Bool):=
 Yaj fun s=>Xj0.B v v3 s.1 s.2
def Xkx.B (v:Fs_) (v3:Int) (v4:List Bool):Option ((Int×List Bool)⊕(List Bool)):=
 cond (decide (v3<(v.1.length:Int))) ((Xj0 v v3 (0,v4)).bind fun v12=>some (.inl (w64 (v3+1),v12))) (some (.inr v4))
def Xkx (v:Fs_):(Int×List Bool)→Option (List Bool):=
 Yaj fun s=>Xkx.B v s.1 s.2
def Xkf.B (v13:List Bool) (v14:Int) (v15:List Int):Option ((Int×List Int)⊕(List Int)):=
 cond (decide (v14<(v13.length:Int))) (cond (inB v14 v13.length) (cond (v13.getD v14.toNat false) (cond (decide ((v15++([v14])).length≤2147483648)) (some (.inl (w64 (v14+1),v15++([v14])))) none) (some (.inl (w64 (v14+1),v15)))) none) (some (.inr v15))
def Xkf (v13:List Bool):(Int×List Int)→Option (List Int):=
 Yaj fun s=>Xkf.B v13 s.1 s.2
def Xnv (v:Fs_):Option (List Int):=
 cond (decide ((0:Int)≤(v.1.length:Int))&&(decide ((v.1.length:Int)≤(v.1.length:Int))&&decide ((v.1.length:Int)≤2147483648))) (cond (inB 0 ((List.replicate (v.1.length:Int).toNat false).length)) ((some ((List.replicate (v.1.length:Int).toNat false).set ((0:Int).toNat) true)).bind fun v2=>(Xkx v (0,v2)).bind fun v13=>(Xkf v13 (0,[])).bind fun v16=>some v16) none) none
namespace Xh7
def c:=Yao (Yai Proofs.Tryz.f154) [1,1,1,0,1,0,0,1,0,0,1,0,0,1,0,0,1,0,0]
def sp:SP:=⟨[(0,.pt Xk),(3,.seg 3 []),(4,.cs I64),(5,.cs I64),(6,.cs I64)],[(3,.reg,.cd (.sl .bool))]⟩
def fr:=Yh3 sp (fun x s=>Xh7.B x.1.1 x.1.2.2.1 x.1.2.2.2.1 s.1 s.2) (fun x=>(x.1.2.2.2.2.1,x.2.1)) fun x (bb0:List Bool) _ kk0=>kk0 (.ex 4) ⟨[(0,.pt Xk x.1.1),(3,.seg 3 []),(4,.cs I64 x.1.2.2.1),(5,.cs I64 x.1.2.2.2.1)],[sr 3 (.cd (.sl .bool) bb0)]⟩
theorem ok:Ya9 PR 84 1 (.loop c) fr:=
 Yv8 Xe Xf h0 [(4,([0,3,4,5],[3]))] (fun x s=>((x.1.1,x.1.2.1,x.1.2.2.1,x.1.2.2.2.1,s.1,x.1.2.2.2.2.2),(s.2,x.2.2)))
  (fun x s=>by simp only[B,mC,mB,mS,mO,mN];kernel_rfl)
end Xh7
namespace Xj0
def c:=Yao (Yai Proofs.Tryz.f154) [1,1,1,0,1,0,0,1,0,0,1,0,0]
def sp:SP:=⟨[(0,.pt Xk),(3,.seg 3 []),(4,.cs I64),(5,.cs I64)],[(3,.reg,.cd (.sl .bool))]⟩
def fr:=Yh3 sp (fun x s=>Xj0.B x.1.1 x.1.2.2.1 s.1 s.2) (fun x=>(x.1.2.2.2.1,x.2.1)) fun x (bb0:List Bool) _ kk0=>kk0 (.ex 2) ⟨[(0,.pt Xk x.1.1),(3,.seg 3 []),(4,.cs I64 x.1.2.2.1)],[sr 3 (.cd (.sl .bool) bb0)]⟩
theorem ok:Ya9 PR 84 1 (.loop c) fr:=
 Ywg Xe Xf h0 (.R (.L (.one (.R (.one (.fr 2)))))) (L:=mkL [(2,Xh7.fr)]) (l:=[(2,.loop Xh7.c)]) ⟨Lam.cons Xh7.ok,trivial⟩ [(2,([0,3,4],[3]))] (fun x s=>((x.1.1,x.1.2.1,x.1.2.2.1,s.1,x.1.2.2.2.2),(s.2,x.2.2)))
  (fun x s=>by simp only[B,mC,mB,mS,mO,mN];kernel_rfl)
end Xj0
namespace Xkx
def c:=Yao (Yai Proofs.Tryz.f154) [1,1,1,0,1,0,0]
def sp:SP:=⟨[(0,.pt Xk),(3,.seg 3 []),(4,.cs I64)],[(3,.reg,.cd (.sl .bool))]⟩
def fr:=Yh3 sp (fun x s=>Xkx.B x.1.1 s.1 s.2) (fun x=>(x.1.2.2.1,x.2.1)) fun x (bb0:List Bool) _ kk0=>kk0 (.ex 0) ⟨[(3,.seg 3 [])],[sr 3 (.cd (.sl .bool) bb0)]⟩
theorem ok:Ya9 PR 84 1 (.loop c) fr:=
 Ywg Xe Xf h0 (.R (.L (.one (.R (.one (.fr 1)))))) (L:=mkL [(2,Xh7.fr),(1,Xj0.fr)]) (l:=[(1,.loop Xj0.c)]) ⟨Lam.skip rfl (Lam.cons Xj0.ok),trivial⟩ [(0,([3],[3]))] (fun x s=>((x.1.1,x.1.2.1,s.1,x.1.2.2.2),(s.2,x.2.2)))
  (fun x s=>by simp only[B,mC,mB,mS,mO,mN];kernel_rfl)
end Xkx
namespace Xkf
def c:=Yao (Yai Proofs.Tryz.f154) [1,1,1,1,1,0,1,0,0]
def sp:SP:=⟨[(3,.seg 3 []),(7,.seg 7 []),(8,.cs I64)],[(3,.reg,.cd (.sl .bool)),(7,.reg,.cd SI)]⟩
def fr:=Yh3 sp (fun x s=>Xkf.B x.2.1 s.1 s.2) (fun x=>(x.1.2.2.1,x.2.2.1)) fun x (bb0:List Int) _ kk0=>kk0 (.ex 6) ⟨[(7,.seg 7 [])],[sr 7 (.cd SI bb0)]⟩
theorem ok:Ya9 PR 84 1 (.loop c) fr:=
 Yv8 Xe Xf h0 [(6,([7],[7]))] (fun x s=>((x.1.1,x.1.2.1,s.1,x.1.2.2.2),(x.2.1,s.2,x.2.2.2)))
  (fun x s=>by simp only[B,mC,mB,mS,mO,mN];kernel_rfl)
end Xkf
namespace Xnv
def pts:List PT:=[.pt Xk]
def FS:FS:=Ycc [.sh] pts (fun x=>Xnv x.1) fun t=>⟨[.cd SI t],[]⟩
theorem ok:Ycs PR 154 FS:=
 Ywh Xe Xf Proofs.Tryz.f154 h0 (.R (.R (.R (.two (.R (.one (.fr 0))) (.R (.L (.R (.one (.fr 3))))))))) (G:=(mkG [])) .nil (L:=mkL [(2,Xh7.fr),(1,Xj0.fr),(0,Xkx.fr),(3,Xkf.fr)]) (l:=[(0,.loop Xkx.c),(3,.loop Xkf.c)]) ⟨Lam.skip rfl (Lam.skip rfl (Lam.cons Xkx.ok)),Lam.skip rfl (Lam.skip rfl (Lam.skip rfl (Lam.cons Xkf.ok))),trivial⟩
  (fun x=>by simp only[Xnv,mC,mB,mS,mO,mN];kernel_rfl)
end Xnv
def Xj3.B (v:List Xa) (v2:Int) (v4:Int) (v5:Int) (v6:Int):Option ((Int×Int)⊕Int):=
 cond (inB v4 v.length) ((some ((v.getD v4.toNat Xb).2.2.2.2.1.length:Int)).bind fun v7=>cond (decide (v6<v7)) (cond (inB v4 v.length) (cond (inB v6 ((v.getD v4.toNat Xb).2.2.2.2.1.length)) ((some ((v.getD v4.toNat Xb).2.2.2.2.1.getD v6.toNat Xl).2.1).bind fun v8=>cond (v8 == v2) (some (.inl (w64 (v5+1),w64 (v6+1)))) (some (.inl (v5,w64 (v6+1))))) none) none) (some (.inr v5))) none
def Xj3 (v:List Xa) (v2:Int) (v4:Int):(Int×Int)→Option Int:=
 Yaj fun s=>Xj3.B v v2 v4 s.1 s.2
def Xkb.B (v:List Xa) (v2:Int) (v3:Int) (v4:Int):Option ((Int×Int)⊕Int):=
 cond (decide (v4<(v.length:Int))) ((Xj3 v v2 v4 (v3,0)).bind fun v9=>some (.inl (v9,w64 (v4+1)))) (some (.inr v3))
def Xkb (v:List Xa) (v2:Int):(Int×Int)→Option Int:=
 Yaj fun s=>Xkb.B v v2 s.1 s.2
def Xn2 (v:List Xa) (v2:Int):Option Int:=
 (Xkb v v2 (0,0)).bind fun v10=>some v10
namespace Xj3
def c:=Yao (Yai Proofs.Tryz.f155) [1,1,0,1,0,0,1,0,0,1,0,0]
def sp:SP:=⟨[(0,.cs (.sl Xc)),(1,.cs I64),(5,.cs I64),(6,.cs I64),(7,.cs I64)],[]⟩
def fr:=Yh3 sp (fun x s=>Xj3.B x.1.1 x.1.2.1 x.1.2.2.2.1 s.1 s.2) (fun x=>(x.1.2.2.1,x.1.2.2.2.2.1)) fun x (bb0:Int) _ kk0=>kk0 (.ex 2) ⟨[(0,.cs (.sl Xc) x.1.1),(1,.cs I64 x.1.2.1),(5,.cs I64 bb0),(6,.cs I64 x.1.2.2.2.1)],[]⟩
theorem ok:Ya9 PR 38 2 (.loop c) fr:=
 Yv8 Xe Xf h0 [(2,([0,1,5,6],[]))] (fun x s=>((x.1.1,x.1.2.1,s.1,x.1.2.2.2.1,s.2,x.1.2.2.2.2.2),x.2))
  (fun x s=>by simp only[B,mC,mB,mS,mO,mN];kernel_rfl)
end Xj3
namespace Xkb
def c:=Yao (Yai Proofs.Tryz.f155) [1,1,0,1,0,0]
def sp:SP:=⟨[(0,.cs (.sl Xc)),(1,.cs I64),(5,.cs I64),(6,.cs I64)],[]⟩
def fr:=Yh3 sp (fun x s=>Xkb.B x.1.1 x.1.2.1 s.1 s.2) (fun x=>(x.1.2.2.1,x.1.2.2.2.1)) fun x (bb0:Int) _ kk0=>kk0 (.ex 0) ⟨[(5,.cs I64 bb0)],[]⟩
theorem ok:Ya9 PR 38 2 (.loop c) fr:=
 Ywg Xe Xf h0 (.R (.L (.one (.R (.one (.fr 1)))))) (L:=mkL [(1,Xj3.fr)]) (l:=[(1,.loop Xj3.c)]) ⟨Lam.cons Xj3.ok,trivial⟩ [(0,([5],[]))] (fun x s=>((x.1.1,x.1.2.1,s.1,s.2,x.1.2.2.2.2),x.2))
  (fun x s=>by simp only[B,mC,mB,mS,mO,mN];kernel_rfl)
end Xkb
namespace Xn2
def pts:List PT:=[.cs (.sl Xc),.cs I64]
def FS:FS:=Ycc [.sh,.sh] pts (fun x=>Xn2 x.1 x.2.1) fun t=>⟨[.cs I64 t],[]⟩
theorem ok:Ycs PR 155 FS:=
 Ywh Xe Xf Proofs.Tryz.f155 h0 (.R (.R (.L (.R (.one (.fr 0)))))) (G:=(mkG [])) .nil (L:=mkL [(1,Xj3.fr),(0,Xkb.fr)]) (l:=[(0,.loop Xkb.c)]) ⟨Lam.skip rfl (Lam.cons Xkb.ok),trivial⟩
  (fun x=>by simp only[Xn2,mC,mB,mS,mO,mN];kernel_rfl)
end Xn2
def Xl8.B (v:List Int) (v2:Int) (v3:Int):Option (Int⊕((Bool⊕Unit))):=
 cond (decide (v3<(v.length:Int))) (cond (inB v3 v.length) (cond ((v.getD v3.toNat 0) == v2) (some (.inr (.inl true))) (some (.inl (w64 (v3+1))))) none) (some (.inr (.inr ())))
def Xl8 (v:List Int) (v2:Int):Int→Option ((Bool⊕Unit)):=
 Yaj fun s=>Xl8.B v v2 s
def Xmi (v:List Int) (v2:Int):Option Bool:=
 (Xl8 v v2 0).bind fun v4=>sel v4 (fun v5=>some v5) (fun v6=>some false)
namespace Xl8
def c:=Yao (Yai Proofs.Tryz.f156) [1,0,1,0,0]
def sp:SP:=⟨[(0,.cs SI),(1,.cs I64),(5,.cs I64)],[]⟩
def fr:=Yh3 sp (fun x s=>Xl8.B x.1.1 x.1.2.1 s) (fun x=>x.1.2.2.1) fun x (oo0:(Bool⊕Unit)) _ kk0=>sel oo0 (fun bb0=>kk0 (.rt) ⟨[(4,.cs .bool bb0)],[]⟩) (fun cc0=>kk0 (.ex 0) ⟨[],[]⟩)
theorem ok:Ya9 PR 18 2 (.loop c) fr:=
 Yst Xe Xf h0 .no (G:=(mkG [])) .nil (L:=mkL []) (l:=[]) hT [(0,([],[]))] ([4],[]) (fun x s=>((x.1.1,x.1.2.1,s,x.1.2.2.2),x.2))
  (fun x s=>by simp only[B,mC,mB,mS,mO,mN];kernel_rfl)
end Xl8
namespace Xmi
def pts:List PT:=[.cs SI,.cs I64]
def FS:FS:=Ycc [.sh,.sh] pts (fun x=>Xmi x.1 x.2.1) fun t=>⟨[.cs .bool t],[]⟩
theorem ok:Ycs PR 156 FS:=
 Ywh Xe Xf Proofs.Tryz.f156 h0 (.R (.L (.R (.one (.fr 0))))) (G:=(mkG [])) .nil (L:=mkL [(0,Xl8.fr)]) (l:=[(0,.loop Xl8.c)]) ⟨Lam.cons Xl8.ok,trivial⟩
  (fun x=>by simp only[Xmi,mC,mB,mS,mO,mN];kernel_rfl)
end Xmi
def Xl6.B (v:Fs_) (v2:List Int) (v3:Int):Option (Int⊕((Bool⊕Unit))):=
 cond (decide (v3<(v.1.length:Int))) (cond (inB v3 v.1.length) ((Xn2 v.1 v3).bind fun v4=>cond ((v.1.getD v3.toNat Xb).1 == 0) (some (.inl (w64 (v3+1)))) (cond ((v.1.getD v3.toNat Xb).1 == 1) (cond (v4 != (v.1.getD v3.toNat Xb).2.1) (some (.inr (.inl false))) ((Xmi v2 v3).bind fun v5=>cond (!v5) (some (.inr (.inl false))) (some (.inl (w64 (v3+1)))))) (cond (v3 == 0) (cond (v4 != 0) (some (.inr (.inl false))) ((Xmi v2 v3).bind fun v6=>cond (!v6) (some (.inr (.inl false))) (some (.inl (w64 (v3+1)))))) (cond (v4 != 1) (some (.inr (.inl false))) ((Xmi v2 v3).bind fun v7=>cond (!v7) (some (.inr (.inl false))) (some (.inl (w64 (v3+1))))))))) none) (some (.inr (.inr ())))
def Xl6 (v:Fs_) (v2:List Int):Int→Option ((Bool⊕Unit)):=
 Yaj fun s=>Xl6.B v v2 s
def Xkh (v:Fs_):Option Bool:=
 (Xnv v).bind fun v2=>(Xl6 v v2 0).bind fun v8=>sel v8 (fun v9=>some v9) (fun v10=>some true)
namespace Xkh
def G:Gam:=mkG [(154,Xnv.FS),(155,Xn2.FS),(156,Xmi.FS)]
theorem Gok:GOk PR G:=.cons Xnv.ok (.cons Xn2.ok (.cons Xmi.ok .nil))
end Xkh
namespace Xl6
def c:=Yao (Yai Proofs.Tryz.f96) [1,1,0,1,0,0]
def sp:SP:=⟨[(0,.pt Xk),(3,.seg 3 []),(4,.cs I64)],[(3,.reg,.cd SI)]⟩
def fr:=Yh3 sp (fun x s=>Xl6.B x.1.1 x.2.1 s) (fun x=>x.1.2.2.1) fun x (oo0:(Bool⊕Unit)) _ kk0=>sel oo0 (fun bb0=>kk0 (.rt) ⟨[(2,.cs .bool bb0)],[]⟩) (fun cc0=>kk0 (.ex 0) ⟨[],[]⟩)
theorem ok:Ya9 PR 59 1 (.loop c) fr:=
 Yst Xe Xf h0 .no (G:=Xkh.G) Xkh.Gok (L:=mkL []) (l:=[]) hT [(0,([],[]))] ([2],[]) (fun x s=>((x.1.1,x.1.2.1,s,x.1.2.2.2),x.2))
  (fun x s=>by simp only[B,mC,mB,mS,mO,mN];kernel_rfl)
end Xl6
namespace Xkh
def pts:List PT:=[.pt Xk]
def FS:FS:=Ycc [.sh] pts (fun x=>Xkh x.1) fun t=>⟨[.cs .bool t],[]⟩
theorem ok:Ycs PR 96 FS:=
 Ywh Xe Xf Proofs.Tryz.f96 h0 (.R (.R (.L (.R (.one (.fr 0)))))) (G:=G) Gok (L:=mkL [(0,Xl6.fr)]) (l:=[(0,.loop Xl6.c)]) ⟨Lam.cons Xl6.ok,trivial⟩
  (fun x=>by simp only[Xkh,mC,mB,mS,mO,mN];kernel_rfl)
end Xkh
def Xmf (v:Int) (v2:Int):Option Int:=
 cond (decide (v<v2)) (some v) (some v2)
namespace Xmf
def pts:List PT:=[.cs I64,.cs I64]
def FS:FS:=Ycc [.sh,.sh] pts (fun x=>Xmf x.1 x.2.1) fun t=>⟨[.cs I64 t],[]⟩
theorem ok:Ycs PR 157 FS:=
 Ywh Xe Xf Proofs.Tryz.f157 h0 .no (G:=(mkG [])) .nil (L:=mkL []) (l:=[]) hT
  (fun x=>by simp only[Xmf,mC,mB,mS,mO,mN];kernel_rfl)
end Xmf
def Xi4.B (v:Fs_) (v2:Int) (v4:Xa) (v5:Int) (v6:List Int):Option ((Int×List Int)⊕(List Int)):=
 cond (decide (v5<(v4.2.2.2.1.length:Int))) (cond (inB v5 v4.2.2.2.1.length) ((Xmf 8 (w64 (v4.2.2.1-(w64 (v5*8))))).bind fun v7=>cond (inB (v4.2.2.2.1.getD v5.toNat 0) v6.length) (some (.inl (w64 (v5+1),v6.set ((v4.2.2.2.1.getD v5.toNat 0).toNat) v7))) none) none) (some (.inr v6))
def Xi4 (v:Fs_) (v2:Int) (v4:Xa):(Int×List Int)→Option (List Int):=
 Yaj fun s=>Xi4.B v v2 v4 s.1 s.2
def Xkz.B (v:Fs_) (v2:Int) (v3:List Int):Option ((Int×List Int)⊕(List Int)):=
 cond (decide (v2<(v.1.length:Int))) (cond (inB v2 v.1.length) ((Xi4 v v2 (v.1.getD v2.toNat Xb) (0,v3)).bind fun v8=>some (.inl (w64 (v2+1),v8))) none) (some (.inr v3))
def Xkz (v:Fs_):(Int×List Int)→Option (List Int):=
 Yaj fun s=>Xkz.B v s.1 s.2
def Xl3.B (v:Fs_) (v9:List Int) (v10:Int):Option (Int⊕((Bool⊕Unit))):=
 cond (decide (v10<(v.2.1.length:Int))) (cond (inB v10 v.2.1.length) (cond (inB v10 v9.length) ((some (((v.2.1.getD v10.toNat []).length:Int) != (v9.getD v10.toNat 0))).bind fun v11=>cond v11 (some (.inr (.inl false))) (some (.inl (w64 (v10+1))))) none) none) (some (.inr (.inr ())))
def Xl3 (v:Fs_) (v9:List Int):Int→Option ((Bool⊕Unit)):=
 Yaj fun s=>Xl3.B v v9 s
def Xhp (v:Fs_):Option Bool:=
 cond (decide ((0:Int)≤(20:Int))&&(decide ((20:Int)≤(20:Int))&&decide ((20:Int)≤2147483648))) ((Xkz v (0,List.replicate (20:Int).toNat 0)).bind fun v9=>(Xl3 v v9 0).bind fun v12=>sel v12 (fun v13=>some v13) (fun v14=>some true)) none
namespace Xhp
def G:Gam:=mkG [(157,Xmf.FS)]
theorem Gok:GOk PR G:=.cons Xmf.ok .nil
end Xhp
namespace Xi4
def c:=Yao (Yai Proofs.Tryz.f97) [1,1,0,1,0,0,1,0,0,1,1,0,0]
def sp:SP:=⟨[(0,.pt Xk),(3,.seg 3 []),(4,.cs I64),(5,.pt Xc),(6,.cs I64)],[(3,.reg,.cd SI)]⟩
def fr:=Yh3 sp (fun x s=>Xi4.B x.1.1 x.1.2.2.1 x.1.2.2.2.1 s.1 s.2) (fun x=>(x.1.2.2.2.2.1,x.2.1)) fun x (bb0:List Int) _ kk0=>kk0 (.ex 2) ⟨[(0,.pt Xk x.1.1),(3,.seg 3 []),(4,.cs I64 x.1.2.2.1)],[sr 3 (.cd SI bb0)]⟩
theorem ok:Ya9 PR 72 1 (.loop c) fr:=
 Ywi Xe Xf h0 (G:=Xhp.G) Xhp.Gok [(2,([0,3,4],[3]))] (fun x s=>((x.1.1,x.1.2.1,x.1.2.2.1,x.1.2.2.2.1,s.1,x.1.2.2.2.2.2),(s.2,x.2.2)))
  (fun x s=>by simp only[B,mC,mB,mS,mO,mN];kernel_rfl)
end Xi4
namespace Xkz
def c:=Yao (Yai Proofs.Tryz.f97) [1,1,0,1,0,0]
def sp:SP:=⟨[(0,.pt Xk),(3,.seg 3 []),(4,.cs I64)],[(3,.reg,.cd SI)]⟩
def fr:=Yh3 sp (fun x s=>Xkz.B x.1.1 s.1 s.2) (fun x=>(x.1.2.2.1,x.2.1)) fun x (bb0:List Int) _ kk0=>kk0 (.ex 0) ⟨[(0,.pt Xk x.1.1),(3,.seg 3 [])],[sr 3 (.cd SI bb0)]⟩
theorem ok:Ya9 PR 72 1 (.loop c) fr:=
 Ywl Xe Xf h0 (.R (.L (.one (.R (.R (.one (.fr 1))))))) (G:=Xhp.G) Xhp.Gok (L:=mkL [(1,Xi4.fr)]) (l:=[(1,.loop Xi4.c)]) ⟨Lam.cons Xi4.ok,trivial⟩ [(0,([0,3],[3]))] (fun x s=>((x.1.1,x.1.2.1,s.1,x.1.2.2.2),(s.2,x.2.2)))
  (fun x s=>by simp only[B,mC,mB,mS,mO,mN];kernel_rfl)
end Xkz
namespace Xl3
def c:=Yao (Yai Proofs.Tryz.f97) [1,1,1,0,1,0,0]
def sp:SP:=⟨[(0,.pt Xk),(3,.seg 3 []),(7,.cs I64)],[(3,.reg,.cd SI)]⟩
def fr:=Yh3 sp (fun x s=>Xl3.B x.1.1 x.2.1 s) (fun x=>x.1.2.2.1) fun x (oo0:(Bool⊕Unit)) _ kk0=>sel oo0 (fun bb0=>kk0 (.rt) ⟨[(2,.cs .bool bb0)],[]⟩) (fun cc0=>kk0 (.ex 4) ⟨[],[]⟩)
theorem ok:Ya9 PR 72 1 (.loop c) fr:=
 Yst Xe Xf h0 .no (G:=Xhp.G) Xhp.Gok (L:=mkL []) (l:=[]) hT [(4,([],[]))] ([2],[]) (fun x s=>((x.1.1,x.1.2.1,s,x.1.2.2.2),x.2))
  (fun x s=>by simp only[B,mC,mB,mS,mO,mN];kernel_rfl)
end Xl3
namespace Xhp
def pts:List PT:=[.pt Xk]
def FS:FS:=Ycc [.sh] pts (fun x=>Xhp x.1) fun t=>⟨[.cs .bool t],[]⟩
theorem ok:Ycs PR 97 FS:=
 Ywh Xe Xf Proofs.Tryz.f97 h0 (.R (.R (.two (.R (.one (.fr 0))) (.L (.R (.one (.fr 2))))))) (G:=G) Gok (L:=mkL [(1,Xi4.fr),(0,Xkz.fr),(2,Xl3.fr)]) (l:=[(0,.loop Xkz.c),(2,.loop Xl3.c)]) ⟨Lam.skip rfl (Lam.cons Xkz.ok),Lam.skip rfl (Lam.skip rfl (Lam.cons Xl3.ok)),trivial⟩
  (fun x=>by simp only[Xhp,mC,mB,mS,mO,mN];kernel_rfl)
end Xhp
def Xib (v:Fs_):Option Int:=
 (Xfo v).bind fun v2=>cond (v2 != 0) (some v2) ((Xkh v).bind fun v3=>cond (!v3) (some 1) ((Xhp v).bind fun v4=>cond (!v4) (some 1) (some 0)))
namespace Xib
def G:Gam:=mkG [(95,Xfo.FS),(96,Xkh.FS),(97,Xhp.FS)]
def pts:List PT:=[.pt Xk]
def FS:FS:=Ycc [.sh] pts (fun x=>Xib x.1) fun t=>⟨[.cs I64 t],[]⟩
theorem ok:Ycs PR 40 FS:=
 Ywh Xe Xf Proofs.Tryz.f40 h0 .no (G:=G) (show GOk PR G from .cons Xfo.ok (.cons Xkh.ok (.cons Xhp.ok .nil))) (L:=mkL []) (l:=[]) hT
  (fun x=>by simp only[Xib,mC,mB,mS,mO,mN];kernel_rfl)
end Xib
def Xjs (v:List Int) (v2:Int):Option Int:=
 cond (decide (v2<(v.length:Int))) (cond (inB v2 v.length) (some (v.getD v2.toNat 0)) none) (some 0)
namespace Xjs
def pts:List PT:=[.cs SI,.cs I64]
def FS:FS:=Ycc [.sh,.sh] pts (fun x=>Xjs x.1 x.2.1) fun t=>⟨[.cs I64 t],[]⟩
theorem ok:Ycs PR 158 FS:=
 Ywh Xe Xf Proofs.Tryz.f158 h0 .no (G:=(mkG [])) .nil (L:=mkL []) (l:=[]) hT
  (fun x=>by simp only[Xjs,mC,mB,mS,mO,mN];kernel_rfl)
end Xjs
def Xas (v:List Int):Option (List Int):=
 cond (decide (([]++v).length≤2147483648)) (some ([]++v)) none
namespace Xas
def pts:List PT:=[.cs SI]
def FS:FS:=Ycc [.sh] pts (fun x=>Xas x.1) fun t=>⟨[.cd SI t],[]⟩
theorem ok:Ycs PR 106 FS:=
 Ywh Xe Xf Proofs.Tryz.f106 h0 .no (G:=(mkG [])) .nil (L:=mkL []) (l:=[]) hT
  (fun x=>by simp only[Xas,mC,mB,mS,mO,mN];kernel_rfl)
end Xas
def Xjv.B (v:Xa) (v3:Int) (v9:Xg) (v7:Int) (v8:List Int):Option ((Int×List Int)⊕(List Int)):=
 cond (decide (v7<(v9.1.length:Int))) (cond (inB v7 v9.1.length) ((some (v8++([w64 (((v9.1.getD v7.toNat 0).toNat:Int))]))).bind fun v10=>cond (decide (v10.length≤2147483648)) (some (.inl (w64 (v7+1),v10))) none) none) (some (.inr v8))
def Xjv (v:Xa) (v3:Int) (v9:Xg):(Int×List Int)→Option (List Int):=
 Yaj fun s=>Xjv.B v v3 v9 s.1 s.2
def Xkj.B (v:Xa) (v3:Int) (v4:List Int):Option ((Int×List Int)⊕(List Int)):=
 cond (decide (v3<(v.2.2.2.2.1.length:Int))) (cond (inB v3 v.2.2.2.2.1.length) ((some ((v.2.2.2.2.1.getD v3.toNat Xl).1.length:Int)).bind fun v5=>(some (v4++([(v.2.2.2.2.1.getD v3.toNat Xl).2.1,v5]))).bind fun v6=>cond (decide (v6.length≤2147483648)) ((Xjv v v3 (v.2.2.2.2.1.getD v3.toNat Xl) (0,v6)).bind fun v11=>some (.inl (w64 (v3+1),v11))) none) none) (some (.inr v4))
def Xkj (v:Xa):(Int×List Int)→Option (List Int):=
 Yaj fun s=>Xkj.B v s.1 s.2
def Xis (v:Xa):Option (List Int):=
 cond (decide ((([v.1,v.2.1,v.2.2.1])++v.2.2.2.1).length≤2147483648)) (cond (v.1 != 2) (some (([v.1,v.2.1,v.2.2.1])++v.2.2.2.1)) ((some ((([v.1,v.2.1,v.2.2.1])++v.2.2.2.1)++([(v.2.2.2.2.1.length:Int)]))).bind fun v2=>cond (decide (v2.length≤2147483648)) ((Xkj v (0,v2)).bind fun v12=>some v12) none)) none
namespace Xjv
def c:=Yao (Yai Proofs.Tryz.f161) [1,1,1,1,0,1,0,0,1,0,0,1,1,1,0,0]
def sp:SP:=⟨[(1,.pt Xc),(3,.seg 3 []),(4,.cs I64),(5,.loc 5 []),(6,.cs I64)],[(3,.reg,.cd SI),(5,.mem,.cd Xi)]⟩
def fr:=Yh3 sp (fun x s=>Xjv.B x.1.1 x.1.2.2.1 x.2.2.1 s.1 s.2) (fun x=>(x.1.2.2.2.2.1,x.2.1)) fun x (bb0:List Int) _ kk0=>kk0 (.ex 2) ⟨[(1,.pt Xc x.1.1),(3,.seg 3 []),(4,.cs I64 x.1.2.2.1)],[sr 3 (.cd SI bb0)]⟩
theorem ok:Ya9 PR 63 1 (.loop c) fr:=
 Yv8 Xe Xf ⟨[1],[],[],0⟩ [(2,([1,3,4],[3]))] (fun x s=>((x.1.1,x.1.2.1,x.1.2.2.1,x.1.2.2.2.1,s.1,x.1.2.2.2.2.2),(s.2,x.2.2)))
  (fun x s=>by simp only[B,mC,mB,mS,mO,mN];kernel_rfl)
end Xjv
namespace Xkj
def c:=Yao (Yai Proofs.Tryz.f161) [1,1,1,1,0,1,0,0]
def sp:SP:=⟨[(1,.pt Xc),(3,.seg 3 []),(4,.cs I64)],[(3,.reg,.cd SI)]⟩
def fr:=Yh3 sp (fun x s=>Xkj.B x.1.1 s.1 s.2) (fun x=>(x.1.2.2.1,x.2.1)) fun x (bb0:List Int) _ kk0=>kk0 (.ex 0) ⟨[(3,.seg 3 [])],[sr 3 (.cd SI bb0)]⟩
theorem ok:Ya9 PR 63 1 (.loop c) fr:=
 Ywg Xe Xf ⟨[1],[],[],0⟩ (.R (.L (.one (.R (.R (.R (.one (.fr 1)))))))) (L:=mkL [(1,Xjv.fr)]) (l:=[(1,.loop Xjv.c)]) ⟨Lam.cons Xjv.ok,trivial⟩ [(0,([3],[3]))] (fun x s=>((x.1.1,x.1.2.1,s.1,x.1.2.2.2),(s.2,x.2.2)))
  (fun x s=>by simp only[B,mC,mB,mS,mO,mN];kernel_rfl)
end Xkj
namespace Xis
def pts:List PT:=[.cs Xc]
def FS:FS:=Ycc [.sh] pts (fun x=>Xis x.1) fun t=>⟨[.cd SI t],[]⟩
theorem ok:Ycs PR 161 FS:=
 Ywh Xe Xf Proofs.Tryz.f161 ⟨[1],[],[],0⟩ (.R (.R (.R (.R (.L (.R (.one (.fr 0)))))))) (G:=(mkG [])) .nil (L:=mkL [(1,Xjv.fr),(0,Xkj.fr)]) (l:=[(0,.loop Xkj.c)]) ⟨Lam.skip rfl (Lam.cons Xkj.ok),trivial⟩
  (fun x=>by simp only[Xis,mC,mB,mS,mO,mN];kernel_rfl)
end Xis
def Xk0.B (v:List Int) (v2:List Int) (v3:Int):Option (Int⊕((Bool⊕Unit))):=
 cond (decide (v3<(v.length:Int))) (cond (inB v3 v.length) (cond (inB v3 v2.length) (cond ((v.getD v3.toNat 0) != (v2.getD v3.toNat 0)) (some (.inr (.inl false))) (some (.inl (w64 (v3+1))))) none) none) (some (.inr (.inr ())))
def Xk0 (v:List Int) (v2:List Int):Int→Option ((Bool⊕Unit)):=
 Yaj fun s=>Xk0.B v v2 s
def Xhj (v:List Int) (v2:List Int):Option Bool:=
 cond ((v.length:Int) != (v2.length:Int)) (some false) ((Xk0 v v2 0).bind fun v4=>sel v4 (fun v5=>some v5) (fun v6=>some true))
namespace Xk0
def c:=Yao (Yai Proofs.Tryz.f160) [1,1,0,1,0,0]
def sp:SP:=⟨[(0,.cs SI),(1,.cs SI),(5,.cs I64)],[]⟩
def fr:=Yh3 sp (fun x s=>Xk0.B x.1.1 x.1.2.1 s) (fun x=>x.1.2.2.1) fun x (oo0:(Bool⊕Unit)) _ kk0=>sel oo0 (fun bb0=>kk0 (.rt) ⟨[(4,.cs .bool bb0)],[]⟩) (fun cc0=>kk0 (.ex 0) ⟨[],[]⟩)
theorem ok:Ya9 PR 26 2 (.loop c) fr:=
 Yst Xe Xf h0 .no (G:=(mkG [])) .nil (L:=mkL []) (l:=[]) hT [(0,([],[]))] ([4],[]) (fun x s=>((x.1.1,x.1.2.1,s,x.1.2.2.2),x.2))
  (fun x s=>by simp only[B,mC,mB,mS,mO,mN];kernel_rfl)
end Xk0
namespace Xhj
def pts:List PT:=[.cs SI,.cs SI]
def FS:FS:=Ycc [.sh,.sh] pts (fun x=>Xhj x.1 x.2.1) fun t=>⟨[.cs .bool t],[]⟩
theorem ok:Ycs PR 160 FS:=
 Ywh Xe Xf Proofs.Tryz.f160 h0 (.R (.R (.L (.R (.one (.fr 0)))))) (G:=(mkG [])) .nil (L:=mkL [(0,Xk0.fr)]) (l:=[(0,.loop Xk0.c)]) ⟨Lam.cons Xk0.ok,trivial⟩
  (fun x=>by simp only[Xhj,mC,mB,mS,mO,mN];kernel_rfl)
end Xhj
def Xjh.B (v:List Int) (v7:Int) (v13:Int) (v16:Int) (v17:List Int) (v10:Int) (v18:Bool) (v8:Xa) (v9:Xa) (v14:Int) (v15:Int) (v19:Xg):Option ((Int×Int×Xg)⊕(Int×Xg)):=
 (some (cond (decide (v15<v13)) (decide (v15<8)) false)).bind fun v20=>cond v20 ((Xjs v v14).bind fun v21=>cond (!((256:Int) == 0)) ((some (([IntKind.u8.wrap (v21.tmod 256)]).map fun n=>UInt8.ofNat n.toNat)).bind fun v22=>cond (decide (v19.1.length+v22.length≤2147483648)) (some (.inl (w64 (v14+1),w64 (v15+1),(v19.1++v22,v19.2)))) none) none) (some (.inr (v14,v19)))
def Xjh (v:List Int) (v7:Int) (v13:Int) (v16:Int) (v17:List Int) (v10:Int) (v18:Bool) (v8:Xa) (v9:Xa):(Int×Int×Xg)→Option (Int×Xg):=
 Yaj fun s=>Xjh.B v v7 v13 v16 v17 v10 v18 v8 v9 s.1 s.2.1 s.2.2
def Xe7.B (v:List Int) (v8:Xa) (v6:Int) (v7:Int) (v9:Xa):Option ((Int×Int×Xa)⊕Xa):=
 cond (v9.1 == 2) ((Xjs v 3).bind fun v10=>(some (cond (decide (v7<v10)) (decide (v6<(v.length:Int))) false)).bind fun v11=>cond v11 ((Xjs v v6).bind fun v12=>(Xjs v (w64 (v6+1))).bind fun v13=>(Xjh v v7 v13 v7 v v10 (decide (v7<v10)) v8 v9 (w64 (v6+2),0,([],v12,()))).bind fun v23=>cond (decide ((v9.2.2.2.2.1++([v23.2])).length≤2147483648)) (some (.inl (v23.1,w64 (v7+1),(v9.1,v9.2.1,v9.2.2.1,v9.2.2.2.1,v9.2.2.2.2.1++([v23.2]),v9.2.2.2.2.2)))) none) (some (.inr v9))) (some (.inr v9))
def Xe7 (v:List Int) (v8:Xa):(Int×Int×Xa)→Option Xa:=
 Yaj fun s=>Xe7.B v v8 s.1 s.2.1 s.2.2
def Xia (v:List Int):Option (Xa×Bool):=
 cond ((v.length:Int) == 0) (some ((0,0,0,[],[],()),true)) (cond (inB 0 v.length) ((Xjs v 1).bind fun v2=>(Xjs v 2).bind fun v3=>(some (cond ((v.getD (0:Int).toNat 0) == 1) (decide ((v.length:Int)>3)) false)).bind fun v4=>cond v4 (cond (decide ((0:Int)≤(3:Int))&&decide ((3:Int)≤(v.length:Int))) ((Xas ((v.take v.length).drop ((3:Int).toNat))).bind fun v5=>(Xe7 v (0,0,0,[],[],()) (4,0,(v.getD (0:Int).toNat 0,v2,v3,v5,[],()))).bind fun v24=>(Xiy v24).bind fun v25=>cond (v25 == 0) ((Xis (v24.1,v24.2.1,v24.2.2.1,v24.2.2.2.1,v24.2.2.2.2.1,v24.2.2.2.2.2)).bind fun v26=>(Xhj v26 v).bind fun v27=>some ((v24.1,v24.2.1,v24.2.2.1,v24.2.2.2.1,v24.2.2.2.2.1,v24.2.2.2.2.2),v27)) (some ((v24.1,v24.2.1,v24.2.2.1,v24.2.2.2.1,v24.2.2.2.2.1,v24.2.2.2.2.2),false))) none) ((Xe7 v (0,0,0,[],[],()) (4,0,(v.getD (0:Int).toNat 0,v2,v3,[],[],()))).bind fun v28=>(Xiy v28).bind fun v29=>cond (v29 == 0) ((Xis (v28.1,v28.2.1,v28.2.2.1,v28.2.2.2.1,v28.2.2.2.2.1,v28.2.2.2.2.2)).bind fun v30=>(Xhj v30 v).bind fun v31=>some ((v28.1,v28.2.1,v28.2.2.1,v28.2.2.2.1,v28.2.2.2.2.1,v28.2.2.2.2.2),v31)) (some ((v28.1,v28.2.1,v28.2.2.1,v28.2.2.2.1,v28.2.2.2.2.1,v28.2.2.2.2.2),false)))) none)
namespace Xia
def G:Gam:=mkG [(158,Xjs.FS),(106,Xas.FS),(159,Xiy.FS),(161,Xis.FS),(160,Xhj.FS)]
theorem Gok:GOk PR G:=.cons Xjs.ok (.cons Xas.ok (.cons Xiy.ok (.cons Xis.ok (.cons Xhj.ok .nil))))
end Xia
namespace Xjh
def c:=Yao (Yai Proofs.Tryz.f98) [1,1,1,1,1,0,1,0,0,1,0,0,1,1,1,0,1,0,0]
def sp:SP:=⟨[(0,.cs SI),(2,.loc 2 []),(4,.loc 4 []),(5,.cs I64),(6,.cs I64),(7,.loc 7 []),(8,.cs I64),(9,.cs I64),(38,.cs I64),(39,.cs SI),(40,.cs I64),(41,.cs .bool)],[(2,.mem,.cd Xc),(4,.mem,.cd Xc),(7,.mem,.cd Xi)]⟩
def fr:=Yh3 sp (fun x s=>Xjh.B x.1.1 x.1.2.2.2.2.1 x.1.2.2.2.2.2.2.1 x.1.2.2.2.2.2.2.2.2.1 x.1.2.2.2.2.2.2.2.2.2.1 x.1.2.2.2.2.2.2.2.2.2.2.1 x.1.2.2.2.2.2.2.2.2.2.2.2.1 x.2.1 x.2.2.1 s.1 s.2.1 s.2.2) (fun x=>(x.1.2.2.2.1,x.1.2.2.2.2.2.2.2.1,x.2.2.2.1)) fun x (bb0:Int×Xg) _ kk0=>kk0 (.ex 2) ⟨[(0,.cs SI x.1.1),(2,.loc 2 []),(4,.loc 4 []),(5,.cs I64 bb0.1),(6,.cs I64 x.1.2.2.2.2.1),(7,.loc 7 []),(38,.cs I64 x.1.2.2.2.2.2.2.2.2.1),(39,.cs SI x.1.2.2.2.2.2.2.2.2.2.1),(40,.cs I64 x.1.2.2.2.2.2.2.2.2.2.2.1),(41,.cs .bool x.1.2.2.2.2.2.2.2.2.2.2.2.1)],[(2,some ⟨.mem,.cd Xc x.2.1⟩),(4,some ⟨.mem,.cd Xc x.2.2.1⟩),(7,some ⟨.mem,.cd Xi bb0.2⟩)]⟩
theorem ok:Ya9 PR 98 1 (.loop c) fr:=
 Ywi Xe Xf h0 (G:=Xia.G) Xia.Gok [(2,([0,2,4,5,6,7,38,39,40,41],[2,4,7]))] (fun x s=>((x.1.1,x.1.2.1,x.1.2.2.1,s.1,x.1.2.2.2.2.1,x.1.2.2.2.2.2.1,x.1.2.2.2.2.2.2.1,s.2.1,x.1.2.2.2.2.2.2.2.2),(x.2.1,x.2.2.1,s.2.2,x.2.2.2.2)))
  (fun x s=>by simp only[B,mC,mB,mS,mO,mN];kernel_rfl)
end Xjh
namespace Xe7
def c:=Yao (Yai Proofs.Tryz.f98) [1,1,1,1,1,0,1,0,0]
def sp:SP:=⟨[(0,.cs SI),(2,.loc 2 []),(4,.loc 4 []),(5,.cs I64),(6,.cs I64)],[(2,.mem,.cd Xc),(4,.mem,.cd Xc)]⟩
def fr:=Yh3 sp (fun x s=>Xe7.B x.1.1 x.2.1 s.1 s.2.1 s.2.2) (fun x=>(x.1.2.2.2.1,x.1.2.2.2.2.1,x.2.2.1)) fun x (bb0:Xa) _ kk0=>kk0 (.ex 0) ⟨[(0,.cs SI x.1.1),(2,.loc 2 []),(4,.loc 4 [])],[(2,some ⟨.mem,.cd Xc x.2.1⟩),(4,some ⟨.mem,.cd Xc bb0⟩)]⟩
theorem ok:Ya9 PR 98 1 (.loop c) fr:=
 Ywl Xe Xf h0 (.R (.L (.one (.R (.R (.R (.L (.R (.one (.fr 1)))))))))) (G:=Xia.G) Xia.Gok (L:=mkL [(1,Xjh.fr)]) (l:=[(1,.loop Xjh.c)]) ⟨Lam.cons Xjh.ok,trivial⟩ [(0,([0,2,4],[2,4]))] (fun x s=>((x.1.1,x.1.2.1,x.1.2.2.1,s.1,s.2.1,x.1.2.2.2.2.2),(x.2.1,s.2.2,x.2.2.2)))
  (fun x s=>by simp only[B,mC,mB,mS,mO,mN];kernel_rfl)
end Xe7
namespace Xia
def pts:List PT:=[.cs SI]
def FS:FS:=Ycc [.sh] pts (fun x=>Xia x.1) fun t=>⟨[.cd Xc t.1,.cs .bool t.2],[]⟩
theorem ok:Ycs PR 98 FS:=
 Ywh Xe Xf Proofs.Tryz.f98 h0 (.R (.R (.R (.R (.R (.L (.R (.one (.fr 0))))))))) (G:=G) Gok (L:=mkL [(1,Xjh.fr),(0,Xe7.fr)]) (l:=[(0,.loop Xe7.c)]) ⟨Lam.skip rfl (Lam.cons Xe7.ok),trivial⟩
  (fun x=>by simp only[Xia,mC,mB,mS,mO,mN];kernel_rfl)
end Xia
def Xir.B (v:Xd) (v3:Int) (v5:Nat) (v6:Int) (v10:Int) (v12:List Int) (v7:Fs_) (v13:Int) (v14:List Int):Option ((Int×List Int)⊕((Bool⊕(List Int)))):=
 cond (decide (v13<v10)) (cond (inB v13 v12.length) (cond (decide ((v12.getD v13.toNat 0)>255)) (some (.inr (.inl false))) (cond (inB v13 v12.length) ((some (v14++([IntKind.u8.wrap (v12.getD v13.toNat 0)]))).bind fun v15=>cond (decide (v15.length≤2147483648)) (some (.inl (w64 (v13+1),v15))) none) none)) none) (some (.inr (.inr v14)))
def Xir (v:Xd) (v3:Int) (v5:Nat) (v6:Int) (v10:Int) (v12:List Int) (v7:Fs_):(Int×List Int)→Option ((Bool⊕(List Int))):=
 Yaj fun s=>Xir.B v v3 v5 v6 v10 v12 v7 s.1 s.2
def Xjt.B (v:Xd) (v3:Int) (v5:Nat) (v6:Int) (v7:Fs_):Option ((Int×Fs_)⊕(((Bool×Fs_)⊕Fs_))):=
 (some ((v7.1.getD v5 Xb).2.2.2.1.length:Int)).bind fun v8=>cond (decide (v6<v8)) ((some (w64 ((v7.1.getD v5 Xb).2.2.1-(w64 (v6*8))))).bind fun v9=>(Xmf 8 v9).bind fun v10=>cond (inB v6 ((v7.1.getD v5 Xb).2.2.2.1.length)) ((some ((v7.1.getD v5 Xb).2.2.2.1.getD v6.toNat 0)).bind fun v11=>(Xhi v (w64 ((27:Int)+v11))).bind fun v12=>cond (decide ((v12.length:Int)<v10)) (some (.inr (.inl (false,v7)))) ((Xir v v3 v5 v6 v10 v12 v7 (0,[])).bind fun v16=>sel v16 (fun v17=>some (.inr (.inl (v17,v7)))) (fun v18=>cond (inB v6 ((v7.1.getD v5 Xb).2.2.2.1.length)) ((some ((v7.1.getD v5 Xb).2.2.2.1.getD v6.toNat 0)).bind fun v19=>cond (inB v19 v7.2.1.length) (some (.inl (w64 (v6+1),(v7.1,v7.2.1.set v19.toNat v18,v7.2.2)))) none) none))) none) (some (.inr (.inr v7)))
def Xjt (v:Xd) (v3:Int) (v5:Nat):(Int×Fs_)→Option (((Bool×Fs_)⊕Fs_)):=
 Yaj fun s=>Xjt.B v v3 v5 s.1 s.2
def Xd4.B (v:Xd) (v3:Int) (v4:Fs_):Option ((Int×Fs_)⊕(((Bool×Fs_)⊕Fs_))):=
 cond (decide (v3<(v4.1.length:Int))) (cond (inB v3 v4.1.length) ((Xjt v v3 v3.toNat (0,v4)).bind fun v20=>sel v20 (fun v21=>some (.inr (.inl (v21.1,v21.2)))) (fun v22=>some (.inl (w64 (v3+1),v22)))) none) (some (.inr (.inr v4)))
def Xd4 (v:Xd):(Int×Fs_)→Option (((Bool×Fs_)⊕Fs_)):=
 Yaj fun s=>Xd4.B v s.1 s.2
def Xby (v:Xd) (v2:Fs_):Option (Bool×Fs_):=
 (Xd4 v (0,v2)).bind fun v23=>sel v23 (fun v24=>some (v24.1,v24.2)) (fun v25=>some (true,v25))
namespace Xby
def G:Gam:=mkG [(157,Xmf.FS),(93,Xhi.FS)]
theorem Gok:GOk PR G:=.cons Xmf.ok (.cons Xhi.ok .nil)
end Xby
namespace Xir
def c:=Yao (Yai Proofs.Tryz.f99) [1,0,1,0,0,1,0,0,1,1,0,0,1,0,0,1,1,1,1,0,1,0,0]
def sp:SP:=⟨[(0,.pt Xh),(1,.loc 1 []),(5,.cs I64),(6,.loc 1 [.f1,.el]),(7,.cs I64),(8,.cs I64),(9,.cs SI),(10,.seg 10 []),(11,.cs I64)],[(1,.mem,.cd Xk),(10,.reg,.cd SB)]⟩
def fr:=Yh3 sp (fun x s=>Xir.B x.1.1 x.1.2.2.1 x.1.2.2.2.1.1 x.1.2.2.2.2.1 x.1.2.2.2.2.2.1 x.1.2.2.2.2.2.2.1 x.2.1 s.1 s.2) (fun x=>(x.1.2.2.2.2.2.2.2.2.1,x.2.2.1)) fun x (oo0:(Bool⊕(List Int))) _ kk0=>sel oo0 (fun bb0=>kk0 (.rt) ⟨[(4,.cs .bool bb0)],[(1,some ⟨.mem,.cd Xk x.2.1⟩)]⟩) (fun cc0=>kk0 (.ex 4) ⟨[(0,.pt Xh x.1.1),(1,.loc 1 []),(5,.cs I64 x.1.2.2.1),(6,.loc 1 [.f1,.el x.1.2.2.2.1.1]),(7,.cs I64 x.1.2.2.2.2.1),(10,.seg 10 [])],[(1,some ⟨.mem,.cd Xk x.2.1⟩),sr 10 (.cd SB cc0)]⟩)
theorem ok:Ya9 PR 90 2 (.loop c) fr:=
 Yst Xe Xf h0 .no (G:=Xby.G) Xby.Gok (L:=mkL []) (l:=[]) hT [(4,([0,1,5,6,7,10],[1,10]))] ([4],[1]) (fun x s=>((x.1.1,x.1.2.1,x.1.2.2.1,x.1.2.2.2.1,x.1.2.2.2.2.1,x.1.2.2.2.2.2.1,x.1.2.2.2.2.2.2.1,x.1.2.2.2.2.2.2.2.1,s.1,x.1.2.2.2.2.2.2.2.2.2),(x.2.1,s.2,x.2.2.2)))
  (fun x s=>by simp only[B,mC,mB,mS,mO,mN];kernel_rfl)
end Xir
namespace Xjt
def c:=Yao (Yai Proofs.Tryz.f99) [1,0,1,0,0,1,0,0,1,1,0,0]
def sp:SP:=⟨[(0,.pt Xh),(1,.loc 1 []),(5,.cs I64),(6,.loc 1 [.f1,.el]),(7,.cs I64)],[(1,.mem,.cd Xk)]⟩
def fr:=Yh3 sp (fun x s=>Xjt.B x.1.1 x.1.2.2.1 x.1.2.2.2.1.1 s.1 s.2) (fun x=>(x.1.2.2.2.2.1,x.2.1)) fun x (oo0:((Bool×Fs_)⊕Fs_)) _ kk0=>sel oo0 (fun bb0=>kk0 (.rt) ⟨[(4,.cs .bool bb0.1)],[(1,some ⟨.mem,.cd Xk bb0.2⟩)]⟩) (fun cc0=>kk0 (.ex 2) ⟨[(0,.pt Xh x.1.1),(1,.loc 1 []),(5,.cs I64 x.1.2.2.1)],[(1,some ⟨.mem,.cd Xk cc0⟩)]⟩)
theorem ok:Ya9 PR 90 2 (.loop c) fr:=
 Yst Xe Xf h0 (.R (.L (.one (.R (.R (.R (.R (.L (.R (.one (.fr 2))))))))))) (G:=Xby.G) Xby.Gok (L:=mkL [(2,Xir.fr)]) (l:=[(2,.loop Xir.c)]) ⟨Lam.cons Xir.ok,trivial⟩ [(2,([0,1,5],[1]))] ([4],[1]) (fun x s=>((x.1.1,x.1.2.1,x.1.2.2.1,x.1.2.2.2.1,s.1,x.1.2.2.2.2.2),(s.2,x.2.2)))
  (fun x s=>by simp only[B,mC,mB,mS,mO,mN];kernel_rfl)
end Xjt
namespace Xd4
def c:=Yao (Yai Proofs.Tryz.f99) [1,0,1,0,0]
def sp:SP:=⟨[(0,.pt Xh),(1,.loc 1 []),(5,.cs I64)],[(1,.mem,.cd Xk)]⟩
def fr:=Yh3 sp (fun x s=>Xd4.B x.1.1 s.1 s.2) (fun x=>(x.1.2.2.1,x.2.1)) fun x (oo0:((Bool×Fs_)⊕Fs_)) _ kk0=>sel oo0 (fun bb0=>kk0 (.rt) ⟨[(4,.cs .bool bb0.1)],[(1,some ⟨.mem,.cd Xk bb0.2⟩)]⟩) (fun cc0=>kk0 (.ex 0) ⟨[],[(1,some ⟨.mem,.cd Xk cc0⟩)]⟩)
theorem ok:Ya9 PR 90 2 (.loop c) fr:=
 Yst Xe Xf h0 (.R (.L (.one (.R (.R (.one (.fr 1))))))) (G:=Xby.G) Xby.Gok (L:=mkL [(2,Xir.fr),(1,Xjt.fr)]) (l:=[(1,.loop Xjt.c)]) ⟨Lam.skip rfl (Lam.cons Xjt.ok),trivial⟩ [(0,([],[1]))] ([4],[1]) (fun x s=>((x.1.1,x.1.2.1,s.1,x.1.2.2.2),(s.2,x.2.2)))
  (fun x s=>by simp only[B,mC,mB,mS,mO,mN];kernel_rfl)
end Xd4
namespace Xby
def pts:List PT:=[.pt Xh,.op (.cd Xk)]
def FS:FS:=Ycc [.sh,.mu] pts (fun x=>Xby x.1 x.2.1) fun t=>⟨[.cs .bool t.1],[.op (.cd Xk t.2)]⟩
theorem ok:Ycs PR 99 FS:=
 Ywh Xe Xf Proofs.Tryz.f99 h0 (.R (.L (.R (.one (.fr 0))))) (G:=G) Gok (L:=mkL [(2,Xir.fr),(1,Xjt.fr),(0,Xd4.fr)]) (l:=[(0,.loop Xd4.c)]) ⟨Lam.skip rfl (Lam.skip rfl (Lam.cons Xd4.ok)),trivial⟩
  (fun x=>by simp only[Xby,mC,mB,mS,mO,mN];kernel_rfl)
end Xby
def Xdu.B (v:Xd) (v5:Xbf) (v3:Int) (v4:Int) (v6:Fs_):Option ((Int×Int×Fs_)⊕((Xbf⊕(Int×Fs_)))):=
 cond (decide (v4<10)) ((Xhi v (w64 ((17:Int)+v4))).bind fun v7=>(Xia v7).bind fun v8=>cond (!v8.2) (some (.inr (.inl (5,([],[],()),())))) ((some (v6.1++([(v8.1.1,v8.1.2.1,v8.1.2.2.1,v8.1.2.2.2.1,v8.1.2.2.2.2.1,v8.1.2.2.2.2.2)]))).bind fun v9=>cond (decide (v9.length≤2147483648)) (cond (decide ((v7.length:Int)>0)) (some (.inl (w64 (v4+1),w64 (v4+1),(v9,v6.2)))) (some (.inl (v3,w64 (v4+1),(v9,v6.2))))) none)) (some (.inr (.inr (v3,v6))))
def Xdu (v:Xd) (v5:Xbf):(Int×Int×Fs_)→Option ((Xbf⊕(Int×Fs_))):=
 Yaj fun s=>Xdu.B v v5 s.1 s.2.1 s.2.2
def Xa9 (v:Xd):Option Xbf:=
 (Xio v).bind fun v2=>cond (v2.1 != 0) (some (v2.1,([],[],()),())) (cond (decide ((0:Int)≤(20:Int))&&(decide ((20:Int)≤(20:Int))&&decide ((20:Int)≤2147483648))) ((Xdu v (0,([],[],()),()) (0,0,([],List.replicate (20:Int).toNat ([]:List Int),()))).bind fun v10=>sel v10 (fun v11=>some (v11.1,(v11.2.1.1,v11.2.1.2.1,v11.2.1.2.2),v11.2.2)) (fun v12=>cond (decide ((0:Int)≤v12.1)&&decide (v12.1≤(v12.2.1.length:Int))) ((Xfo ((v12.2.1.drop 0).take (v12.1.toNat-0),v12.2.2)).bind fun v13=>cond (v13 != 0) (some (v13,([],[],()),())) ((Xby v ((v12.2.1.drop 0).take (v12.1.toNat-0),v12.2.2)).bind fun v14=>cond (!v14.1) (some (5,([],[],()),())) ((Xib v14.2).bind fun v15=>cond (v15 != 0) (some (v15,([],[],()),())) (some (0,(v14.2.1,v14.2.2.1,v14.2.2.2),()))))) none)) none)
namespace Xa9
def G:Gam:=mkG [(39,Xio.FS),(93,Xhi.FS),(98,Xia.FS),(95,Xfo.FS),(99,Xby.FS),(40,Xib.FS)]
theorem Gok:GOk PR G:=.cons Xio.ok (.cons Xhi.ok (.cons Xia.ok (.cons Xfo.ok (.cons Xby.ok (.cons Xib.ok .nil)))))
end Xa9
namespace Xdu
def c:=Yao (Yai Proofs.Tryz.f41) [1,1,1,1,0,1,0,0]
def sp:SP:=⟨[(1,.pt Xh),(2,.loc 2 []),(4,.loc 4 []),(5,.cs I64),(6,.cs I64)],[(2,.mem,.cd Xbt),(4,.mem,.cd Xk)]⟩
def fr:=Yh3 sp (fun x s=>Xdu.B x.1.1 x.2.1 s.1 s.2.1 s.2.2) (fun x=>(x.1.2.2.2.1,x.1.2.2.2.2.1,x.2.2.1)) fun x (oo0:(Xbf⊕(Int×Fs_))) _ kk0=>sel oo0 (fun bb0=>kk0 (.rt) ⟨[(2,.loc 2 [])],[(2,some ⟨.mem,.cd Xbt bb0⟩)]⟩) (fun cc0=>kk0 (.ex 0) ⟨[(1,.pt Xh x.1.1),(2,.loc 2 []),(4,.loc 4 []),(5,.cs I64 cc0.1)],[(2,some ⟨.mem,.cd Xbt x.2.1⟩),(4,some ⟨.mem,.cd Xk cc0.2⟩)]⟩)
theorem ok:Ya9 PR 68 1 (.loop c) fr:=
 Yst Xe Xf ⟨[1],[],[],0⟩ .no (G:=Xa9.G) Xa9.Gok (L:=mkL []) (l:=[]) hT [(0,([1,2,4,5],[2,4]))] ([2],[2]) (fun x s=>((x.1.1,x.1.2.1,x.1.2.2.1,s.1,s.2.1,x.1.2.2.2.2.2),(x.2.1,s.2.2,x.2.2.2)))
  (fun x s=>by simp only[B,mC,mB,mS,mO,mN];kernel_rfl)
end Xdu
namespace Xa9
def pts:List PT:=[.cs Xh]
def FS:FS:=Ycc [.sh] pts (fun x=>Xa9 x.1) fun t=>⟨[.cd Xbt t],[]⟩
theorem ok:Ycs PR 41 FS:=
 Ywh Xe Xf Proofs.Tryz.f41 ⟨[1],[],[],0⟩ (.R (.R (.R (.R (.L (.R (.one (.fr 0)))))))) (G:=G) Gok (L:=mkL [(0,Xdu.fr)]) (l:=[(0,.loop Xdu.c)]) ⟨Lam.cons Xdu.ok,trivial⟩
  (fun x=>by simp only[Xa9,mC,mB,mS,mO,mN];kernel_rfl)
end Xa9
def Xfp.B (v:Xa) (v2:Xa) (v6:Int):Option (Int⊕((Bool⊕Unit))):=
 cond (decide (v6<(v.2.2.2.2.1.length:Int))) (cond (inB v6 v.2.2.2.2.1.length) (cond (inB v6 v2.2.2.2.2.1.length) ((some (!(((v.2.2.2.2.1.getD v6.toNat Xl).1 == (v2.2.2.2.2.1.getD v6.toNat Xl).1)&&(((v.2.2.2.2.1.getD v6.toNat Xl).2.1 == (v2.2.2.2.2.1.getD v6.toNat Xl).2.1)&&true)))).bind fun v7=>cond v7 (some (.inr (.inl false))) (some (.inl (w64 (v6+1))))) none) none) (some (.inr (.inr ())))
def Xfp (v:Xa) (v2:Xa):Int→Option ((Bool⊕Unit)):=
 Yaj fun s=>Xfp.B v v2 s
def Xge (v:Xa) (v2:Xa):Option Bool:=
 (some (cond (cond (v.1 != v2.1) true (v.2.1 != v2.2.1)) true (v.2.2.1 != v2.2.2.1))).bind fun v3=>cond v3 (some false) ((Xhj v.2.2.2.1 v2.2.2.2.1).bind fun v4=>(some (cond (!v4) true ((v.2.2.2.2.1.length:Int) != (v2.2.2.2.2.1.length:Int)))).bind fun v5=>cond v5 (some false) ((Xfp v v2 0).bind fun v8=>sel v8 (fun v9=>some v9) (fun v10=>some true)))
namespace Xge
def G:Gam:=mkG [(160,Xhj.FS)]
theorem Gok:GOk PR G:=.cons Xhj.ok .nil
end Xge
namespace Xfp
def c:=Yao (Yai Proofs.Tryz.f100) [1,1,0,1,0,0]
def sp:SP:=⟨[(0,.pt Xc),(1,.pt Xc),(5,.cs I64)],[]⟩
def fr:=Yh3 sp (fun x s=>Xfp.B x.1.1 x.1.2.1 s) (fun x=>x.1.2.2.1) fun x (oo0:(Bool⊕Unit)) _ kk0=>sel oo0 (fun bb0=>kk0 (.rt) ⟨[(4,.cs .bool bb0)],[]⟩) (fun cc0=>kk0 (.ex 0) ⟨[],[]⟩)
theorem ok:Ya9 PR 86 2 (.loop c) fr:=
 Yst Xe Xf h0 .no (G:=Xge.G) Xge.Gok (L:=mkL []) (l:=[]) hT [(0,([],[]))] ([4],[]) (fun x s=>((x.1.1,x.1.2.1,s,x.1.2.2.2),x.2))
  (fun x s=>by simp only[B,mC,mB,mS,mO,mN];kernel_rfl)
end Xfp
namespace Xge
def pts:List PT:=[.pt Xc,.pt Xc]
def FS:FS:=Ycc [.sh,.sh] pts (fun x=>Xge x.1 x.2.1) fun t=>⟨[.cs .bool t],[]⟩
theorem ok:Ycs PR 100 FS:=
 Ywh Xe Xf Proofs.Tryz.f100 h0 (.R (.R (.L (.R (.one (.fr 0)))))) (G:=G) Gok (L:=mkL [(0,Xfp.fr)]) (l:=[(0,.loop Xfp.c)]) ⟨Lam.cons Xfp.ok,trivial⟩
  (fun x=>by simp only[Xge,mC,mB,mS,mO,mN];kernel_rfl)
end Xge
def Xfq.B (v:Fs_) (v2:Fs_) (v4:Int):Option (Int⊕((Bool⊕Unit))):=
 cond (decide (v4<(v.1.length:Int))) (cond (inB v4 v.1.length) (cond (inB v4 v2.1.length) ((Xge (v.1.getD v4.toNat Xb) (v2.1.getD v4.toNat Xb)).bind fun v5=>cond (!v5) (some (.inr (.inl false))) (some (.inl (w64 (v4+1))))) none) none) (some (.inr (.inr ())))
def Xfq (v:Fs_) (v2:Fs_):Int→Option ((Bool⊕Unit)):=
 Yaj fun s=>Xfq.B v v2 s
def Xdy.B (v:Fs_) (v2:Fs_) (v9:Int):Option (Int⊕((Bool⊕Unit))):=
 cond (decide (v9<(v.2.1.length:Int))) (cond (inB v9 v.2.1.length) ((some ((v.2.1.getD v9.toNat []).map fun n=>UInt8.ofNat n.toNat)).bind fun v10=>cond (inB v9 v2.2.1.length) ((some ((v2.2.1.getD v9.toNat []).map fun n=>UInt8.ofNat n.toNat)).bind fun v11=>cond (!(v10 == v11)) (some (.inr (.inl false))) (some (.inl (w64 (v9+1))))) none) none) (some (.inr (.inr ())))
def Xdy (v:Fs_) (v2:Fs_):Int→Option ((Bool⊕Unit)):=
 Yaj fun s=>Xdy.B v v2 s
def Xb7 (v:Fs_) (v2:Fs_):Option Bool:=
 (some (cond ((v.1.length:Int) != (v2.1.length:Int)) true ((v.2.1.length:Int) != (v2.2.1.length:Int)))).bind fun v3=>cond v3 (some false) ((Xfq v v2 0).bind fun v6=>sel v6 (fun v7=>some v7) (fun v8=>(Xdy v v2 0).bind fun v12=>sel v12 (fun v13=>some v13) (fun v14=>some true)))
namespace Xb7
def G:Gam:=mkG [(100,Xge.FS)]
theorem Gok:GOk PR G:=.cons Xge.ok .nil
end Xb7
namespace Xfq
def c:=Yao (Yai Proofs.Tryz.f42) [1,1,0,1,0,0]
def sp:SP:=⟨[(0,.pt Xk),(1,.pt Xk),(5,.cs I64)],[]⟩
def fr:=Yh3 sp (fun x s=>Xfq.B x.1.1 x.1.2.1 s) (fun x=>x.1.2.2.1) fun x (oo0:(Bool⊕Unit)) _ kk0=>sel oo0 (fun bb0=>kk0 (.rt) ⟨[(4,.cs .bool bb0)],[]⟩) (fun cc0=>kk0 (.ex 0) ⟨[(0,.pt Xk x.1.1),(1,.pt Xk x.1.2.1)],[]⟩)
theorem ok:Ya9 PR 80 2 (.loop c) fr:=
 Yst Xe Xf h0 .no (G:=Xb7.G) Xb7.Gok (L:=mkL []) (l:=[]) hT [(0,([0,1],[]))] ([4],[]) (fun x s=>((x.1.1,x.1.2.1,s,x.1.2.2.2),x.2))
  (fun x s=>by simp only[B,mC,mB,mS,mO,mN];kernel_rfl)
end Xfq
namespace Xdy
def c:=Yao (Yai Proofs.Tryz.f42) [1,1,1,0,1,0,0]
def sp:SP:=⟨[(0,.pt Xk),(1,.pt Xk),(6,.cs I64)],[]⟩
def fr:=Yh3 sp (fun x s=>Xdy.B x.1.1 x.1.2.1 s) (fun x=>x.1.2.2.1) fun x (oo0:(Bool⊕Unit)) _ kk0=>sel oo0 (fun bb0=>kk0 (.rt) ⟨[(4,.cs .bool bb0)],[]⟩) (fun cc0=>kk0 (.ex 2) ⟨[],[]⟩)
theorem ok:Ya9 PR 80 2 (.loop c) fr:=
 Yst Xe Xf h0 .no (G:=Xb7.G) Xb7.Gok (L:=mkL []) (l:=[]) hT [(2,([],[]))] ([4],[]) (fun x s=>((x.1.1,x.1.2.1,s,x.1.2.2.2),x.2))
  (fun x s=>by simp only[B,mC,mB,mS,mO,mN];kernel_rfl)
end Xdy
namespace Xb7
def pts:List PT:=[.pt Xk,.pt Xk]
def FS:FS:=Ycc [.sh,.sh] pts (fun x=>Xb7 x.1 x.2.1) fun t=>⟨[.cs .bool t],[]⟩
theorem ok:Ycs PR 42 FS:=
 Ywh Xe Xf Proofs.Tryz.f42 h0 (.R (.R (.two (.R (.one (.fr 0))) (.L (.R (.one (.fr 1))))))) (G:=G) Gok (L:=mkL [(0,Xfq.fr),(1,Xdy.fr)]) (l:=[(0,.loop Xfq.c),(1,.loop Xdy.c)]) ⟨Lam.cons Xfq.ok,Lam.skip rfl (Lam.cons Xdy.ok),trivial⟩
  (fun x=>by simp only[Xb7,mC,mB,mS,mO,mN];kernel_rfl)
end Xb7
def Xgr.B (v:X0) (v2:Int):Option (Int⊕((Bool⊕Unit))):=
 cond (decide (v2<20)) ((Xkm v.2.1.1 v2).bind fun v3=>cond (decide (v3>0)) ((Xkm v.2.2.1.1 v2).bind fun v4=>cond (cond (decide (v4>0)) (inB v2 v.2.1.2.1.length) true) (cond (cond (decide (v4>0)) (inB v2 v.2.2.1.2.1.length) true) ((some (cond (decide (v4>0)) (!(((v.2.1.2.1.getD v2.toNat []).map fun n=>UInt8.ofNat n.toNat) == ((v.2.2.1.2.1.getD v2.toNat []).map fun n=>UInt8.ofNat n.toNat))) false)).bind fun v5=>cond v5 (some (.inr (.inl false))) (some (.inl (w64 (v2+1))))) none) none) (cond (cond false (inB v2 v.2.1.2.1.length) true) (cond (cond false (inB v2 v.2.2.1.2.1.length) true) (some (.inl (w64 (v2+1)))) none) none)) (some (.inr (.inr ())))
def Xgr (v:X0):Int→Option ((Bool⊕Unit)):=
 Yaj fun s=>Xgr.B v s
def Xea (v:X0):Option Bool:=
 (Xgr v 0).bind fun v6=>sel v6 (fun v7=>some v7) (fun v8=>some true)
namespace Xea
def G:Gam:=mkG [(101,Xkm.FS)]
theorem Gok:GOk PR G:=.cons Xkm.ok .nil
end Xea
namespace Xgr
def c:=Yao (Yai Proofs.Tryz.f43) [1,0,1,0,0]
def sp:SP:=⟨[(0,.pt Xp),(3,.cs I64)],[]⟩
def fr:=Yh3 sp (fun x s=>Xgr.B x.1.1 s) (fun x=>x.1.2.1) fun x (oo0:(Bool⊕Unit)) _ kk0=>sel oo0 (fun bb0=>kk0 (.rt) ⟨[(2,.cs .bool bb0)],[]⟩) (fun cc0=>kk0 (.ex 0) ⟨[],[]⟩)
theorem ok:Ya9 PR 49 1 (.loop c) fr:=
 Yst Xe Xf h0 .no (G:=Xea.G) Xea.Gok (L:=mkL []) (l:=[]) hT [(0,([],[]))] ([2],[]) (fun x s=>((x.1.1,s,x.1.2.2),x.2))
  (fun x s=>by simp only[B,mC,mB,mS,mO,mN];kernel_rfl)
end Xgr
namespace Xea
def pts:List PT:=[.pt Xp]
def FS:FS:=Ycc [.sh] pts (fun x=>Xea x.1) fun t=>⟨[.cs .bool t],[]⟩
theorem ok:Ycs PR 43 FS:=
 Ywh Xe Xf Proofs.Tryz.f43 h0 (.R (.L (.R (.one (.fr 0))))) (G:=G) Gok (L:=mkL [(0,Xgr.fr)]) (l:=[(0,.loop Xgr.c)]) ⟨Lam.cons Xgr.ok,trivial⟩
  (fun x=>by simp only[Xea,mC,mB,mS,mO,mN];kernel_rfl)
end Xea
def Xjz (v:X0):Option Int:=
 (Xio v.1).bind fun v2=>cond (v2.1 != 0) (some v2.1) ((Xib v.2.1).bind fun v3=>cond (v3 != 0) (some v3) ((Xib v.2.2.1).bind fun v4=>cond (v4 != 0) (some v4) (cond (decide ((v.1.2.1.length:Int)>0)) (some 1) ((Xa9 v.1).bind fun v5=>cond (v5.1 != 0) (some 10) ((Xb7 (v5.2.1.1,v5.2.1.2.1,v5.2.1.2.2) v.2.2.1).bind fun v6=>cond (!v6) (some 10) ((Xea v).bind fun v7=>cond (!v7) (some 10) (some 0)))))))
namespace Xjz
def G:Gam:=mkG [(39,Xio.FS),(40,Xib.FS),(41,Xa9.FS),(42,Xb7.FS),(43,Xea.FS)]
def pts:List PT:=[.pt Xp]
def FS:FS:=Ycc [.sh] pts (fun x=>Xjz x.1) fun t=>⟨[.cs I64 t],[]⟩
theorem ok:Ycs PR 15 FS:=
 Ywh Xe Xf Proofs.Tryz.f15 h0 .no (G:=G) (show GOk PR G from .cons Xio.ok (.cons Xib.ok (.cons Xa9.ok (.cons Xb7.ok (.cons Xea.ok .nil))))) (L:=mkL []) (l:=[]) hT
  (fun x=>by simp only[Xjz,mC,mB,mS,mO,mN];kernel_rfl)
end Xjz
def Xgw.B (v:Fs_) (v2:Int) (v3:List Xj):Option ((Int×List Xj)⊕(List Xj)):=
 cond (decide (v2<10)) (cond (decide (v2<(v.1.length:Int))) (cond (inB v2 v.1.length) ((Xis (v.1.getD v2.toNat Xb)).bind fun v4=>cond (decide ((v3++([(w64 ((17:Int)+v2),v4,())])).length≤2147483648)) (some (.inl (w64 (v2+1),v3++([(w64 ((17:Int)+v2),v4,())])))) none) none) (cond (decide ((v3++([(w64 ((17:Int)+v2),[],())])).length≤2147483648)) (some (.inl (w64 (v2+1),v3++([(w64 ((17:Int)+v2),[],())])))) none)) (some (.inr v3))
def Xgw (v:Fs_):(Int×List Xj)→Option (List Xj):=
 Yaj fun s=>Xgw.B v s.1 s.2
def Xfj (v:Fs_):Option (List Xj):=
 (Xgw v (0,[])).bind fun v5=>some v5
namespace Xfj
def G:Gam:=mkG [(161,Xis.FS)]
theorem Gok:GOk PR G:=.cons Xis.ok .nil
end Xfj
namespace Xgw
def c:=Yao (Yai Proofs.Tryz.f103) [1,1,0,1,0,0]
def sp:SP:=⟨[(0,.pt Xk),(3,.seg 3 []),(4,.cs I64)],[(3,.reg,.cd (.sl Xm))]⟩
def fr:=Yh3 sp (fun x s=>Xgw.B x.1.1 s.1 s.2) (fun x=>(x.1.2.2.1,x.2.1)) fun x (bb0:List Xj) _ kk0=>kk0 (.ex 0) ⟨[(3,.seg 3 [])],[sr 3 (.cd (.sl Xm) bb0)]⟩
theorem ok:Ya9 PR 35 1 (.loop c) fr:=
 Ywi Xe Xf h0 (G:=Xfj.G) Xfj.Gok [(0,([3],[3]))] (fun x s=>((x.1.1,x.1.2.1,s.1,x.1.2.2.2),(s.2,x.2.2)))
  (fun x s=>by simp only[B,mC,mB,mS,mO,mN];kernel_rfl)
end Xgw
namespace Xfj
def pts:List PT:=[.pt Xk]
def FS:FS:=Ycc [.sh] pts (fun x=>Xfj x.1) fun t=>⟨[.cd (.sl Xm) t],[]⟩
theorem ok:Ycs PR 103 FS:=
 Ywh Xe Xf Proofs.Tryz.f103 h0 (.R (.R (.L (.R (.one (.fr 0)))))) (G:=G) Gok (L:=mkL [(0,Xgw.fr)]) (l:=[(0,.loop Xgw.c)]) ⟨Lam.cons Xgw.ok,trivial⟩
  (fun x=>by simp only[Xfj,mC,mB,mS,mO,mN];kernel_rfl)
end Xfj
def Xeg.B (v:Xd) (v2:List Xj) (v3:Int) (v4:List Xj):Option ((Int×List Xj)⊕(List Xj)):=
 cond (decide (v3<(v2.length:Int))) (cond (inB v3 v2.length) ((Xhi v (v2.getD v3.toNat Xv).1).bind fun v5=>cond (inB v3 v2.length) ((Xhj v5 (v2.getD v3.toNat Xv).2.1).bind fun v6=>cond (!v6) (cond (inB v3 v2.length) (cond (inB v3 v2.length) ((Xas (v2.getD v3.toNat Xv).2.1).bind fun v7=>cond (decide ((v4++([((v2.getD v3.toNat Xv).1,v7,())])).length≤2147483648)) (some (.inl (w64 (v3+1),v4++([((v2.getD v3.toNat Xv).1,v7,())])))) none) none) none) (some (.inl (w64 (v3+1),v4)))) none) none) (some (.inr v4))
def Xeg (v:Xd) (v2:List Xj):(Int×List Xj)→Option (List Xj):=
 Yaj fun s=>Xeg.B v v2 s.1 s.2
def Xdj (v:Xd) (v2:List Xj):Option (List Xj):=
 (Xeg v v2 (0,[])).bind fun v8=>some v8
namespace Xdj
def G:Gam:=mkG [(93,Xhi.FS),(160,Xhj.FS),(106,Xas.FS)]
theorem Gok:GOk PR G:=.cons Xhi.ok (.cons Xhj.ok (.cons Xas.ok .nil))
end Xdj
namespace Xeg
def c:=Yao (Yai Proofs.Tryz.f102) [1,1,0,1,0,0]
def sp:SP:=⟨[(0,.pt Xh),(1,.cs (.sl Xm)),(5,.seg 5 []),(6,.cs I64)],[(5,.reg,.cd (.sl Xm))]⟩
def fr:=Yh3 sp (fun x s=>Xeg.B x.1.1 x.1.2.1 s.1 s.2) (fun x=>(x.1.2.2.2.1,x.2.1)) fun x (bb0:List Xj) _ kk0=>kk0 (.ex 0) ⟨[(5,.seg 5 [])],[sr 5 (.cd (.sl Xm) bb0)]⟩
theorem ok:Ya9 PR 44 2 (.loop c) fr:=
 Ywi Xe Xf h0 (G:=Xdj.G) Xdj.Gok [(0,([5],[5]))] (fun x s=>((x.1.1,x.1.2.1,x.1.2.2.1,s.1,x.1.2.2.2.2),(s.2,x.2.2)))
  (fun x s=>by simp only[B,mC,mB,mS,mO,mN];kernel_rfl)
end Xeg
namespace Xdj
def pts:List PT:=[.pt Xh,.cs (.sl Xm)]
def FS:FS:=Ycc [.sh,.sh] pts (fun x=>Xdj x.1 x.2.1) fun t=>⟨[.cd (.sl Xm) t],[]⟩
theorem ok:Ycs PR 102 FS:=
 Ywh Xe Xf Proofs.Tryz.f102 h0 (.R (.R (.L (.R (.one (.fr 0)))))) (G:=G) Gok (L:=mkL [(0,Xeg.fr)]) (l:=[(0,.loop Xeg.c)]) ⟨Lam.cons Xeg.ok,trivial⟩
  (fun x=>by simp only[Xdj,mC,mB,mS,mO,mN];kernel_rfl)
end Xdj
def Xcv.B (v:Fs_) (v3:Int) (v4:List Xj) (v5:List Int) (v6:Bool) (v7:Unit) (v8:Int) (v9:Xj):Option ((Int×Xj)⊕Xj):=
 cond (inB v3 v5.length) (cond (inB (v5.getD v3.toNat 0) v.2.1.length) ((some ((v.2.1.getD (v5.getD v3.toNat 0).toNat []).length:Int)).bind fun v10=>cond (decide (v8<v10)) (cond (inB v3 v5.length) (cond (inB (v5.getD v3.toNat 0) v.2.1.length) (cond (inB v8 ((v.2.1.getD (v5.getD v3.toNat 0).toNat []).length)) ((some ((v.2.1.getD (v5.getD v3.toNat 0).toNat []).getD v8.toNat 0)).bind fun v11=>cond (decide ((v9.2.1++([w64 v11])).length≤2147483648)) (some (.inl (w64 (v8+1),(v9.1,v9.2.1++([w64 v11]),v9.2.2)))) none) none) none) none) (some (.inr v9))) none) none
def Xcv (v:Fs_) (v3:Int) (v4:List Xj) (v5:List Int) (v6:Bool) (v7:Unit):(Int×Xj)→Option Xj:=
 Yaj fun s=>Xcv.B v v3 v4 v5 v6 v7 s.1 s.2
def Xfz.B (v:Fs_) (v5:List Int) (v6:Bool) (v7:Unit) (v3:Int) (v4:List Xj):Option ((Int×List Xj)⊕(List Xj)):=
 cond (decide (v3<(v5.length:Int))) (cond (inB v3 v5.length) ((Xcv v v3 v4 v5 v6 v7 (0,(w64 ((27:Int)+(v5.getD v3.toNat 0)),[],()))).bind fun v12=>cond (decide ((v4++([(v12.1,v12.2.1,v12.2.2)])).length≤2147483648)) (some (.inl (w64 (v3+1),v4++([(v12.1,v12.2.1,v12.2.2)])))) none) none) (some (.inr v4))
def Xfz (v:Fs_) (v5:List Int) (v6:Bool) (v7:Unit):(Int×List Xj)→Option (List Xj):=
 Yaj fun s=>Xfz.B v v5 v6 v7 s.1 s.2
def Xco (v:Fs_):Option (List Xj):=
 (Xh8 v.1).bind fun v2=>(Xfz v v2.1 v2.2 () (0,[])).bind fun v13=>some v13
namespace Xco
def G:Gam:=mkG [(153,Xh8.FS)]
theorem Gok:GOk PR G:=.cons Xh8.ok .nil
end Xco
namespace Xcv
def c:=Yao (Yai Proofs.Tryz.f105) [1,1,1,0,1,0,0,1,0,0,1,0,1,0,0]
def sp:SP:=⟨[(0,.pt Xk),(3,.seg 3 []),(4,.seg 15 [.f1]),(6,.cs I64),(7,.loc 7 []),(8,.cs I64)],[(3,.reg,.cd (.sl Xm)),(7,.mem,.cd Xm),(15,.reg,.pr (.cd SI) (.pr (.cs .bool) (.cs .unit)))]⟩
def fr:=Yh3 sp (fun x s=>Xcv.B x.1.1 x.1.2.2.2.1 x.2.1 x.2.2.2.1.1 x.2.2.2.1.2.1 x.2.2.2.1.2.2 s.1 s.2) (fun x=>(x.1.2.2.2.2.2.1,x.2.2.1)) fun x (bb0:Xj) _ kk0=>kk0 (.ex 2) ⟨[(0,.pt Xk x.1.1),(3,.seg 3 []),(4,.seg 15 [.f1]),(6,.cs I64 x.1.2.2.2.1),(7,.loc 7 [])],[sr 3 (.cd (.sl Xm) x.2.1),(7,some ⟨.mem,.cd Xm bb0⟩),(15,some ⟨.reg,.pr (.cd SI x.2.2.2.1.1) (.pr (.cs .bool x.2.2.2.1.2.1) (.cs .unit x.2.2.2.1.2.2))⟩)]⟩
theorem ok:Ya9 PR 69 1 (.loop c) fr:=
 Ywi Xe Xf h0 (G:=Xco.G) Xco.Gok [(2,([0,3,4,6,7],[3,7,15]))] (fun x s=>((x.1.1,x.1.2.1,x.1.2.2.1,x.1.2.2.2.1,x.1.2.2.2.2.1,s.1,x.1.2.2.2.2.2.2),(x.2.1,s.2,x.2.2.2)))
  (fun x s=>by simp only[B,mC,mB,mS,mO,mN];kernel_rfl)
end Xcv
namespace Xfz
def c:=Yao (Yai Proofs.Tryz.f105) [1,1,1,0,1,0,0]
def sp:SP:=⟨[(0,.pt Xk),(3,.seg 3 []),(4,.seg 15 [.f1]),(6,.cs I64)],[(3,.reg,.cd (.sl Xm)),(15,.reg,.pr (.cd SI) (.pr (.cs .bool) (.cs .unit)))]⟩
def fr:=Yh3 sp (fun x s=>Xfz.B x.1.1 x.2.2.1.1 x.2.2.1.2.1 x.2.2.1.2.2 s.1 s.2) (fun x=>(x.1.2.2.2.1,x.2.1)) fun x (bb0:List Xj) _ kk0=>kk0 (.ex 0) ⟨[(3,.seg 3 [])],[sr 3 (.cd (.sl Xm) bb0)]⟩
theorem ok:Ya9 PR 69 1 (.loop c) fr:=
 Ywl Xe Xf h0 (.R (.L (.one (.R (.L (.R (.one (.fr 1)))))))) (G:=Xco.G) Xco.Gok (L:=mkL [(1,Xcv.fr)]) (l:=[(1,.loop Xcv.c)]) ⟨Lam.cons Xcv.ok,trivial⟩ [(0,([3],[3]))] (fun x s=>((x.1.1,x.1.2.1,x.1.2.2.1,s.1,x.1.2.2.2.2),(s.2,x.2.2)))
  (fun x s=>by simp only[B,mC,mB,mS,mO,mN];kernel_rfl)
end Xfz
namespace Xco
def pts:List PT:=[.pt Xk]
def FS:FS:=Ycc [.sh] pts (fun x=>Xco x.1) fun t=>⟨[.cd (.sl Xm) t],[]⟩
theorem ok:Ycs PR 105 FS:=
 Ywh Xe Xf Proofs.Tryz.f105 h0 (.R (.R (.R (.L (.R (.one (.fr 0))))))) (G:=G) Gok (L:=mkL [(1,Xcv.fr),(0,Xfz.fr)]) (l:=[(0,.loop Xfz.c)]) ⟨Lam.skip rfl (Lam.cons Xfz.ok),trivial⟩
  (fun x=>by simp only[Xco,mC,mB,mS,mO,mN];kernel_rfl)
end Xco
def Xfk.B (v:List Xj) (v2:Int) (v3:List Xr):Option ((Int×List Xr)⊕(List Xr)):=
 cond (decide (v2<(v.length:Int))) (cond (inB v2 v.length) (cond (inB v2 v.length) ((Xas (v.getD v2.toNat Xv).2.1).bind fun v4=>(some (v3++([(false,(v.getD v2.toNat Xv).1,v4,())]))).bind fun v5=>cond (decide (v5.length≤2147483648)) (some (.inl (w64 (v2+1),v5))) none) none) none) (some (.inr v3))
def Xfk (v:List Xj):(Int×List Xr)→Option (List Xr):=
 Yaj fun s=>Xfk.B v s.1 s.2
def Xdp (v:List Xj):Option (List Xr):=
 (Xfk v (0,[])).bind fun v6=>some v6
namespace Xdp
def G:Gam:=mkG [(106,Xas.FS)]
theorem Gok:GOk PR G:=.cons Xas.ok .nil
end Xdp
namespace Xfk
def c:=Yao (Yai Proofs.Tryz.f104) [1,1,0,1,0,0]
def sp:SP:=⟨[(0,.cs (.sl Xm)),(3,.seg 3 []),(4,.cs I64)],[(3,.reg,.cd (.sl X6))]⟩
def fr:=Yh3 sp (fun x s=>Xfk.B x.1.1 s.1 s.2) (fun x=>(x.1.2.2.1,x.2.1)) fun x (bb0:List Xr) _ kk0=>kk0 (.ex 0) ⟨[(3,.seg 3 [])],[sr 3 (.cd (.sl X6) bb0)]⟩
theorem ok:Ya9 PR 28 1 (.loop c) fr:=
 Ywi Xe Xf h0 (G:=Xdp.G) Xdp.Gok [(0,([3],[3]))] (fun x s=>((x.1.1,x.1.2.1,s.1,x.1.2.2.2),(s.2,x.2.2)))
  (fun x s=>by simp only[B,mC,mB,mS,mO,mN];kernel_rfl)
end Xfk
namespace Xdp
def pts:List PT:=[.cs (.sl Xm)]
def FS:FS:=Ycc [.sh] pts (fun x=>Xdp x.1) fun t=>⟨[.cd (.sl X6) t],[]⟩
theorem ok:Ycs PR 104 FS:=
 Ywh Xe Xf Proofs.Tryz.f104 h0 (.R (.R (.L (.R (.one (.fr 0)))))) (G:=G) Gok (L:=mkL [(0,Xfk.fr)]) (l:=[(0,.loop Xfk.c)]) ⟨Lam.cons Xfk.ok,trivial⟩
  (fun x=>by simp only[Xdp,mC,mB,mS,mO,mN];kernel_rfl)
end Xdp
def Xld (v:Int):Option (List Xr):=
 some ([(true,0,[],()),(false,0,[7,w64 (v+1)],()),(true,0,[],())])
namespace Xld
def pts:List PT:=[.cs I64]
def FS:FS:=Ycc [.sh] pts (fun x=>Xld x.1) fun t=>⟨[.cd (.sl X6) t],[]⟩
theorem ok:Ycs PR 107 FS:=
 Ywh Xe Xf Proofs.Tryz.f107 h0 .no (G:=(mkG [])) .nil (L:=mkL []) (l:=[]) hT
  (fun x=>by simp only[Xld,mC,mB,mS,mO,mN];kernel_rfl)
end Xld
def Xe1.B (v3:Int) (v9:Int) (v5:List Xj) (v11:List Xr) (v10:Int) (v12:List Int):Option ((Int×List Int)⊕(List Int)):=
 cond (decide (v10<(v5.length:Int))) (cond (inB v10 v5.length) (cond (decide ((v12++([(v5.getD v10.toNat Xv).1])).length≤2147483648)) (some (.inl (w64 (v10+1),v12++([(v5.getD v10.toNat Xv).1])))) none) none) (some (.inr v12))
def Xe1 (v3:Int) (v9:Int) (v5:List Xj) (v11:List Xr):(Int×List Int)→Option (List Int):=
 Yaj fun s=>Xe1.B v3 v9 v5 v11 s.1 s.2
def Xfn.B (v3:Int) (v15:Int) (v5:List Xj) (v16:Int) (v17:List Xr):Option ((Int×List Xr)⊕(List Xr)):=
 cond (decide (v16<(v5.length:Int))) (cond (inB v16 v5.length) ((Xas (v5.getD v16.toNat Xv).2.1).bind fun v18=>(some (v17++([(false,w64 ((2:Int)+v16),v18,())]))).bind fun v19=>cond (decide (v19.length≤2147483648)) (some (.inl (w64 (v16+1),v19))) none) none) (some (.inr v17))
def Xfn (v3:Int) (v15:Int) (v5:List Xj):(Int×List Xr)→Option (List Xr):=
 Yaj fun s=>Xfn.B v3 v15 v5 s.1 s.2
def Xck (v:Xd) (v2:Fs_) (v3:Int):Option (List Xr):=
 (Xfj v2).bind fun v4=>(Xdj v v4).bind fun v5=>cond ((v5.length:Int) == 0) (some []) ((Xco v2).bind fun v6=>(Xdj v v6).bind fun v7=>(Xdp v7).bind fun v8=>cond (decide ((v8++([(true,0,[],())])).length≤2147483648)) ((Xe1 v3 (v5.length:Int) v5 (v8++([(true,0,[],())])) (0,[1,v3,(v5.length:Int)])).bind fun v13=>(some ((v8++([(true,0,[],())]))++([(false,1,v13,())]))).bind fun v14=>cond (decide (v14.length≤2147483648)) ((Xfn v3 (v5.length:Int) v5 (0,v14)).bind fun v20=>(some (v20++([(true,0,[],()),(false,w64 ((2:Int)+(v5.length:Int)),[2,v3,(v5.length:Int)],()),(true,0,[],())]))).bind fun v21=>cond (decide (v21.length≤2147483648)) ((Xdp v5).bind fun v22=>cond (decide ((v21++v22).length≤2147483648)) ((Xld v3).bind fun v23=>cond (decide (((v21++v22)++v23).length≤2147483648)) (some ((v21++v22)++v23)) none) none) none) none) none)
namespace Xck
def G:Gam:=mkG [(103,Xfj.FS),(102,Xdj.FS),(105,Xco.FS),(104,Xdp.FS),(106,Xas.FS),(107,Xld.FS)]
theorem Gok:GOk PR G:=.cons Xfj.ok (.cons Xdj.ok (.cons Xco.ok (.cons Xdp.ok (.cons Xas.ok (.cons Xld.ok .nil)))))
end Xck
namespace Xe1
def c:=Yao (Yai Proofs.Tryz.f44) [1,1,1,1,1,1,0,1,0,0]
def sp:SP:=⟨[(2,.cs I64),(7,.seg 7 []),(8,.cs I64),(9,.seg 9 []),(10,.seg 10 []),(11,.cs I64)],[(7,.reg,.cd (.sl Xm)),(9,.reg,.cd (.sl X6)),(10,.reg,.cd SI)]⟩
def fr:=Yh3 sp (fun x s=>Xe1.B x.1.1 x.1.2.2.1 x.2.1 x.2.2.1 s.1 s.2) (fun x=>(x.1.2.2.2.2.2.1,x.2.2.2.1)) fun x (bb0:List Int) _ kk0=>kk0 (.ex 0) ⟨[(2,.cs I64 x.1.1),(7,.seg 7 []),(8,.cs I64 x.1.2.2.1),(9,.seg 9 []),(10,.seg 10 [])],[sr 7 (.cd (.sl Xm) x.2.1),sr 9 (.cd (.sl X6) x.2.2.1),sr 10 (.cd SI bb0)]⟩
theorem ok:Ya9 PR 90 3 (.loop c) fr:=
 Ywi Xe Xf h0 (G:=Xck.G) Xck.Gok [(0,([2,7,8,9,10],[7,9,10]))] (fun x s=>((x.1.1,x.1.2.1,x.1.2.2.1,x.1.2.2.2.1,x.1.2.2.2.2.1,s.1,x.1.2.2.2.2.2.2),(x.2.1,x.2.2.1,s.2,x.2.2.2.2)))
  (fun x s=>by simp only[B,mC,mB,mS,mO,mN];kernel_rfl)
end Xe1
namespace Xfn
def c:=Yao (Yai Proofs.Tryz.f44) [1,1,1,1,1,1,1,1,0,1,0,0]
def sp:SP:=⟨[(2,.cs I64),(7,.seg 7 []),(8,.cs I64),(9,.seg 9 []),(12,.cs I64)],[(7,.reg,.cd (.sl Xm)),(9,.reg,.cd (.sl X6))]⟩
def fr:=Yh3 sp (fun x s=>Xfn.B x.1.1 x.1.2.2.1 x.2.1 s.1 s.2) (fun x=>(x.1.2.2.2.2.1,x.2.2.1)) fun x (bb0:List Xr) _ kk0=>kk0 (.ex 2) ⟨[(2,.cs I64 x.1.1),(7,.seg 7 []),(8,.cs I64 x.1.2.2.1),(9,.seg 9 [])],[sr 7 (.cd (.sl Xm) x.2.1),sr 9 (.cd (.sl X6) bb0)]⟩
theorem ok:Ya9 PR 90 3 (.loop c) fr:=
 Ywi Xe Xf h0 (G:=Xck.G) Xck.Gok [(2,([2,7,8,9],[7,9]))] (fun x s=>((x.1.1,x.1.2.1,x.1.2.2.1,x.1.2.2.2.1,s.1,x.1.2.2.2.2.2),(x.2.1,s.2,x.2.2.2)))
  (fun x s=>by simp only[B,mC,mB,mS,mO,mN];kernel_rfl)
end Xfn
namespace Xck
def pts:List PT:=[.pt Xh,.pt Xk,.cs I64]
def FS:FS:=Ycc [.sh,.sh,.sh] pts (fun x=>Xck x.1 x.2.1 x.2.2.1) fun t=>⟨[.cd (.sl X6) t],[]⟩
theorem ok:Ycs PR 44 FS:=
 Ywh Xe Xf Proofs.Tryz.f44 h0 (.R (.R (.R (.R (.R (.R (.two (.R (.one (.fr 0))) (.R (.L (.R (.one (.fr 1)))))))))))) (G:=G) Gok (L:=mkL [(0,Xe1.fr),(1,Xfn.fr)]) (l:=[(0,.loop Xe1.c),(1,.loop Xfn.c)]) ⟨Lam.cons Xe1.ok,Lam.skip rfl (Lam.cons Xfn.ok),trivial⟩
  (fun x=>by simp only[Xck,mC,mB,mS,mO,mN];kernel_rfl)
end Xck
def Xj8 (v:Xd) (v2:Fs_):Option Xjr:=
 (Xio v).bind fun v3=>cond (v3.1 != 0) (some (v3.1,[],())) ((Xib v2).bind fun v4=>cond (v4 != 0) (some (v4,[],())) (cond (decide (v3.2.1≥60000)) (some (8,[],())) ((Xck v v2 v3.2.1).bind fun v5=>some (0,v5,()))))
namespace Xj8
def G:Gam:=mkG [(39,Xio.FS),(40,Xib.FS),(44,Xck.FS)]
def pts:List PT:=[.cs Xh,.cs Xk]
def FS:FS:=Ycc [.sh,.sh] pts (fun x=>Xj8 x.1 x.2.1) fun t=>⟨[.cd Xdx t],[]⟩
theorem ok:Ycs PR 16 FS:=
 Ywh Xe Xf Proofs.Tryz.f16 ⟨[2,3],[],[],0⟩ .no (G:=G) (show GOk PR G from .cons Xio.ok (.cons Xib.ok (.cons Xck.ok .nil))) (L:=mkL []) (l:=[]) hT
  (fun x=>by simp only[Xj8,mC,mB,mS,mO,mN];kernel_rfl)
end Xj8
def Xjg (v:Xr):Option Int:=
 (some (cond v.1 (cond (v.2.1 != 0) true (decide ((v.2.2.1.length:Int)>0))) false)).bind fun v2=>cond v2 (some 1) ((Xa7 v.2.1 0 46).bind fun v3=>cond (!v3) (some 3) ((Xd8 v.2.2.1).bind fun v4=>some v4))
namespace Xjg
def G:Gam:=mkG [(109,Xa7.FS),(108,Xd8.FS)]
def pts:List PT:=[.cs X6]
def FS:FS:=Ycc [.sh] pts (fun x=>Xjg x.1) fun t=>⟨[.cs I64 t],[]⟩
theorem ok:Ycs PR 110 FS:=
 Ywh Xe Xf Proofs.Tryz.f110 ⟨[1],[],[],0⟩ .no (G:=G) (show GOk PR G from .cons Xa7.ok (.cons Xd8.ok .nil)) (L:=mkL []) (l:=[]) hT
  (fun x=>by simp only[Xjg,mC,mB,mS,mO,mN];kernel_rfl)
end Xjg
def Xg2.B (v:List Xr) (v2:Int):Option (Int⊕((Int⊕Unit))):=
 cond (decide (v2<(v.length:Int))) (cond (inB v2 v.length) ((Xjg (v.getD v2.toNat Xiu)).bind fun v3=>cond (v3 != 0) (some (.inr (.inl v3))) (some (.inl (w64 (v2+1))))) none) (some (.inr (.inr ())))
def Xg2 (v:List Xr):Int→Option ((Int⊕Unit)):=
 Yaj fun s=>Xg2.B v s
def Xgc (v:List Xr):Option Int:=
 cond (decide ((v.length:Int)>120)) (some 2) ((Xg2 v 0).bind fun v4=>sel v4 (fun v5=>some v5) (fun v6=>some 0))
namespace Xgc
def G:Gam:=mkG [(110,Xjg.FS)]
theorem Gok:GOk PR G:=.cons Xjg.ok .nil
end Xgc
namespace Xg2
def c:=Yao (Yai Proofs.Tryz.f46) [1,1,0,1,0,0]
def sp:SP:=⟨[(0,.cs (.sl X6)),(3,.cs I64)],[]⟩
def fr:=Yh3 sp (fun x s=>Xg2.B x.1.1 s) (fun x=>x.1.2.1) fun x (oo0:(Int⊕Unit)) _ kk0=>sel oo0 (fun bb0=>kk0 (.rt) ⟨[(2,.cs I64 bb0)],[]⟩) (fun cc0=>kk0 (.ex 0) ⟨[],[]⟩)
theorem ok:Ya9 PR 22 1 (.loop c) fr:=
 Yst Xe Xf h0 .no (G:=Xgc.G) Xgc.Gok (L:=mkL []) (l:=[]) hT [(0,([],[]))] ([2],[]) (fun x s=>((x.1.1,s,x.1.2.2),x.2))
  (fun x s=>by simp only[B,mC,mB,mS,mO,mN];kernel_rfl)
end Xg2
namespace Xgc
def pts:List PT:=[.cs (.sl X6)]
def FS:FS:=Ycc [.sh] pts (fun x=>Xgc x.1) fun t=>⟨[.cs I64 t],[]⟩
theorem ok:Ycs PR 46 FS:=
 Ywh Xe Xf Proofs.Tryz.f46 h0 (.R (.R (.L (.R (.one (.fr 0)))))) (G:=G) Gok (L:=mkL [(0,Xg2.fr)]) (l:=[(0,.loop Xg2.c)]) ⟨Lam.cons Xg2.ok,trivial⟩
  (fun x=>by simp only[Xgc,mC,mB,mS,mO,mN];kernel_rfl)
end Xgc
def Xdz.B (v:Xd) (v3:Xd) (v2:Int) (v4:Xd):Option ((Int×Xd)⊕Xd):=
 cond (decide (v2<(v.1.length:Int))) (cond (inB v2 v.1.length) ((Xas (v.1.getD v2.toNat [])).bind fun v5=>cond (decide ((v4.1++([v5])).length≤2147483648)) (some (.inl (w64 (v2+1),(v4.1++([v5]),v4.2)))) none) none) (some (.inr v4))
def Xdz (v:Xd) (v3:Xd):(Int×Xd)→Option Xd:=
 Yaj fun s=>Xdz.B v v3 s.1 s.2
def Xga.B (v:Xd) (v8:Xd) (v7:Int) (v9:Xd):Option ((Int×Xd)⊕Xd):=
 cond (decide (v7<(v.2.1.length:Int))) (cond (inB v7 v.2.1.length) (cond (inB v7 v.2.1.length) ((Xas (v.2.1.getD v7.toNat Xv).2.1).bind fun v10=>(some (v9.2.1++([((v.2.1.getD v7.toNat Xv).1,v10,())]))).bind fun v11=>cond (decide (v11.length≤2147483648)) (some (.inl (w64 (v7+1),(v9.1,v11,v9.2.2)))) none) none) none) (some (.inr v9))
def Xga (v:Xd) (v8:Xd):(Int×Xd)→Option Xd:=
 Yaj fun s=>Xga.B v v8 s.1 s.2
def Xba (v:Xd):Option Xd:=
 (Xdz v ([],[],()) (0,([],[],()))).bind fun v6=>(Xga v ([],[],()) (0,v6)).bind fun v12=>some (v12.1,v12.2.1,v12.2.2)
namespace Xba
def G:Gam:=mkG [(106,Xas.FS)]
theorem Gok:GOk PR G:=.cons Xas.ok .nil
end Xba
namespace Xdz
def c:=Yao (Yai Proofs.Tryz.f111) [1,1,0,1,0,0]
def sp:SP:=⟨[(1,.pt Xh),(2,.loc 2 []),(3,.loc 3 []),(4,.cs I64)],[(2,.mem,.cd Xh),(3,.mem,.cd Xh)]⟩
def fr:=Yh3 sp (fun x s=>Xdz.B x.1.1 x.2.1 s.1 s.2) (fun x=>(x.1.2.2.2.1,x.2.2.1)) fun x (bb0:Xd) _ kk0=>kk0 (.ex 0) ⟨[(1,.pt Xh x.1.1),(2,.loc 2 []),(3,.loc 3 [])],[(2,some ⟨.mem,.cd Xh x.2.1⟩),(3,some ⟨.mem,.cd Xh bb0⟩)]⟩
theorem ok:Ya9 PR 52 1 (.loop c) fr:=
 Ywi Xe Xf ⟨[1],[],[],0⟩ (G:=Xba.G) Xba.Gok [(0,([1,2,3],[2,3]))] (fun x s=>((x.1.1,x.1.2.1,x.1.2.2.1,s.1,x.1.2.2.2.2),(x.2.1,s.2,x.2.2.2)))
  (fun x s=>by simp only[B,mC,mB,mS,mO,mN];kernel_rfl)
end Xdz
namespace Xga
def c:=Yao (Yai Proofs.Tryz.f111) [1,1,1,0,1,0,0]
def sp:SP:=⟨[(1,.pt Xh),(2,.loc 2 []),(3,.loc 3 []),(5,.cs I64)],[(2,.mem,.cd Xh),(3,.mem,.cd Xh)]⟩
def fr:=Yh3 sp (fun x s=>Xga.B x.1.1 x.2.1 s.1 s.2) (fun x=>(x.1.2.2.2.1,x.2.2.1)) fun x (bb0:Xd) _ kk0=>kk0 (.ex 2) ⟨[(2,.loc 2 []),(3,.loc 3 [])],[(2,some ⟨.mem,.cd Xh x.2.1⟩),(3,some ⟨.mem,.cd Xh bb0⟩)]⟩
theorem ok:Ya9 PR 52 1 (.loop c) fr:=
 Ywi Xe Xf ⟨[1],[],[],0⟩ (G:=Xba.G) Xba.Gok [(2,([2,3],[2,3]))] (fun x s=>((x.1.1,x.1.2.1,x.1.2.2.1,s.1,x.1.2.2.2.2),(x.2.1,s.2,x.2.2.2)))
  (fun x s=>by simp only[B,mC,mB,mS,mO,mN];kernel_rfl)
end Xga
namespace Xba
def pts:List PT:=[.cs Xh]
def FS:FS:=Ycc [.sh] pts (fun x=>Xba x.1) fun t=>⟨[.cd Xh t],[]⟩
theorem ok:Ycs PR 111 FS:=
 Ywh Xe Xf Proofs.Tryz.f111 ⟨[1],[],[],0⟩ (.R (.R (.two (.R (.one (.fr 0))) (.L (.R (.one (.fr 1))))))) (G:=G) Gok (L:=mkL [(0,Xdz.fr),(1,Xga.fr)]) (l:=[(0,.loop Xdz.c),(1,.loop Xga.c)]) ⟨Lam.cons Xdz.ok,Lam.skip rfl (Lam.cons Xga.ok),trivial⟩
  (fun x=>by simp only[Xba,mC,mB,mS,mO,mN];kernel_rfl)
end Xba
def Xcp.B (v2:List Bool) (v3:Bool) (v:Xd) (v6:Xd) (v5:Int) (v7:Xd):Option ((Int×Xd)⊕Xd):=
 cond (decide (v5<(v.2.1.length:Int))) (cond (cond ((!v3)&&(decide (v5<(v2.length:Int)))) (inB v5 v2.length) true) ((some (cond v3 true (cond (decide (v5<(v2.length:Int))) (v2.getD v5.toNat false) false))).bind fun v8=>cond v8 (cond (inB v5 v.2.1.length) (cond (inB v5 v.2.1.length) ((Xas (v.2.1.getD v5.toNat Xv).2.1).bind fun v9=>cond (inB (v.2.1.getD v5.toNat Xv).1 v7.1.length) ((some (v7.1.set ((v.2.1.getD v5.toNat Xv).1.toNat) v9)).bind fun v10=>some (.inl (w64 (v5+1),(v10,v7.2)))) none) none) none) (some (.inl (w64 (v5+1),v7)))) none) (some (.inr v7))
def Xcp (v2:List Bool) (v3:Bool) (v:Xd) (v6:Xd):(Int×Xd)→Option Xd:=
 Yaj fun s=>Xcp.B v2 v3 v v6 s.1 s.2
def Xfu (v:Xd) (v2:List Bool) (v3:Bool):Option Xd:=
 (Xba v).bind fun v4=>(Xcp v2 v3 v ([],[],()) (0,(v4.1,[],v4.2.2))).bind fun v11=>some (v11.1,v11.2.1,v11.2.2)
namespace Xfu
def G:Gam:=mkG [(111,Xba.FS),(106,Xas.FS)]
theorem Gok:GOk PR G:=.cons Xba.ok (.cons Xas.ok .nil)
end Xfu
namespace Xcp
def c:=Yao (Yai Proofs.Tryz.f112) [1,1,1,0,1,0,0]
def sp:SP:=⟨[(1,.cs (.sl .bool)),(2,.cs .bool),(3,.pt Xh),(6,.loc 6 []),(7,.loc 7 []),(8,.cs I64)],[(6,.mem,.cd Xh),(7,.mem,.cd Xh)]⟩
def fr:=Yh3 sp (fun x s=>Xcp.B x.1.1 x.1.2.1 x.1.2.2.1 x.2.1 s.1 s.2) (fun x=>(x.1.2.2.2.2.2.1,x.2.2.1)) fun x (bb0:Xd) _ kk0=>kk0 (.ex 0) ⟨[(6,.loc 6 []),(7,.loc 7 [])],[(6,some ⟨.mem,.cd Xh x.2.1⟩),(7,some ⟨.mem,.cd Xh bb0⟩)]⟩
theorem ok:Ya9 PR 49 3 (.loop c) fr:=
 Ywi Xe Xf ⟨[3],[],[],0⟩ (G:=Xfu.G) Xfu.Gok [(0,([6,7],[6,7]))] (fun x s=>((x.1.1,x.1.2.1,x.1.2.2.1,x.1.2.2.2.1,x.1.2.2.2.2.1,s.1,x.1.2.2.2.2.2.2),(x.2.1,s.2,x.2.2.2)))
  (fun x s=>by simp only[B,mC,mB,mS,mO,mN];kernel_rfl)
end Xcp
namespace Xfu
def pts:List PT:=[.cs Xh,.cs (.sl .bool),.cs .bool]
def FS:FS:=Ycc [.sh,.sh,.sh] pts (fun x=>Xfu x.1 x.2.1 x.2.2.1) fun t=>⟨[.cd Xh t],[]⟩
theorem ok:Ycs PR 112 FS:=
 Ywh Xe Xf Proofs.Tryz.f112 ⟨[3],[],[],0⟩ (.R (.R (.R (.L (.R (.one (.fr 0))))))) (G:=G) Gok (L:=mkL [(0,Xcp.fr)]) (l:=[(0,.loop Xcp.c)]) ⟨Lam.cons Xcp.ok,trivial⟩
  (fun x=>by simp only[Xfu,mC,mB,mS,mO,mN];kernel_rfl)
end Xfu
def Xle (v:Xd) (v2:Int):Option Bool:=
 (Xa7 v2 0 (w64 ((v.1.length:Int)-1))).bind fun v3=>some v3
namespace Xle
def G:Gam:=mkG [(109,Xa7.FS)]
def pts:List PT:=[.pt Xh,.cs I64]
def FS:FS:=Ycc [.sh,.sh] pts (fun x=>Xle x.1 x.2.1) fun t=>⟨[.cs .bool t],[]⟩
theorem ok:Ycs PR 162 FS:=
 Ywh Xe Xf Proofs.Tryz.f162 h0 .no (G:=G) (show GOk PR G from .cons Xa7.ok .nil) (L:=mkL []) (l:=[]) hT
  (fun x=>by simp only[Xle,mC,mB,mS,mO,mN];kernel_rfl)
end Xle
def Xht (v:Xd) (v2:Int) (v3:List Int):Option Xu:=
 (Xdv v).bind fun v4=>cond (v4 != 0) (some (v4,([],[],()),())) ((Xle v v2).bind fun v5=>cond (!v5) (some (3,([],[],()),())) ((Xd8 v3).bind fun v6=>cond (v6 != 0) (some (v6,([],[],()),())) (cond (decide ((v.2.1.length:Int)≥200)) (some (2,([],[],()),())) ((Xba v).bind fun v7=>(Xas v3).bind fun v8=>cond (decide ((v7.2.1++([(v2,v8,())])).length≤2147483648)) (some (0,(v7.1,v7.2.1++([(v2,v8,())]),v7.2.2),())) none))))
namespace Xht
def G:Gam:=mkG [(45,Xdv.FS),(162,Xle.FS),(108,Xd8.FS),(111,Xba.FS),(106,Xas.FS)]
def pts:List PT:=[.cs Xh,.cs I64,.cs SI]
def FS:FS:=Ycc [.sh,.sh,.sh] pts (fun x=>Xht x.1 x.2.1 x.2.2.1) fun t=>⟨[.cd X7 t],[]⟩
theorem ok:Ycs PR 113 FS:=
 Ywh Xe Xf Proofs.Tryz.f113 ⟨[3],[],[],0⟩ .no (G:=G) (show GOk PR G from .cons Xdv.ok (.cons Xle.ok (.cons Xd8.ok (.cons Xba.ok (.cons Xas.ok .nil))))) (L:=mkL []) (l:=[]) hT
  (fun x=>by simp only[Xht,mC,mB,mS,mO,mN];kernel_rfl)
end Xht
def Xbj.B (v2:List Xr) (v5:Xu) (v4:Int) (v6:Xu):Option ((Int×Xu)⊕((Xu⊕Xu))):=
 cond (decide (v4<(v2.length:Int))) (cond (inB v4 v2.length) (cond (v2.getD v4.toNat Xiu).1 ((Xfu (v6.2.1.1,v6.2.1.2.1,v6.2.1.2.2) [] true).bind fun v7=>some (.inl (w64 (v4+1),(v6.1,(v7.1,v7.2.1,v7.2.2),v6.2.2)))) (cond (inB v4 v2.length) (cond (inB v4 v2.length) ((Xht (v6.2.1.1,v6.2.1.2.1,v6.2.1.2.2) (v2.getD v4.toNat Xiu).2.1 (v2.getD v4.toNat Xiu).2.2.1).bind fun v8=>cond (v8.1 != 0) (some (.inr (.inl (v8.1,(v8.2.1.1,v8.2.1.2.1,v8.2.1.2.2),v8.2.2)))) (some (.inl (w64 (v4+1),(v8.1,(v8.2.1.1,v8.2.1.2.1,v8.2.1.2.2),v8.2.2))))) none) none)) none) (some (.inr (.inr v6)))
def Xbj (v2:List Xr) (v5:Xu):(Int×Xu)→Option ((Xu⊕Xu)):=
 Yaj fun s=>Xbj.B v2 v5 s.1 s.2
def Xhc (v:Xd) (v2:List Xr):Option Xu:=
 (Xba v).bind fun v3=>(Xbj v2 (0,([],[],()),()) (0,(0,(v3.1,v3.2.1,v3.2.2),()))).bind fun v9=>sel v9 (fun v10=>some (v10.1,(v10.2.1.1,v10.2.1.2.1,v10.2.1.2.2),v10.2.2)) (fun v11=>some (v11.1,(v11.2.1.1,v11.2.1.2.1,v11.2.1.2.2),v11.2.2))
namespace Xhc
def G:Gam:=mkG [(111,Xba.FS),(112,Xfu.FS),(113,Xht.FS)]
theorem Gok:GOk PR G:=.cons Xba.ok (.cons Xfu.ok (.cons Xht.ok .nil))
end Xhc
namespace Xbj
def c:=Yao (Yai Proofs.Tryz.f47) [1,1,0,1,0,0]
def sp:SP:=⟨[(1,.cs (.sl X6)),(4,.loc 4 []),(5,.loc 5 []),(6,.cs I64)],[(4,.mem,.cd X7),(5,.mem,.cd X7)]⟩
def fr:=Yh3 sp (fun x s=>Xbj.B x.1.1 x.2.1 s.1 s.2) (fun x=>(x.1.2.2.2.1,x.2.2.1)) fun x (oo0:(Xu⊕Xu)) _ kk0=>sel oo0 (fun bb0=>kk0 (.rt) ⟨[(4,.loc 4 [])],[(4,some ⟨.mem,.cd X7 bb0⟩)]⟩) (fun cc0=>kk0 (.ex 0) ⟨[(4,.loc 4 []),(5,.loc 5 [])],[(4,some ⟨.mem,.cd X7 x.2.1⟩),(5,some ⟨.mem,.cd X7 cc0⟩)]⟩)
theorem ok:Ya9 PR 43 2 (.loop c) fr:=
 Yst Xe Xf ⟨[2],[],[],0⟩ .no (G:=Xhc.G) Xhc.Gok (L:=mkL []) (l:=[]) hT [(0,([4,5],[4,5]))] ([4],[4]) (fun x s=>((x.1.1,x.1.2.1,x.1.2.2.1,s.1,x.1.2.2.2.2),(x.2.1,s.2,x.2.2.2)))
  (fun x s=>by simp only[B,mC,mB,mS,mO,mN];kernel_rfl)
end Xbj
namespace Xhc
def pts:List PT:=[.cs Xh,.cs (.sl X6)]
def FS:FS:=Ycc [.sh,.sh] pts (fun x=>Xhc x.1 x.2.1) fun t=>⟨[.cd X7 t],[]⟩
theorem ok:Ycs PR 47 FS:=
 Ywh Xe Xf Proofs.Tryz.f47 ⟨[2],[],[],0⟩ (.R (.R (.L (.R (.one (.fr 0)))))) (G:=G) Gok (L:=mkL [(0,Xbj.fr)]) (l:=[(0,.loop Xbj.c)]) ⟨Lam.cons Xbj.ok,trivial⟩
  (fun x=>by simp only[Xhc,mC,mB,mS,mO,mN];kernel_rfl)
end Xhc
def Xi6 (v:Xd) (v2:List Xr):Option Xu:=
 (Xdv v).bind fun v3=>cond (v3 != 0) (some (v3,([],[],()),())) (cond ((v.1.length:Int) != 47) (some (1,([],[],()),())) ((Xgc v2).bind fun v4=>cond (v4 != 0) (some (v4,([],[],()),())) ((Xhc v v2).bind fun v5=>some (v5.1,(v5.2.1.1,v5.2.1.2.1,v5.2.1.2.2),v5.2.2))))
namespace Xi6
def G:Gam:=mkG [(45,Xdv.FS),(46,Xgc.FS),(47,Xhc.FS)]
def pts:List PT:=[.cs Xh,.cs (.sl X6)]
def FS:FS:=Ycc [.sh,.sh] pts (fun x=>Xi6 x.1 x.2.1) fun t=>⟨[.cd X7 t],[]⟩
theorem ok:Ycs PR 17 FS:=
 Ywh Xe Xf Proofs.Tryz.f17 ⟨[2],[],[],0⟩ .no (G:=G) (show GOk PR G from .cons Xdv.ok (.cons Xgc.ok (.cons Xhc.ok .nil))) (L:=mkL []) (l:=[]) hT
  (fun x=>by simp only[Xi6,mC,mB,mS,mO,mN];kernel_rfl)
end Xi6
def Xjd (v:Xa):Option Xa:=
 (Xas v.2.2.2.1).bind fun v2=>cond (decide (([]++v.2.2.2.2.1).length≤2147483648)) (some (v.1,v.2.1,v.2.2.1,v2,[]++v.2.2.2.2.1,v.2.2.2.2.2)) none
namespace Xjd
def G:Gam:=mkG [(106,Xas.FS)]
def pts:List PT:=[.cs Xc]
def FS:FS:=Ycc [.sh] pts (fun x=>Xjd x.1) fun t=>⟨[.cd Xc t],[]⟩
theorem ok:Ycs PR 48 FS:=
 Ywh Xe Xf Proofs.Tryz.f48 h0 .no (G:=G) (show GOk PR G from .cons Xas.ok .nil) (L:=mkL []) (l:=[]) hT
  (fun x=>by simp only[Xjd,mC,mB,mS,mO,mN];kernel_rfl)
end Xjd
def Xd2.B (v:Fs_) (v3:Fs_) (v2:Int) (v4:Fs_):Option ((Int×Fs_)⊕Fs_):=
 cond (decide (v2<(v.1.length:Int))) (cond (inB v2 v.1.length) ((Xjd (v.1.getD v2.toNat Xb)).bind fun v5=>(some (v4.1++([(v5.1,v5.2.1,v5.2.2.1,v5.2.2.2.1,v5.2.2.2.2.1,v5.2.2.2.2.2)]))).bind fun v6=>cond (decide (v6.length≤2147483648)) (some (.inl (w64 (v2+1),(v6,v4.2)))) none) none) (some (.inr v4))
def Xd2 (v:Fs_) (v3:Fs_):(Int×Fs_)→Option Fs_:=
 Yaj fun s=>Xd2.B v v3 s.1 s.2
def Xex.B (v:Fs_) (v9:Fs_) (v8:Int) (v10:Fs_):Option ((Int×Fs_)⊕Fs_):=
 cond (decide (v8<(v.2.1.length:Int))) (cond (inB v8 v.2.1.length) (cond (decide (([]++(v.2.1.getD v8.toNat [])).length≤2147483648)) (cond (decide ((v10.2.1++([[]++(v.2.1.getD v8.toNat [])])).length≤2147483648)) (some (.inl (w64 (v8+1),(v10.1,v10.2.1++([[]++(v.2.1.getD v8.toNat [])]),v10.2.2)))) none) none) none) (some (.inr v10))
def Xex (v:Fs_) (v9:Fs_):(Int×Fs_)→Option Fs_:=
 Yaj fun s=>Xex.B v v9 s.1 s.2
def Xb6 (v:Fs_):Option Fs_:=
 (Xd2 v ([],[],()) (0,([],[],()))).bind fun v7=>(Xex v ([],[],()) (0,v7)).bind fun v11=>some (v11.1,v11.2.1,v11.2.2)
namespace Xb6
def G:Gam:=mkG [(48,Xjd.FS)]
theorem Gok:GOk PR G:=.cons Xjd.ok .nil
end Xb6
namespace Xd2
def c:=Yao (Yai Proofs.Tryz.f18) [1,1,0,1,0,0]
def sp:SP:=⟨[(1,.pt Xk),(2,.loc 2 []),(3,.loc 3 []),(4,.cs I64)],[(2,.mem,.cd Xk),(3,.mem,.cd Xk)]⟩
def fr:=Yh3 sp (fun x s=>Xd2.B x.1.1 x.2.1 s.1 s.2) (fun x=>(x.1.2.2.2.1,x.2.2.1)) fun x (bb0:Fs_) _ kk0=>kk0 (.ex 0) ⟨[(1,.pt Xk x.1.1),(2,.loc 2 []),(3,.loc 3 [])],[(2,some ⟨.mem,.cd Xk x.2.1⟩),(3,some ⟨.mem,.cd Xk bb0⟩)]⟩
theorem ok:Ya9 PR 45 1 (.loop c) fr:=
 Ywi Xe Xf ⟨[1],[],[],0⟩ (G:=Xb6.G) Xb6.Gok [(0,([1,2,3],[2,3]))] (fun x s=>((x.1.1,x.1.2.1,x.1.2.2.1,s.1,x.1.2.2.2.2),(x.2.1,s.2,x.2.2.2)))
  (fun x s=>by simp only[B,mC,mB,mS,mO,mN];kernel_rfl)
end Xd2
namespace Xex
def c:=Yao (Yai Proofs.Tryz.f18) [1,1,1,0,1,0,0]
def sp:SP:=⟨[(1,.pt Xk),(2,.loc 2 []),(3,.loc 3 []),(5,.cs I64)],[(2,.mem,.cd Xk),(3,.mem,.cd Xk)]⟩
def fr:=Yh3 sp (fun x s=>Xex.B x.1.1 x.2.1 s.1 s.2) (fun x=>(x.1.2.2.2.1,x.2.2.1)) fun x (bb0:Fs_) _ kk0=>kk0 (.ex 2) ⟨[(2,.loc 2 []),(3,.loc 3 [])],[(2,some ⟨.mem,.cd Xk x.2.1⟩),(3,some ⟨.mem,.cd Xk bb0⟩)]⟩
theorem ok:Ya9 PR 45 1 (.loop c) fr:=
 Ywi Xe Xf ⟨[1],[],[],0⟩ (G:=Xb6.G) Xb6.Gok [(2,([2,3],[2,3]))] (fun x s=>((x.1.1,x.1.2.1,x.1.2.2.1,s.1,x.1.2.2.2.2),(x.2.1,s.2,x.2.2.2)))
  (fun x s=>by simp only[B,mC,mB,mS,mO,mN];kernel_rfl)
end Xex
namespace Xb6
def pts:List PT:=[.cs Xk]
def FS:FS:=Ycc [.sh] pts (fun x=>Xb6 x.1) fun t=>⟨[.cd Xk t],[]⟩
theorem ok:Ycs PR 18 FS:=
 Ywh Xe Xf Proofs.Tryz.f18 ⟨[1],[],[],0⟩ (.R (.R (.two (.R (.one (.fr 0))) (.L (.R (.one (.fr 1))))))) (G:=G) Gok (L:=mkL [(0,Xd2.fr),(1,Xex.fr)]) (l:=[(0,.loop Xd2.c),(1,.loop Xex.c)]) ⟨Lam.cons Xd2.ok,Lam.skip rfl (Lam.cons Xex.ok),trivial⟩
  (fun x=>by simp only[Xb6,mC,mB,mS,mO,mN];kernel_rfl)
end Xb6
def Xlj (v:Xd) (v2:Fs_):Option (Fs_×Unit):=
 (Xa9 v).bind fun v3=>cond (v3.1 != 0) (some ((v2.1,v2.2.1,v2.2.2),())) (some ((v3.2.1.1,v3.2.1.2.1,v3.2.1.2.2),()))
namespace Xlj
def G:Gam:=mkG [(41,Xa9.FS)]
def pts:List PT:=[.cs Xh,.cd Xk]
def FS:FS:=Ycc [.sh,.mu] pts (fun x=>Xlj x.1 x.2.1) fun t=>⟨[.cd Xk t.1],[.pr (.dead 1) (.pr (.dead 1) (.cs .unit t.2))]⟩
theorem ok:Ycs PR 19 FS:=
 Ywc Xe Xf Proofs.Tryz.f19 ⟨[2,3],[],[],0⟩ .no (G:=G) (show GOk PR G from .cons Xa9.ok .nil) (L:=mkL []) (l:=[]) hT
  (fun x=>by simp only[Xlj,mC,mB,mS,mO,mN];kernel_rfl)
end Xlj
def Xic (v:X0):Option Xaa:=
 (Xjz v).bind fun v2=>cond (v2 != 0) (some (v2,(0,0,0,[],[],([],[],()),()),(([],[],()),([],[],()),([],[],()),()),())) ((Xj8 v.1 v.2.1).bind fun v3=>cond (v3.1 != 0) (some (v3.1,(0,0,0,[],[],([],[],()),()),(([],[],()),([],[],()),([],[],()),()),())) ((Xi6 v.1 v3.2.1).bind fun v4=>cond (v4.1 != 0) (some (v4.1,(0,0,0,[],[],([],[],()),()),(([],[],()),([],[],()),([],[],()),()),())) ((Xb6 v.2.1).bind fun v5=>(Xb6 v.2.1).bind fun v6=>(Xlj (v4.2.1.1,v4.2.1.2.1,v4.2.1.2.2) (v6.1,v6.2.1,v6.2.2)).bind fun v7=>some (0,(0,0,0,[],[],([],[],()),()),((v4.2.1.1,v4.2.1.2.1,v4.2.1.2.2),(v5.1,v5.2.1,v5.2.2),(v7.1.1,v7.1.2.1,v7.1.2.2),()),()))))
namespace Xic
def G:Gam:=mkG [(15,Xjz.FS),(16,Xj8.FS),(17,Xi6.FS),(18,Xb6.FS),(19,Xlj.FS)]
def pts:List PT:=[.cs Xp]
def FS:FS:=Ycc [.sh] pts (fun x=>Xic x.1) fun t=>⟨[.cd Xt t],[]⟩
theorem ok:Ycs PR 5 FS:=
 Ywh Xe Xf Proofs.Tryz.f5 ⟨[1],[],[],0⟩ .no (G:=G) (show GOk PR G from .cons Xjz.ok (.cons Xj8.ok (.cons Xi6.ok (.cons Xb6.ok (.cons Xlj.ok .nil))))) (L:=mkL []) (l:=[]) hT
  (fun x=>by simp only[Xic,mC,mB,mS,mO,mN];kernel_rfl)
end Xic
def Xao (v:Int) (v2:Int) (v3:Int):Option Bool:=
 some (cond (decide (v≥v2)) (decide (v≤v3)) false)
namespace Xao
def pts:List PT:=[.cs I64,.cs I64,.cs I64]
def FS:FS:=Ycc [.sh,.sh,.sh] pts (fun x=>Xao x.1 x.2.1 x.2.2.1) fun t=>⟨[.cs .bool t],[]⟩
theorem ok:Ycs PR 165 FS:=
 Ywh Xe Xf Proofs.Tryz.f165 h0 .no (G:=(mkG [])) .nil (L:=mkL []) (l:=[]) hT
  (fun x=>by simp only[Xao,mC,mB,mS,mO,mN];kernel_rfl)
end Xao
def Xln (v:Int):Option Bool:=
 (Xao v 0 65535).bind fun v2=>some (!v2)
namespace Xln
def G:Gam:=mkG [(165,Xao.FS)]
def pts:List PT:=[.cs I64]
def FS:FS:=Ycc [.sh] pts (fun x=>Xln x.1) fun t=>⟨[.cs .bool t],[]⟩
theorem ok:Ycs PR 188 FS:=
 Ywh Xe Xf Proofs.Tryz.f188 h0 .no (G:=G) (show GOk PR G from .cons Xao.ok .nil) (L:=mkL []) (l:=[]) hT
  (fun x=>by simp only[Xln,mC,mB,mS,mO,mN];kernel_rfl)
end Xln
def Xee.B (v:List Int) (v2:Unit) (v3:Int) (v4:Int):Option (Int⊕((Int⊕Unit))):=
 cond (decide (v4<v3)) (cond (inB v4 v.length) ((Xln (v.getD v4.toNat 0)).bind fun v5=>cond v5 (some (.inr (.inl v4))) (some (.inl (w64 (v4+1))))) none) (some (.inr (.inr ())))
def Xee (v:List Int) (v2:Unit) (v3:Int):Int→Option ((Int⊕Unit)):=
 Yaj fun s=>Xee.B v v2 v3 s
def Xgu (v:List Int) (v2:Unit):Option Int:=
 (Xee v v2 (v.length:Int) 0).bind fun v6=>sel v6 (fun v7=>some v7) (fun v8=>some (-1))
namespace Xgu
def G:Gam:=mkG [(188,Xln.FS)]
theorem Gok:GOk PR G:=.cons Xln.ok .nil
end Xgu
namespace Xee
def c:=Yao (Yai Proofs.Tryz.f176) [1,0,1,0,0]
def sp:SP:=⟨[(0,.cs SI),(1,.clo 188 (.cs .unit)),(7,.cs I64),(8,.cs I64)],[]⟩
def fr:=Yh3 sp (fun x s=>Xee.B x.1.1 x.1.2.1 x.1.2.2.1 s) (fun x=>x.1.2.2.2.1) fun x (oo0:(Int⊕Unit)) _ kk0=>sel oo0 (fun bb0=>kk0 (.rt) ⟨[(4,.cs I64 bb0)],[]⟩) (fun cc0=>kk0 (.ex 0) ⟨[],[]⟩)
theorem ok:Ya9 PR 19 2 (.loop c) fr:=
 Yst Xe Xf h0 .no (G:=Xgu.G) Xgu.Gok (L:=mkL []) (l:=[]) hT [(0,([],[]))] ([4],[]) (fun x s=>((x.1.1,x.1.2.1,x.1.2.2.1,s,x.1.2.2.2.2),x.2))
  (fun x s=>by simp only[B,mC,mB,mS,mO,mN];kernel_rfl)
end Xee
namespace Xgu
def pts:List PT:=[.cs SI,.clo 188 (.cs .unit)]
def FS:FS:=Ycc [.sh,.sh] pts (fun x=>Xgu x.1 x.2.1) fun t=>⟨[.cs I64 t],[]⟩
theorem ok:Ycs PR 176 FS:=
 Ywh Xe Xf Proofs.Tryz.f176 h0 (.R (.L (.R (.one (.fr 0))))) (G:=G) Gok (L:=mkL [(0,Xee.fr)]) (l:=[(0,.loop Xee.c)]) ⟨Lam.cons Xee.ok,trivial⟩
  (fun x=>by simp only[Xgu,mC,mB,mS,mO,mN];kernel_rfl)
end Xgu
def Xlq (v:List Int) (v2:Unit):Option Bool:=
 (Xgu v v2).bind fun v3=>some (decide (v3≥0))
namespace Xlq
def G:Gam:=mkG [(176,Xgu.FS)]
def pts:List PT:=[.cs SI,.clo 188 (.cs .unit)]
def FS:FS:=Ycc [.sh,.sh] pts (fun x=>Xlq x.1 x.2.1) fun t=>⟨[.cs .bool t],[]⟩
theorem ok:Ycs PR 127 FS:=
 Ywh Xe Xf Proofs.Tryz.f127 h0 .no (G:=G) (show GOk PR G from .cons Xgu.ok .nil) (L:=mkL []) (l:=[]) hT
  (fun x=>by simp only[Xlq,mC,mB,mS,mO,mN];kernel_rfl)
end Xlq
def Xfm (v:List Int):Option Int:=
 cond (decide ((v.length:Int)>64)) (some 2) ((Xlq v ()).bind fun v2=>cond v2 (some 3) (some 0))
namespace Xfm
def G:Gam:=mkG [(127,Xlq.FS)]
def pts:List PT:=[.cs SI]
def FS:FS:=Ycc [.sh] pts (fun x=>Xfm x.1) fun t=>⟨[.cs I64 t],[]⟩
theorem ok:Ycs PR 164 FS:=
 Ywh Xe Xf Proofs.Tryz.f164 h0 .no (G:=G) (show GOk PR G from .cons Xlq.ok .nil) (L:=mkL []) (l:=[]) hT
  (fun x=>by simp only[Xfm,mC,mB,mS,mO,mN];kernel_rfl)
end Xfm
def Xls (v:List (List Int)):Option Int:=
 some (v.length:Int)
namespace Xls
def pts:List PT:=[.cs (.sl SI)]
def FS:FS:=Ycc [.sh] pts (fun x=>Xls x.1) fun t=>⟨[.cs I64 t],[]⟩
theorem ok:Ycs PR 166 FS:=
 Ywh Xe Xf Proofs.Tryz.f166 h0 .no (G:=(mkG [])) .nil (L:=mkL []) (l:=[]) hT
  (fun x=>by simp only[Xls,mC,mB,mS,mO,mN];kernel_rfl)
end Xls
def Xg6.B (v:Xd) (v3:List (List Int)) (v4:Int) (v5:Int):Option (Int⊕((Int⊕Unit))):=
 cond (decide (v5<v4)) (cond (inB v5 v3.length) ((Xfm (v3.getD v5.toNat [])).bind fun v6=>cond (v6 != 0) (some (.inr (.inl v6))) (some (.inl (w64 (v5+1))))) none) (some (.inr (.inr ())))
def Xg6 (v:Xd) (v3:List (List Int)) (v4:Int):Int→Option ((Int⊕Unit)):=
 Yaj fun s=>Xg6.B v v3 v4 s
def Xg5.B (v:Xd) (v10:List Xj) (v11:Int) (v12:Int):Option (Int⊕((Int⊕Unit))):=
 cond (decide (v12<v11)) (cond (inB v12 v10.length) ((Xls v.1).bind fun v13=>(Xao (v10.getD v12.toNat Xv).1 0 (w64 (v13-1))).bind fun v14=>cond (!v14) (some (.inr (.inl 3))) ((Xfm (v10.getD v12.toNat Xv).2.1).bind fun v15=>cond (v15 != 0) (some (.inr (.inl v15))) (some (.inl (w64 (v12+1)))))) none) (some (.inr (.inr ())))
def Xg5 (v:Xd) (v10:List Xj) (v11:Int):Int→Option ((Int⊕Unit)):=
 Yaj fun s=>Xg5.B v v10 v11 s
def Xcg (v:Xd):Option Int:=
 (some (cond (decide ((v.1.length:Int)>60)) true (decide ((v.2.1.length:Int)>200)))).bind fun v2=>cond v2 (some 2) ((Xg6 v v.1 (v.1.length:Int) 0).bind fun v7=>sel v7 (fun v8=>some v8) (fun v9=>(Xg5 v v.2.1 (v.2.1.length:Int) 0).bind fun v16=>sel v16 (fun v17=>some v17) (fun v18=>some 0)))
namespace Xcg
def G:Gam:=mkG [(164,Xfm.FS),(166,Xls.FS),(165,Xao.FS)]
theorem Gok:GOk PR G:=.cons Xfm.ok (.cons Xls.ok (.cons Xao.ok .nil))
end Xcg
namespace Xg6
def c:=Yao (Yai Proofs.Tryz.f118) [1,1,0,1,0,0]
def sp:SP:=⟨[(1,.pt Xh),(20,.cs (.sl SI)),(21,.cs I64),(22,.cs I64)],[]⟩
def fr:=Yh3 sp (fun x s=>Xg6.B x.1.1 x.1.2.1 x.1.2.2.1 s) (fun x=>x.1.2.2.2.1) fun x (oo0:(Int⊕Unit)) _ kk0=>sel oo0 (fun bb0=>kk0 (.rt) ⟨[(2,.cs I64 bb0)],[]⟩) (fun cc0=>kk0 (.ex 0) ⟨[(1,.pt Xh x.1.1)],[]⟩)
theorem ok:Ya9 PR 54 1 (.loop c) fr:=
 Yst Xe Xf ⟨[1],[],[],0⟩ .no (G:=Xcg.G) Xcg.Gok (L:=mkL []) (l:=[]) hT [(0,([1],[]))] ([2],[]) (fun x s=>((x.1.1,x.1.2.1,x.1.2.2.1,s,x.1.2.2.2.2),x.2))
  (fun x s=>by simp only[B,mC,mB,mS,mO,mN];kernel_rfl)
end Xg6
namespace Xg5
def c:=Yao (Yai Proofs.Tryz.f118) [1,1,1,0,1,0,0]
def sp:SP:=⟨[(1,.pt Xh),(33,.cs (.sl Xm)),(34,.cs I64),(35,.cs I64)],[]⟩
def fr:=Yh3 sp (fun x s=>Xg5.B x.1.1 x.1.2.1 x.1.2.2.1 s) (fun x=>x.1.2.2.2.1) fun x (oo0:(Int⊕Unit)) _ kk0=>sel oo0 (fun bb0=>kk0 (.rt) ⟨[(2,.cs I64 bb0)],[]⟩) (fun cc0=>kk0 (.ex 2) ⟨[],[]⟩)
theorem ok:Ya9 PR 54 1 (.loop c) fr:=
 Yst Xe Xf ⟨[1],[],[],0⟩ .no (G:=Xcg.G) Xcg.Gok (L:=mkL []) (l:=[]) hT [(2,([],[]))] ([2],[]) (fun x s=>((x.1.1,x.1.2.1,x.1.2.2.1,s,x.1.2.2.2.2),x.2))
  (fun x s=>by simp only[B,mC,mB,mS,mO,mN];kernel_rfl)
end Xg5
namespace Xcg
def pts:List PT:=[.cs Xh]
def FS:FS:=Ycc [.sh] pts (fun x=>Xcg x.1) fun t=>⟨[.cs I64 t],[]⟩
theorem ok:Ycs PR 118 FS:=
 Ywh Xe Xf Proofs.Tryz.f118 ⟨[1],[],[],0⟩ (.R (.R (.two (.R (.one (.fr 0))) (.L (.R (.one (.fr 1))))))) (G:=G) Gok (L:=mkL [(0,Xg6.fr),(1,Xg5.fr)]) (l:=[(0,.loop Xg6.c),(1,.loop Xg5.c)]) ⟨Lam.cons Xg6.ok,Lam.skip rfl (Lam.cons Xg5.ok),trivial⟩
  (fun x=>by simp only[Xcg,mC,mB,mS,mO,mN];kernel_rfl)
end Xcg
noncomputable def Xcy (d:Xd) (at_:Int):Option (List Int):=Yk7 d at_
def Xcy.FS:FS:=Ycc [.sh,.sh] [.pt Y6,.cl .sh (.int .i64)] (fun x=>Yk7 x.1 x.2.1) fun y=>⟨[.cl .sh (.sl (.int .i64)) y],[]⟩
theorem Xcy.ok:Ycs Go.Proofs.Tryz.prog 119 Xcy.FS:=
 Yu8 ⟨Go.Proofs.Tryz.f119,by kernel_rfl,by kernel_rfl,by kernel_rfl⟩ (fun bd od at_ A C nB cB nC cC hd w v h1 h2 h3 h4 h5 h6=>callsIn_wide.1 (Go.Proofs.Bk.block_in Fence.wide 3 trivial trivial trivial rfl (by omega) bd od at_ A C nB cB nC cC hd w v h1 h2 h3 h4 h5 h6))
def Xlv (v:Int):Option Bool:=
 (Xao v 1 60000).bind fun v2=>some v2
namespace Xlv
def G:Gam:=mkG [(165,Xao.FS)]
def pts:List PT:=[.cs I64]
def FS:FS:=Ycc [.sh] pts (fun x=>Xlv x.1) fun t=>⟨[.cs .bool t],[]⟩
theorem ok:Ycs PR 120 FS:=
 Ywh Xe Xf Proofs.Tryz.f120 h0 .no (G:=G) (show GOk PR G from .cons Xao.ok .nil) (L:=mkL []) (l:=[]) hT
  (fun x=>by simp only[Xlv,mC,mB,mS,mO,mN];kernel_rfl)
end Xlv
def Xey (v:Xd):Option (Int×Int):=
 (Xcg v).bind fun v2=>cond (v2 != 0) (some (0,v2)) (cond ((v.1.length:Int) != 47) (some (0,1)) ((Xcy v 0).bind fun v3=>cond (cond (!((v3.length:Int) != 2)) (inB 0 v3.length) true) ((some (cond ((v3.length:Int) != 2) true ((v3.getD (0:Int).toNat 0) != 7))).bind fun v4=>cond v4 (some (0,5)) (cond (inB 1 v3.length) ((Xlv (v3.getD (1:Int).toNat 0)).bind fun v5=>cond (!v5) (some (0,5)) (cond (inB 1 v3.length) (some (v3.getD (1:Int).toNat 0,0)) none)) none)) none))
namespace Xey
def G:Gam:=mkG [(118,Xcg.FS),(119,Xcy.FS),(120,Xlv.FS)]
def pts:List PT:=[.cs Xh]
def FS:FS:=Ycc [.sh] pts (fun x=>Xey x.1) fun t=>⟨[.cs I64 t.1,.cs I64 t.2],[]⟩
theorem ok:Ycs PR 53 FS:=
 Ywh Xe Xf Proofs.Tryz.f53 ⟨[1],[],[],0⟩ .no (G:=G) (show GOk PR G from .cons Xcg.ok (.cons Xcy.ok (.cons Xlv.ok .nil))) (L:=mkL []) (l:=[]) hT
  (fun x=>by simp only[Xey,mC,mB,mS,mO,mN];kernel_rfl)
end Xey
def Xca (v:List Int):Option Int:=
 some (v.length:Int)
namespace Xca
def pts:List PT:=[.cs SI]
def FS:FS:=Ycc [.sh] pts (fun x=>Xca x.1) fun t=>⟨[.cs I64 t],[]⟩
theorem ok:Ycs PR 126 FS:=
 Ywh Xe Xf Proofs.Tryz.f126 h0 .no (G:=(mkG [])) .nil (L:=mkL []) (l:=[]) hT
  (fun x=>by simp only[Xca,mC,mB,mS,mO,mN];kernel_rfl)
end Xca
def Xlf (v:Int):Option Int:=
 cond (!((8:Int) == 0)) (some (w64 ((w64 ((w64 (v+8))-1)).tdiv 8))) none
namespace Xlf
def pts:List PT:=[.cs I64]
def FS:FS:=Ycc [.sh] pts (fun x=>Xlf x.1) fun t=>⟨[.cs I64 t],[]⟩
theorem ok:Ycs PR 209 FS:=
 Ywh Xe Xf Proofs.Tryz.f209 h0 .no (G:=(mkG [])) .nil (L:=mkL []) (l:=[]) hT
  (fun x=>by simp only[Xlf,mC,mB,mS,mO,mN];kernel_rfl)
end Xlf
def Xlp (v:Int):Option Bool:=
 (Xao v 0 19).bind fun v2=>some (!v2)
namespace Xlp
def G:Gam:=mkG [(165,Xao.FS)]
def pts:List PT:=[.cs I64]
def FS:FS:=Ycc [.sh] pts (fun x=>Xlp x.1) fun t=>⟨[.cs .bool t],[]⟩
theorem ok:Ycs PR 210 FS:=
 Ywh Xe Xf Proofs.Tryz.f210 h0 .no (G:=G) (show GOk PR G from .cons Xao.ok .nil) (L:=mkL []) (l:=[]) hT
  (fun x=>by simp only[Xlp,mC,mB,mS,mO,mN];kernel_rfl)
end Xlp
def Xg0.B (v:List Int) (v2:Unit) (v3:Int) (v4:Int):Option (Int⊕((Int⊕Unit))):=
 cond (decide (v4<v3)) (cond (inB v4 v.length) ((Xlp (v.getD v4.toNat 0)).bind fun v5=>cond v5 (some (.inr (.inl v4))) (some (.inl (w64 (v4+1))))) none) (some (.inr (.inr ())))
def Xg0 (v:List Int) (v2:Unit) (v3:Int):Int→Option ((Int⊕Unit)):=
 Yaj fun s=>Xg0.B v v2 v3 s
def Xgp (v:List Int) (v2:Unit):Option Int:=
 (Xg0 v v2 (v.length:Int) 0).bind fun v6=>sel v6 (fun v7=>some v7) (fun v8=>some (-1))
namespace Xgp
def G:Gam:=mkG [(210,Xlp.FS)]
theorem Gok:GOk PR G:=.cons Xlp.ok .nil
end Xgp
namespace Xg0
def c:=Yao (Yai Proofs.Tryz.f176) [1,0,1,0,0]
def sp:SP:=⟨[(0,.cs SI),(1,.clo 210 (.cs .unit)),(7,.cs I64),(8,.cs I64)],[]⟩
def fr:=Yh3 sp (fun x s=>Xg0.B x.1.1 x.1.2.1 x.1.2.2.1 s) (fun x=>x.1.2.2.2.1) fun x (oo0:(Int⊕Unit)) _ kk0=>sel oo0 (fun bb0=>kk0 (.rt) ⟨[(4,.cs I64 bb0)],[]⟩) (fun cc0=>kk0 (.ex 0) ⟨[],[]⟩)
theorem ok:Ya9 PR 19 2 (.loop c) fr:=
 Yst Xe Xf h0 .no (G:=Xgp.G) Xgp.Gok (L:=mkL []) (l:=[]) hT [(0,([],[]))] ([4],[]) (fun x s=>((x.1.1,x.1.2.1,x.1.2.2.1,s,x.1.2.2.2.2),x.2))
  (fun x s=>by simp only[B,mC,mB,mS,mO,mN];kernel_rfl)
end Xg0
namespace Xgp
def pts:List PT:=[.cs SI,.clo 210 (.cs .unit)]
def FS:FS:=Ycc [.sh,.sh] pts (fun x=>Xgp x.1 x.2.1) fun t=>⟨[.cs I64 t],[]⟩
theorem ok:Ycs PR 176 FS:=
 Ywh Xe Xf Proofs.Tryz.f176 h0 (.R (.L (.R (.one (.fr 0))))) (G:=G) Gok (L:=mkL [(0,Xg0.fr)]) (l:=[(0,.loop Xg0.c)]) ⟨Lam.cons Xg0.ok,trivial⟩
  (fun x=>by simp only[Xgp,mC,mB,mS,mO,mN];kernel_rfl)
end Xgp
def Xi5 (v:List Int) (v2:Unit):Option Bool:=
 (Xgp v v2).bind fun v3=>some (decide (v3≥0))
namespace Xi5
def G:Gam:=mkG [(176,Xgp.FS)]
def pts:List PT:=[.cs SI,.clo 210 (.cs .unit)]
def FS:FS:=Ycc [.sh,.sh] pts (fun x=>Xi5 x.1 x.2.1) fun t=>⟨[.cs .bool t],[]⟩
theorem ok:Ycs PR 127 FS:=
 Ywh Xe Xf Proofs.Tryz.f127 h0 .no (G:=G) (show GOk PR G from .cons Xgp.ok .nil) (L:=mkL []) (l:=[]) hT
  (fun x=>by simp only[Xi5,mC,mB,mS,mO,mN];kernel_rfl)
end Xi5
def Xg4.B (v:List Int) (v2:Int) (v3:Int) (v4:Int):Option (Int⊕((Int⊕Unit))):=
 cond (decide (v4<v3)) (cond (inB v4 v.length) (cond (v2 == (v.getD v4.toNat 0)) (some (.inr (.inl v4))) (some (.inl (w64 (v4+1))))) none) (some (.inr (.inr ())))
def Xg4 (v:List Int) (v2:Int) (v3:Int):Int→Option ((Int⊕Unit)):=
 Yaj fun s=>Xg4.B v v2 v3 s
def Xlx (v:List Int) (v2:Int):Option Int:=
 (Xg4 v v2 (v.length:Int) 0).bind fun v5=>sel v5 (fun v6=>some v6) (fun v7=>some (-1))
namespace Xg4
def c:=Yao (Yai Proofs.Tryz.f134) [1,0,1,0,0]
def sp:SP:=⟨[(0,.cs SI),(1,.cs I64),(7,.cs I64),(8,.cs I64)],[]⟩
def fr:=Yh3 sp (fun x s=>Xg4.B x.1.1 x.1.2.1 x.1.2.2.1 s) (fun x=>x.1.2.2.2.1) fun x (oo0:(Int⊕Unit)) _ kk0=>sel oo0 (fun bb0=>kk0 (.rt) ⟨[(4,.cs I64 bb0)],[]⟩) (fun cc0=>kk0 (.ex 0) ⟨[],[]⟩)
theorem ok:Ya9 PR 19 2 (.loop c) fr:=
 Yst Xe Xf h0 .no (G:=(mkG [])) .nil (L:=mkL []) (l:=[]) hT [(0,([],[]))] ([4],[]) (fun x s=>((x.1.1,x.1.2.1,x.1.2.2.1,s,x.1.2.2.2.2),x.2))
  (fun x s=>by simp only[B,mC,mB,mS,mO,mN];kernel_rfl)
end Xg4
namespace Xlx
def pts:List PT:=[.cs SI,.cs I64]
def FS:FS:=Ycc [.sh,.sh] pts (fun x=>Xlx x.1 x.2.1) fun t=>⟨[.cs I64 t],[]⟩
theorem ok:Ycs PR 134 FS:=
 Ywh Xe Xf Proofs.Tryz.f134 h0 (.R (.L (.R (.one (.fr 0))))) (G:=(mkG [])) .nil (L:=mkL [(0,Xg4.fr)]) (l:=[(0,.loop Xg4.c)]) ⟨Lam.cons Xg4.ok,trivial⟩
  (fun x=>by simp only[Xlx,mC,mB,mS,mO,mN];kernel_rfl)
end Xlx
def Xcm (v:List Int) (v2:Int):Option Bool:=
 (Xlx v v2).bind fun v3=>some (decide (v3≥0))
namespace Xcm
def G:Gam:=mkG [(134,Xlx.FS)]
def pts:List PT:=[.cs SI,.cs I64]
def FS:FS:=Ycc [.sh,.sh] pts (fun x=>Xcm x.1 x.2.1) fun t=>⟨[.cs .bool t],[]⟩
theorem ok:Ycs PR 58 FS:=
 Ywh Xe Xf Proofs.Tryz.f58 h0 .no (G:=G) (show GOk PR G from .cons Xlx.ok .nil) (L:=mkL []) (l:=[]) hT
  (fun x=>by simp only[Xcm,mC,mB,mS,mO,mN];kernel_rfl)
end Xcm
def Xes.B (v:Xa) (v7:List Int) (v8:Int) (v9:Int):Option (Int⊕((Int⊕Unit))):=
 cond (decide (v9<v8)) (cond (inB v9 v7.length) (cond (decide ((0:Int)≤v9)&&decide (v9≤(v.2.2.2.1.length:Int))) ((Xcm ((v.2.2.2.1.take v9.toNat).drop 0) (v7.getD v9.toNat 0)).bind fun v10=>cond v10 (some (.inr (.inl 7))) (some (.inl (w64 (v9+1))))) none) none) (some (.inr (.inr ())))
def Xes (v:Xa) (v7:List Int) (v8:Int):Int→Option ((Int⊕Unit)):=
 Yaj fun s=>Xes.B v v7 v8 s
def Xff (v:Xa):Option Int:=
 (Xao v.2.1 1 60).bind fun v2=>cond (!v2) (some 3) ((Xao v.2.2.1 0 32).bind fun v3=>cond (!v3) (some 3) ((Xca v.2.2.2.1).bind fun v4=>(Xlf v.2.2.1).bind fun v5=>cond (v4 != v5) (some 1) ((Xi5 v.2.2.2.1 ()).bind fun v6=>cond v6 (some 3) ((Xes v v.2.2.2.1 (v.2.2.2.1.length:Int) 0).bind fun v11=>sel v11 (fun v12=>some v12) (fun v13=>some 0)))))
namespace Xff
def G:Gam:=mkG [(165,Xao.FS),(126,Xca.FS),(209,Xlf.FS),(127,Xi5.FS),(58,Xcm.FS)]
theorem Gok:GOk PR G:=.cons Xao.ok (.cons Xca.ok (.cons Xlf.ok (.cons Xi5.ok (.cons Xcm.ok .nil))))
end Xff
namespace Xes
def c:=Yao (Yai Proofs.Tryz.f192) [1,1,0,1,0,0]
def sp:SP:=⟨[(1,.pt Xc),(29,.cs SI),(30,.cs I64),(31,.cs I64)],[]⟩
def fr:=Yh3 sp (fun x s=>Xes.B x.1.1 x.1.2.1 x.1.2.2.1 s) (fun x=>x.1.2.2.2.1) fun x (oo0:(Int⊕Unit)) _ kk0=>sel oo0 (fun bb0=>kk0 (.rt) ⟨[(2,.cs I64 bb0)],[]⟩) (fun cc0=>kk0 (.ex 1) ⟨[],[]⟩)
theorem ok:Ya9 PR 43 1 (.loop c) fr:=
 Yst Xe Xf ⟨[1],[],[],0⟩ .no (G:=Xff.G) Xff.Gok (L:=mkL []) (l:=[]) hT [(1,([],[]))] ([2],[]) (fun x s=>((x.1.1,x.1.2.1,x.1.2.2.1,s,x.1.2.2.2.2),x.2))
  (fun x s=>by simp only[B,mC,mB,mS,mO,mN];kernel_rfl)
end Xes
namespace Xff
def pts:List PT:=[.cs Xc]
def FS:FS:=Ycc [.sh] pts (fun x=>Xff x.1) fun t=>⟨[.cs I64 t],[]⟩
theorem ok:Ycs PR 192 FS:=
 Ywh Xe Xf Proofs.Tryz.f192 ⟨[1],[],[],0⟩ (.R (.R (.L (.R (.one (.fr 0)))))) (G:=G) Gok (L:=mkL [(0,Xes.fr)]) (l:=[(0,.loop Xes.c)]) ⟨Lam.cons Xes.ok,trivial⟩
  (fun x=>by simp only[Xff,mC,mB,mS,mO,mN];kernel_rfl)
end Xff
def Xg8.B (v:List UInt8) (v2:Int) (v3:Int):Option (Int⊕((Int⊕Unit))):=
 cond (decide (v3<v2)) (cond (inB v3 v.length) (cond (cond (!(decide (((v.getD v3.toNat 0).toNat:Int)<97))) (inB v3 v.length) true) ((some (cond (decide (((v.getD v3.toNat 0).toNat:Int)<97)) true (decide (((v.getD v3.toNat 0).toNat:Int)>122)))).bind fun v4=>cond v4 (some (.inr (.inl 5))) (some (.inl (w64 (v3+1))))) none) none) (some (.inr (.inr ())))
def Xg8 (v:List UInt8) (v2:Int):Int→Option ((Int⊕Unit)):=
 Yaj fun s=>Xg8.B v v2 s
def Xj5 (v:List UInt8):Option Int:=
 cond (v == ([]:List UInt8)) (some 5) ((Xg8 v (v.length:Int) 0).bind fun v5=>sel v5 (fun v6=>some v6) (fun v7=>cond (decide ((v.length:Int)>4)) (some 2) (some 0)))
namespace Xg8
def c:=Yao (Yai Proofs.Tryz.f211) [1,1,0,1,0,0]
def sp:SP:=⟨[(0,.cs .str),(7,.cs I64),(8,.cs I64)],[]⟩
def fr:=Yh3 sp (fun x s=>Xg8.B x.1.1 x.1.2.1 s) (fun x=>x.1.2.2.1) fun x (oo0:(Int⊕Unit)) _ kk0=>sel oo0 (fun bb0=>kk0 (.rt) ⟨[(2,.cs I64 bb0)],[]⟩) (fun cc0=>kk0 (.ex 0) ⟨[(0,.cs .str x.1.1)],[]⟩)
theorem ok:Ya9 PR 25 1 (.loop c) fr:=
 Yst Xe Xf h0 .no (G:=(mkG [])) .nil (L:=mkL []) (l:=[]) hT [(0,([0],[]))] ([2],[]) (fun x s=>((x.1.1,x.1.2.1,s,x.1.2.2.2),x.2))
  (fun x s=>by simp only[B,mC,mB,mS,mO,mN];kernel_rfl)
end Xg8
namespace Xj5
def pts:List PT:=[.cs .str]
def FS:FS:=Ycc [.sh] pts (fun x=>Xj5 x.1) fun t=>⟨[.cs I64 t],[]⟩
theorem ok:Ycs PR 211 FS:=
 Ywh Xe Xf Proofs.Tryz.f211 h0 (.R (.R (.L (.R (.one (.fr 0)))))) (G:=(mkG [])) .nil (L:=mkL [(0,Xg8.fr)]) (l:=[(0,.loop Xg8.c)]) ⟨Lam.cons Xg8.ok,trivial⟩
  (fun x=>by simp only[Xj5,mC,mB,mS,mO,mN];kernel_rfl)
end Xj5
def Xe9.B (v:Xa) (v2:List Xg) (v3:Int) (v4:Int):Option (Int⊕((Int⊕Unit))):=
 cond (decide (v4<v3)) (cond (inB v4 v2.length) ((Xj5 (v2.getD v4.toNat Xl).1).bind fun v5=>cond (v5 != 0) (some (.inr (.inl v5))) ((Xao (v2.getD v4.toNat Xl).2.1 0 9).bind fun v6=>cond (!v6) (some (.inr (.inl 3))) (cond (cond (decide (v4>0)) (inB (w64 (v4-1)) v.2.2.2.2.1.length) true) ((some (cond (decide (v4>0)) (!leB (v.2.2.2.2.1.getD (w64 (v4-1)).toNat Xl).1 (v2.getD v4.toNat Xl).1) false)).bind fun v7=>cond v7 (some (.inr (.inl 1))) (some (.inl (w64 (v4+1))))) none))) none) (some (.inr (.inr ())))
def Xe9 (v:Xa) (v2:List Xg) (v3:Int):Int→Option ((Int⊕Unit)):=
 Yaj fun s=>Xe9.B v v2 v3 s
def Xek (v:Xa):Option Int:=
 cond (decide ((v.2.2.2.2.1.length:Int)>6)) (some 2) ((Xe9 v v.2.2.2.2.1 (v.2.2.2.2.1.length:Int) 0).bind fun v8=>sel v8 (fun v9=>some v9) (fun v10=>some 0))
namespace Xek
def G:Gam:=mkG [(211,Xj5.FS),(165,Xao.FS)]
theorem Gok:GOk PR G:=.cons Xj5.ok (.cons Xao.ok .nil)
end Xek
namespace Xe9
def c:=Yao (Yai Proofs.Tryz.f193) [1,1,0,1,0,0]
def sp:SP:=⟨[(1,.pt Xc),(11,.cs (.sl Xi)),(12,.cs I64),(13,.cs I64)],[]⟩
def fr:=Yh3 sp (fun x s=>Xe9.B x.1.1 x.1.2.1 x.1.2.2.1 s) (fun x=>x.1.2.2.2.1) fun x (oo0:(Int⊕Unit)) _ kk0=>sel oo0 (fun bb0=>kk0 (.rt) ⟨[(2,.cs I64 bb0)],[]⟩) (fun cc0=>kk0 (.ex 0) ⟨[],[]⟩)
theorem ok:Ya9 PR 43 1 (.loop c) fr:=
 Yst Xe Xf ⟨[1],[],[],0⟩ .no (G:=Xek.G) Xek.Gok (L:=mkL []) (l:=[]) hT [(0,([],[]))] ([2],[]) (fun x s=>((x.1.1,x.1.2.1,x.1.2.2.1,s,x.1.2.2.2.2),x.2))
  (fun x s=>by simp only[B,mC,mB,mS,mO,mN];kernel_rfl)
end Xe9
namespace Xek
def pts:List PT:=[.cs Xc]
def FS:FS:=Ycc [.sh] pts (fun x=>Xek x.1) fun t=>⟨[.cs I64 t],[]⟩
theorem ok:Ycs PR 193 FS:=
 Ywh Xe Xf Proofs.Tryz.f193 ⟨[1],[],[],0⟩ (.R (.R (.L (.R (.one (.fr 0)))))) (G:=G) Gok (L:=mkL [(0,Xe9.fr)]) (l:=[(0,.loop Xe9.c)]) ⟨Lam.cons Xe9.ok,trivial⟩
  (fun x=>by simp only[Xek,mC,mB,mS,mO,mN];kernel_rfl)
end Xek
def Xgf (v:Xa):Option Int:=
 (some (cond (cond (v.2.1 == 0) (v.2.2.1 == 0) false) ((v.2.2.2.1.length:Int) == 0) false)).bind fun v2=>(Xao v.1 0 2).bind fun v3=>cond (!v3) (some 1) (cond (cond (v.1 != 1) (!v2) false) (some 1) ((some (cond (v.1 != 2) (!((v.2.2.2.2.1.length:Int) == 0)) false)).bind fun v4=>cond v4 (some 1) (cond (v.1 == 1) ((Xff v).bind fun v5=>some v5) ((Xek v).bind fun v6=>some v6))))
namespace Xgf
def G:Gam:=mkG [(165,Xao.FS),(192,Xff.FS),(193,Xek.FS)]
def pts:List PT:=[.cs Xc]
def FS:FS:=Ycc [.sh] pts (fun x=>Xgf x.1) fun t=>⟨[.cs I64 t],[]⟩
theorem ok:Ycs PR 175 FS:=
 Ywh Xe Xf Proofs.Tryz.f175 ⟨[1],[],[],0⟩ .no (G:=G) (show GOk PR G from .cons Xao.ok (.cons Xff.ok (.cons Xek.ok .nil))) (L:=mkL []) (l:=[]) hT
  (fun x=>by simp only[Xgf,mC,mB,mS,mO,mN];kernel_rfl)
end Xgf
def Xhf.B (v:List Xa) (v2:Int) (v3:Int):Option (Int⊕((Int⊕Unit))):=
 cond (decide (v3<v2)) (cond (inB v3 v.length) ((Xgf (v.getD v3.toNat Xb)).bind fun v4=>cond (v4 != 0) (some (.inr (.inl v4))) (some (.inl (w64 (v3+1))))) none) (some (.inr (.inr ())))
def Xhf (v:List Xa) (v2:Int):Int→Option ((Int⊕Unit)):=
 Yaj fun s=>Xhf.B v v2 s
def Xeo (v:List Xa):Option Int:=
 cond (decide ((v.length:Int)>10)) (some 2) ((Xhf v (v.length:Int) 0).bind fun v5=>sel v5 (fun v6=>some v6) (fun v7=>some 0))
namespace Xeo
def G:Gam:=mkG [(175,Xgf.FS)]
theorem Gok:GOk PR G:=.cons Xgf.ok .nil
end Xeo
namespace Xhf
def c:=Yao (Yai Proofs.Tryz.f190) [1,1,0,1,0,0]
def sp:SP:=⟨[(9,.cs (.sl Xc)),(10,.cs I64),(11,.cs I64)],[]⟩
def fr:=Yh3 sp (fun x s=>Xhf.B x.1.1 x.1.2.1 s) (fun x=>x.1.2.2.1) fun x (oo0:(Int⊕Unit)) _ kk0=>sel oo0 (fun bb0=>kk0 (.rt) ⟨[(2,.cs I64 bb0)],[]⟩) (fun cc0=>kk0 (.ex 0) ⟨[],[]⟩)
theorem ok:Ya9 PR 21 1 (.loop c) fr:=
 Yst Xe Xf h0 .no (G:=Xeo.G) Xeo.Gok (L:=mkL []) (l:=[]) hT [(0,([],[]))] ([2],[]) (fun x s=>((x.1.1,x.1.2.1,s,x.1.2.2.2),x.2))
  (fun x s=>by simp only[B,mC,mB,mS,mO,mN];kernel_rfl)
end Xhf
namespace Xeo
def pts:List PT:=[.cs (.sl Xc)]
def FS:FS:=Ycc [.sh] pts (fun x=>Xeo x.1) fun t=>⟨[.cs I64 t],[]⟩
theorem ok:Ycs PR 190 FS:=
 Ywh Xe Xf Proofs.Tryz.f190 h0 (.R (.R (.L (.R (.one (.fr 0)))))) (G:=G) Gok (L:=mkL [(0,Xhf.fr)]) (l:=[(0,.loop Xhf.c)]) ⟨Lam.cons Xhf.ok,trivial⟩
  (fun x=>by simp only[Xeo,mC,mB,mS,mO,mN];kernel_rfl)
end Xeo
def Xjw (v:Fs_):Option Int:=
 (Xeo v.1).bind fun v2=>cond (v2 != 0) (some v2) (cond (cond (!((v.1.length:Int) == 0)) (inB 0 v.1.length) true) ((some (cond ((v.1.length:Int) == 0) true ((v.1.getD (0:Int).toNat Xb).1 != 2))).bind fun v3=>cond (cond v3 true ((v.2.1.length:Int) != 20)) (some 1) (some 0)) none)
namespace Xjw
def G:Gam:=mkG [(190,Xeo.FS)]
def pts:List PT:=[.cs Xk]
def FS:FS:=Ycc [.sh] pts (fun x=>Xjw x.1) fun t=>⟨[.cs I64 t],[]⟩
theorem ok:Ycs PR 168 FS:=
 Ywh Xe Xf Proofs.Tryz.f168 ⟨[1],[],[],0⟩ .no (G:=G) (show GOk PR G from .cons Xeo.ok .nil) (L:=mkL []) (l:=[]) hT
  (fun x=>by simp only[Xjw,mC,mB,mS,mO,mN];kernel_rfl)
end Xjw
def Xlg (v:List Int):Option Bool:=
 some (decide ((v.length:Int)>8))
namespace Xlg
def pts:List PT:=[.cs SB]
def FS:FS:=Ycc [.sh] pts (fun x=>Xlg x.1) fun t=>⟨[.cs .bool t],[]⟩
theorem ok:Ycs PR 170 FS:=
 Ywh Xe Xf Proofs.Tryz.f170 h0 .no (G:=(mkG [])) .nil (L:=mkL []) (l:=[]) hT
  (fun x=>by simp only[Xlg,mC,mB,mS,mO,mN];kernel_rfl)
end Xlg
def Xhb.B (v:List (List Int)) (v2:Unit) (v3:Int) (v4:Int):Option (Int⊕((Int⊕Unit))):=
 cond (decide (v4<v3)) (cond (inB v4 v.length) ((Xlg (v.getD v4.toNat [])).bind fun v5=>cond v5 (some (.inr (.inl v4))) (some (.inl (w64 (v4+1))))) none) (some (.inr (.inr ())))
def Xhb (v:List (List Int)) (v2:Unit) (v3:Int):Int→Option ((Int⊕Unit)):=
 Yaj fun s=>Xhb.B v v2 v3 s
def Xgx (v:List (List Int)) (v2:Unit):Option Int:=
 (Xhb v v2 (v.length:Int) 0).bind fun v6=>sel v6 (fun v7=>some v7) (fun v8=>some (-1))
namespace Xgx
def G:Gam:=mkG [(170,Xlg.FS)]
theorem Gok:GOk PR G:=.cons Xlg.ok .nil
end Xgx
namespace Xhb
def c:=Yao (Yai Proofs.Tryz.f191) [1,0,1,0,0]
def sp:SP:=⟨[(0,.cs (.sl SB)),(1,.clo 170 (.cs .unit)),(7,.cs I64),(8,.cs I64)],[]⟩
def fr:=Yh3 sp (fun x s=>Xhb.B x.1.1 x.1.2.1 x.1.2.2.1 s) (fun x=>x.1.2.2.2.1) fun x (oo0:(Int⊕Unit)) _ kk0=>sel oo0 (fun bb0=>kk0 (.rt) ⟨[(4,.cs I64 bb0)],[]⟩) (fun cc0=>kk0 (.ex 0) ⟨[],[]⟩)
theorem ok:Ya9 PR 19 2 (.loop c) fr:=
 Yst Xe Xf h0 .no (G:=Xgx.G) Xgx.Gok (L:=mkL []) (l:=[]) hT [(0,([],[]))] ([4],[]) (fun x s=>((x.1.1,x.1.2.1,x.1.2.2.1,s,x.1.2.2.2.2),x.2))
  (fun x s=>by simp only[B,mC,mB,mS,mO,mN];kernel_rfl)
end Xhb
namespace Xgx
def pts:List PT:=[.cs (.sl SB),.clo 170 (.cs .unit)]
def FS:FS:=Ycc [.sh,.sh] pts (fun x=>Xgx x.1 x.2.1) fun t=>⟨[.cs I64 t],[]⟩
theorem ok:Ycs PR 191 FS:=
 Ywh Xe Xf Proofs.Tryz.f191 h0 (.R (.L (.R (.one (.fr 0))))) (G:=G) Gok (L:=mkL [(0,Xhb.fr)]) (l:=[(0,.loop Xhb.c)]) ⟨Lam.cons Xhb.ok,trivial⟩
  (fun x=>by simp only[Xgx,mC,mB,mS,mO,mN];kernel_rfl)
end Xgx
def Xje (v:List (List Int)) (v2:Unit):Option Bool:=
 (Xgx v v2).bind fun v3=>some (decide (v3≥0))
namespace Xje
def G:Gam:=mkG [(191,Xgx.FS)]
def pts:List PT:=[.cs (.sl SB),.clo 170 (.cs .unit)]
def FS:FS:=Ycc [.sh,.sh] pts (fun x=>Xje x.1 x.2.1) fun t=>⟨[.cs .bool t],[]⟩
theorem ok:Ycs PR 169 FS:=
 Ywh Xe Xf Proofs.Tryz.f169 h0 .no (G:=G) (show GOk PR G from .cons Xgx.ok .nil) (L:=mkL []) (l:=[]) hT
  (fun x=>by simp only[Xje,mC,mB,mS,mO,mN];kernel_rfl)
end Xje
noncomputable def Xlr (s:List Int):Option (List Int):=Ytl s
def Xlr.FS:FS:=Ycc [.mu] [.cl .deep (.sl (.int .i64))] (fun x=>Xlr x.1) fun y=>⟨[],[.cl .deep (.sl (.int .i64)) y]⟩
theorem Xlr.ok:Ycs Go.Proofs.Tryz.prog 132 Xlr.FS:=
 Yvr ⟨Go.Proofs.Tryz.f132,by kernel_rfl,by kernel_rfl,by kernel_rfl⟩ (fun blk off cap zs w h1 h2 h3=>Go.Proofs.AnyM.slices_Sort_int Go.Proofs.Tryz.Xpt blk off cap zs w h1 h2 h3) (fun p cap w=>Go.Proofs.AnyM.slices_Sort_int_none Go.Proofs.Tryz.Xpt p cap w)
noncomputable def Xak (s:List Int):Option (List Int):=Ylo s
noncomputable def Xak.FS:FS:=Ycc [.sh] [.cl .sh (.sl (.int .i64))] (fun x=>Xak x.1) fun y=>⟨[.cl .deep (.sl (.int .i64)) y],[]⟩
theorem Xak.ok:Ycs Go.Proofs.Tryz.prog 63 Xak.FS:=
 Yvn (hn:=⟨[],[],[],0⟩) Xe Xf (fn:=Go.Proofs.Tryz.f63) (by kernel_rfl) (Yjz (by kernel_rfl)) (by kernel_rfl) (by kernel_rfl) .deep (.int .i64) 97 97 2 (by kernel_rfl) (by kernel_rfl) (by kernel_rfl) (by kernel_rfl) (by kernel_rfl) (by kernel_rfl) (by kernel_rfl) (by kernel_rfl) (fun xs=>by kernel_rfl) (fun xs=>by kernel_rfl) (fun xs=>by kernel_rfl) (fun xs=>by kernel_rfl)
def Xb9.B (v5:Nat) (v6:Nat) (v4:Int) (v7:Int) (v8:List Int):Option ((Int×Int×List Int)⊕(Int×List Int)):=
 cond (decide (v7<(v6:Int))) (cond (inB v7 v6) (cond (inB (w64 (v7-1)) v6) ((some ((v8.getD (v5+v7.toNat) 0) != (v8.getD (v5+(w64 (v7-1)).toNat) 0))).bind fun v9=>cond v9 (cond (inB v7 v6) (cond (inB v4 v8.length) (some (.inl (w64 (v4+1),w64 (v7+1),v8.set v4.toNat (v8.getD (v5+v7.toNat) 0)))) none) none) (some (.inl (v4,w64 (v7+1),v8)))) none) none) (some (.inr (v4,v8)))
def Xb9 (v5:Nat) (v6:Nat):(Int×Int×List Int)→Option (Int×List Int):=
 Yaj fun s=>Xb9.B v5 v6 s.1 s.2.1 s.2.2
def Xbl.B (v:List Int) (v2:Int):Option (Int⊕(((Nat×Nat×List Int)⊕Unit))):=
 cond (decide (v2<(v.length:Int))) (cond (inB v2 v.length) (cond (inB (w64 (v2-1)) v.length) ((some ((v.getD v2.toNat 0) == (v.getD ((w64 (v2-1)).toNat) 0))).bind fun v3=>cond v3 (cond (decide ((0:Int)≤v2)&&decide (v2≤(v.length:Int))) ((Xb9 v2.toNat (v.length-v2.toNat) (v2,1,v)).bind fun v10=>cond (decide ((0:Int)≤v10.1)&&decide (v10.1≤(v10.2.length:Int))) ((some (splice v10.2 v10.1.toNat (List.replicate (v10.2.length-v10.1.toNat) 0))).bind fun v11=>cond (decide ((0:Int)≤v10.1)&&decide (v10.1≤(v11.length:Int))) (some (.inr (.inl (0,v10.1.toNat-0,v11)))) none) none) none) (some (.inl (w64 (v2+1))))) none) none) (some (.inr (.inr ())))
def Xbl (v:List Int):Int→Option (((Nat×Nat×List Int)⊕Unit)):=
 Yaj fun s=>Xbl.B v s
def Xjy (v:List Int):Option (List Int):=
 cond (decide ((v.length:Int)<2)) (some v) ((Xbl v 1).bind fun v12=>sel v12 (fun v13=>some ((v13.2.2.drop v13.1).take v13.2.1)) (fun v14=>some v))
namespace Xb9
def c:=Yao (Yai Proofs.Tryz.f133) [1,1,0,1,0,0,1,0,0,1,0,1,0,1,0,0]
def sp:SP:=⟨[(0,.seg 0 []),(3,.cs I64),(4,.sub 0 []),(5,.cs I64)],[(0,.reg,.cd SI)]⟩
def fr:=Yh3 sp (fun x s=>Xb9.B x.1.2.2.1.2.1 x.1.2.2.1.2.2 s.1 s.2.1 s.2.2) (fun x=>(x.1.2.1,x.1.2.2.2.1,x.2.1)) fun x (bb0:Int×List Int) _ kk0=>kk0 (.ex 2) ⟨[(0,.seg 0 []),(3,.cs I64 bb0.1)],[sr 0 (.cd SI bb0.2)]⟩
theorem ok:Ya9 PR 61 1 (.loop c) fr:=
 Yv8 Xe Xf h0 [(2,([0,3],[0]))] (fun x s=>((x.1.1,s.1,x.1.2.2.1,s.2.1,x.1.2.2.2.2),(s.2.2,x.2.2)))
  (fun x s=>by simp only[B,mC,mB,mS,mO,mN];kernel_rfl)
end Xb9
namespace Xbl
def c:=Yao (Yai Proofs.Tryz.f133) [1,1,0,1,0,0]
def sp:SP:=⟨[(0,.seg 0 []),(3,.cs I64)],[(0,.reg,.cd SI)]⟩
def fr:=Yh3 sp (fun x s=>Xbl.B x.2.1 s) (fun x=>x.1.2.1) fun x (oo0:((Nat×Nat×List Int)⊕Unit)) _ kk0=>sel oo0 (fun bb0=>kk0 (.rt) ⟨[(2,.sub 0 [] bb0.1 bb0.2.1)],[sr 0 (.cd SI bb0.2.2)]⟩) (fun cc0=>kk0 (.ex 0) ⟨[(0,.seg 0 [])],[sr 0 (.cd SI x.2.1)]⟩)
theorem ok:Ya9 PR 61 1 (.loop c) fr:=
 Yst Xe Xf h0 (.R (.L (.one (.R (.L (.R (.L (.R (.one (.fr 1)))))))))) (G:=(mkG [])) .nil (L:=mkL [(1,Xb9.fr)]) (l:=[(1,.loop Xb9.c)]) ⟨Lam.cons Xb9.ok,trivial⟩ [(0,([0],[0]))] ([2],[0]) (fun x s=>((x.1.1,s,x.1.2.2),x.2))
  (fun x s=>by simp only[B,mC,mB,mS,mO,mN];kernel_rfl)
end Xbl
namespace Xjy
def pts:List PT:=[.cd SI]
def FS:FS:=Ycc [.mv] pts (fun x=>Xjy x.1) fun t=>⟨[.cd SI t],[]⟩
theorem ok:Ycs PR 133 FS:=
 Ywh Xe Xf Proofs.Tryz.f133 h0 (.R (.R (.L (.R (.one (.fr 0)))))) (G:=(mkG [])) .nil (L:=mkL [(1,Xb9.fr),(0,Xbl.fr)]) (l:=[(0,.loop Xbl.c)]) ⟨Lam.skip rfl (Lam.cons Xbl.ok),trivial⟩
  (fun x=>by simp only[Xjy,mC,mB,mS,mO,mN];kernel_rfl)
end Xjy
def Xec.B (v:List Xa) (v2:Int) (v3:Int) (v4:List Int):Option ((Int×List Int)⊕(List Int)):=
 cond (decide (v3<v2)) (cond (inB v3 v.length) (cond (decide ((v4++(v.getD v3.toNat Xb).2.2.2.1).length≤2147483648)) (some (.inl (w64 (v3+1),v4++(v.getD v3.toNat Xb).2.2.2.1))) none) none) (some (.inr v4))
def Xec (v:List Xa) (v2:Int):(Int×List Int)→Option (List Int):=
 Yaj fun s=>Xec.B v v2 s.1 s.2
def Xap (v:List Xa):Option ((List Int)×Bool):=
 (Xec v (v.length:Int) (0,[])).bind fun v5=>(Xlr v5).bind fun v6=>(Xak v6).bind fun v7=>(Xjy v7).bind fun v8=>some (v6,(v8.length:Int) == (v6.length:Int))
namespace Xap
def G:Gam:=mkG [(132,Xlr.FS),(63,Xak.FS),(133,Xjy.FS)]
theorem Gok:GOk PR G:=.cons Xlr.ok (.cons Xak.ok (.cons Xjy.ok .nil))
end Xap
namespace Xec
def c:=Yao (Yai Proofs.Tryz.f57) [1,1,0,1,0,0]
def sp:SP:=⟨[(4,.seg 4 []),(7,.cs (.sl Xc)),(8,.cs I64),(9,.cs I64)],[(4,.reg,.cd SI)]⟩
def fr:=Yh3 sp (fun x s=>Xec.B x.1.2.1 x.1.2.2.1 s.1 s.2) (fun x=>(x.1.2.2.2.1,x.2.1)) fun x (bb0:List Int) _ kk0=>kk0 (.ex 0) ⟨[(4,.seg 4 [])],[sr 4 (.cd SI bb0)]⟩
theorem ok:Ya9 PR 28 1 (.loop c) fr:=
 Ywi Xe Xf h0 (G:=Xap.G) Xap.Gok [(0,([4],[4]))] (fun x s=>((x.1.1,x.1.2.1,x.1.2.2.1,s.1,x.1.2.2.2.2),(s.2,x.2.2)))
  (fun x s=>by simp only[B,mC,mB,mS,mO,mN];kernel_rfl)
end Xec
namespace Xap
def pts:List PT:=[.cs (.sl Xc)]
def FS:FS:=Ycc [.sh] pts (fun x=>Xap x.1) fun t=>⟨[.cd SI t.1,.cs .bool t.2],[]⟩
theorem ok:Ycs PR 57 FS:=
 Ywh Xe Xf Proofs.Tryz.f57 h0 (.R (.R (.L (.R (.one (.fr 0)))))) (G:=G) Gok (L:=mkL [(0,Xec.fr)]) (l:=[(0,.loop Xec.c)]) ⟨Lam.cons Xec.ok,trivial⟩
  (fun x=>by simp only[Xap,mC,mB,mS,mO,mN];kernel_rfl)
end Xap
def Xgz (v:List Xa):Option Int:=
 some (v.length:Int)
namespace Xgz
def pts:List PT:=[.cs (.sl Xc)]
def FS:FS:=Ycc [.sh] pts (fun x=>Xgz x.1) fun t=>⟨[.cs I64 t],[]⟩
theorem ok:Ycs PR 136 FS:=
 Ywh Xe Xf Proofs.Tryz.f136 h0 .no (G:=(mkG [])) .nil (L:=mkL []) (l:=[]) hT
  (fun x=>by simp only[Xgz,mC,mB,mS,mO,mN];kernel_rfl)
end Xgz
def Xdn.B (v:Fs_) (v5:List Xa) (v6:Int) (v7:Int) (v9:List Xg) (v8:Int) (v10:Int):Option (Int⊕((Int⊕Unit))):=
 cond (decide (v10<v8)) (cond (inB v10 v9.length) ((Xgz v.1).bind fun v11=>(some (decide ((v9.getD v10.toNat Xl).2.1≥v11))).bind fun v12=>cond (cond (!v12) (inB (v9.getD v10.toNat Xl).2.1 v.1.length) true) ((some (cond v12 true ((v.1.getD (v9.getD v10.toNat Xl).2.1.toNat Xb).1 == 0))).bind fun v13=>cond v13 (some (.inr (.inl 4))) (some (.inl (w64 (v10+1))))) none) none) (some (.inr (.inr ())))
def Xdn (v:Fs_) (v5:List Xa) (v6:Int) (v7:Int) (v9:List Xg) (v8:Int):Int→Option ((Int⊕Unit)):=
 Yaj fun s=>Xdn.B v v5 v6 v7 v9 v8 s
def Xg1.B (v:Fs_) (v5:List Xa) (v6:Int) (v7:Int):Option (Int⊕((Int⊕Unit))):=
 cond (decide (v7<v6)) (cond (inB v7 v5.length) ((some ((v5.getD v7.toNat Xb).2.2.2.2.1.length:Int)).bind fun v8=>(Xdn v v5 v6 v7 (v5.getD v7.toNat Xb).2.2.2.2.1 v8 0).bind fun v14=>sel v14 (fun v15=>some (.inr (.inl v15))) (fun v16=>some (.inl (w64 (v7+1))))) none) (some (.inr (.inr ())))
def Xg1 (v:Fs_) (v5:List Xa) (v6:Int):Int→Option ((Int⊕Unit)):=
 Yaj fun s=>Xg1.B v v5 v6 s
def Xbm (v:Fs_):Option Int:=
 (Xjw v).bind fun v2=>cond (v2 != 0) (some v2) ((Xje v.2.1 ()).bind fun v3=>cond v3 (some 2) ((Xap v.1).bind fun v4=>cond (!v4.2) (some 7) ((Xg1 v v.1 (v.1.length:Int) 0).bind fun v17=>sel v17 (fun v18=>some v18) (fun v19=>some 0))))
namespace Xbm
def G:Gam:=mkG [(168,Xjw.FS),(169,Xje.FS),(57,Xap.FS),(136,Xgz.FS)]
theorem Gok:GOk PR G:=.cons Xjw.ok (.cons Xje.ok (.cons Xap.ok (.cons Xgz.ok .nil)))
end Xbm
namespace Xdn
def c:=Yao (Yai Proofs.Tryz.f121) [1,1,1,1,0,1,0,0,1,1,0,0,1,1,0,0]
def sp:SP:=⟨[(1,.pt Xk),(27,.cs (.sl Xc)),(28,.cs I64),(29,.cs I64),(34,.cs (.sl Xi)),(35,.cs I64),(36,.cs I64)],[]⟩
def fr:=Yh3 sp (fun x s=>Xdn.B x.1.1 x.1.2.1 x.1.2.2.1 x.1.2.2.2.1 x.1.2.2.2.2.1 x.1.2.2.2.2.2.1 s) (fun x=>x.1.2.2.2.2.2.2.1) fun x (oo0:(Int⊕Unit)) _ kk0=>sel oo0 (fun bb0=>kk0 (.rt) ⟨[(2,.cs I64 bb0)],[]⟩) (fun cc0=>kk0 (.ex 2) ⟨[(1,.pt Xk x.1.1),(27,.cs (.sl Xc) x.1.2.1),(28,.cs I64 x.1.2.2.1),(29,.cs I64 x.1.2.2.2.1)],[]⟩)
theorem ok:Ya9 PR 58 1 (.loop c) fr:=
 Yst Xe Xf ⟨[1],[],[],0⟩ .no (G:=Xbm.G) Xbm.Gok (L:=mkL []) (l:=[]) hT [(2,([1,27,28,29],[]))] ([2],[]) (fun x s=>((x.1.1,x.1.2.1,x.1.2.2.1,x.1.2.2.2.1,x.1.2.2.2.2.1,x.1.2.2.2.2.2.1,s,x.1.2.2.2.2.2.2.2),x.2))
  (fun x s=>by simp only[B,mC,mB,mS,mO,mN];kernel_rfl)
end Xdn
namespace Xg1
def c:=Yao (Yai Proofs.Tryz.f121) [1,1,1,1,0,1,0,0]
def sp:SP:=⟨[(1,.pt Xk),(27,.cs (.sl Xc)),(28,.cs I64),(29,.cs I64)],[]⟩
def fr:=Yh3 sp (fun x s=>Xg1.B x.1.1 x.1.2.1 x.1.2.2.1 s) (fun x=>x.1.2.2.2.1) fun x (oo0:(Int⊕Unit)) _ kk0=>sel oo0 (fun bb0=>kk0 (.rt) ⟨[(2,.cs I64 bb0)],[]⟩) (fun cc0=>kk0 (.ex 0) ⟨[],[]⟩)
theorem ok:Ya9 PR 58 1 (.loop c) fr:=
 Yst Xe Xf ⟨[1],[],[],0⟩ (.R (.R (.L (.one (.R (.R (.one (.fr 1)))))))) (G:=Xbm.G) Xbm.Gok (L:=mkL [(1,Xdn.fr)]) (l:=[(1,.loop Xdn.c)]) ⟨Lam.cons Xdn.ok,trivial⟩ [(0,([],[]))] ([2],[]) (fun x s=>((x.1.1,x.1.2.1,x.1.2.2.1,s,x.1.2.2.2.2),x.2))
  (fun x s=>by simp only[B,mC,mB,mS,mO,mN];kernel_rfl)
end Xg1
namespace Xbm
def pts:List PT:=[.cs Xk]
def FS:FS:=Ycc [.sh] pts (fun x=>Xbm x.1) fun t=>⟨[.cs I64 t],[]⟩
theorem ok:Ycs PR 121 FS:=
 Ywh Xe Xf Proofs.Tryz.f121 ⟨[1],[],[],0⟩ (.R (.R (.R (.R (.L (.R (.one (.fr 0)))))))) (G:=G) Gok (L:=mkL [(1,Xdn.fr),(0,Xg1.fr)]) (l:=[(0,.loop Xg1.c)]) ⟨Lam.skip rfl (Lam.cons Xg1.ok),trivial⟩
  (fun x=>by simp only[Xbm,mC,mB,mS,mO,mN];kernel_rfl)
end Xbm
def Xdi.B (v:List Xa) (v8:List Xg) (v9:Int) (v7:List Bool) (v10:Int) (v11:List Int):Option ((Int×List Int)⊕(List Int)):=
 cond (decide (v10<v9)) (cond (inB v10 v8.length) (cond (decide ((v11++([(v8.getD v10.toNat Xl).2.1])).length≤2147483648)) (some (.inl (w64 (v10+1),v11++([(v8.getD v10.toNat Xl).2.1])))) none) none) (some (.inr v11))
def Xdi (v:List Xa) (v8:List Xg) (v9:Int) (v7:List Bool):(Int×List Int)→Option (List Int):=
 Yaj fun s=>Xdi.B v v8 v9 v7 s.1 s.2
def Xbw.B (v:List Xa) (v3:List Bool) (v4:List Int):Option (((List Bool)×List Int)⊕(List Bool)):=
 cond (decide ((v4.length:Int)>0)) (cond (inB (w64 ((v4.length:Int)-1)) v4.length) (cond (decide ((0:Int)≤(w64 ((v4.length:Int)-1)))&&decide ((w64 ((v4.length:Int)-1))≤(v4.length:Int))) ((some ((v4.drop 0).take (((w64 ((v4.length:Int)-1)).toNat)-0))).bind fun v5=>cond (inB (v4.getD ((w64 ((v4.length:Int)-1)).toNat) 0) v3.length) ((some (v3.getD ((v4.getD ((w64 ((v4.length:Int)-1)).toNat) 0).toNat) false)).bind fun v6=>cond v6 (some (.inl (v3,v5))) (cond (inB (v4.getD ((w64 ((v4.length:Int)-1)).toNat) 0) v3.length) ((some (v3.set ((v4.getD ((w64 ((v4.length:Int)-1)).toNat) 0).toNat) true)).bind fun v7=>cond (inB (v4.getD ((w64 ((v4.length:Int)-1)).toNat) 0) v.length) ((some (v.getD (v4.getD ((w64 ((v4.length:Int)-1)).toNat) 0).toNat Xb).2.2.2.2.1).bind fun v8=>(Xdi v v8 (v8.length:Int) v7 (0,v5)).bind fun v12=>some (.inl (v7,v12))) none) none)) none) none) none) (some (.inr v3))
def Xbw (v:List Xa):((List Bool)×List Int)→Option (List Bool):=
 Yaj fun s=>Xbw.B v s.1 s.2
def Xeh.B (v14:Int) (v13:List Bool) (v15:Int) (v16:List Int):Option ((Int×List Int)⊕(List Int)):=
 cond (decide (v15<v14)) (cond (inB v15 v13.length) (cond (v13.getD v15.toNat false) (cond (decide ((v16++([v15])).length≤2147483648)) (some (.inl (w64 (v15+1),v16++([v15])))) none) (some (.inl (w64 (v15+1),v16)))) none) (some (.inr v16))
def Xeh (v14:Int) (v13:List Bool):(Int×List Int)→Option (List Int):=
 Yaj fun s=>Xeh.B v14 v13 s.1 s.2
def Xim (v:List Xa) (v2:Int):Option (List Int):=
 cond (decide ((0:Int)≤(v.length:Int))&&(decide ((v.length:Int)≤(v.length:Int))&&decide ((v.length:Int)≤2147483648))) ((Xbw v (List.replicate (v.length:Int).toNat false,[v2])).bind fun v13=>(Xeh (v13.length:Int) v13 (0,[])).bind fun v17=>some v17) none
namespace Xdi
def c:=Yao (Yai Proofs.Tryz.f171) [1,1,1,0,0,0,1,0,1,1,1,1,1,0,0]
def sp:SP:=⟨[(0,.cs (.sl Xc)),(5,.seg 5 []),(6,.seg 6 []),(43,.cs (.sl Xi)),(44,.cs I64),(45,.cs I64)],[(5,.reg,.cd (.sl .bool)),(6,.reg,.cd SI)]⟩
def fr:=Yh3 sp (fun x s=>Xdi.B x.1.1 x.1.2.2.2.1 x.1.2.2.2.2.1 x.2.1 s.1 s.2) (fun x=>(x.1.2.2.2.2.2.1,x.2.2.1)) fun x (bb0:List Int) _ kk0=>kk0 (.ex 2) ⟨[(0,.cs (.sl Xc) x.1.1),(5,.seg 5 []),(6,.seg 6 [])],[sr 5 (.cd (.sl .bool) x.2.1),sr 6 (.cd SI bb0)]⟩
theorem ok:Ya9 PR 69 2 (.loop c) fr:=
 Yv8 Xe Xf h0 [(2,([0,5,6],[5,6]))] (fun x s=>((x.1.1,x.1.2.1,x.1.2.2.1,x.1.2.2.2.1,x.1.2.2.2.2.1,s.1,x.1.2.2.2.2.2.2),(x.2.1,s.2,x.2.2.2)))
  (fun x s=>by simp only[B,mC,mB,mS,mO,mN];kernel_rfl)
end Xdi
namespace Xbw
def c:=Yao (Yai Proofs.Tryz.f171) [1,1,1,0,0,0]
def sp:SP:=⟨[(0,.cs (.sl Xc)),(5,.seg 5 []),(6,.seg 6 [])],[(5,.reg,.cd (.sl .bool)),(6,.reg,.cd SI)]⟩
def fr:=Yh3 sp (fun x s=>Xbw.B x.1.1 s.1 s.2) (fun x=>(x.2.1,x.2.2.1)) fun x (bb0:List Bool) _ kk0=>kk0 (.ex 0) ⟨[(5,.seg 5 [])],[sr 5 (.cd (.sl .bool) bb0)]⟩
theorem ok:Ya9 PR 69 2 (.loop c) fr:=
 Ywg Xe Xf h0 (.R (.one (.R (.R (.R (.R (.R (.one (.fr 1))))))))) (L:=mkL [(1,Xdi.fr)]) (l:=[(1,.loop Xdi.c)]) ⟨Lam.cons Xdi.ok,trivial⟩ [(0,([5],[5]))] (fun x s=>(x.1,(s.1,s.2,x.2.2.2)))
  (fun x s=>by simp only[B,mC,mB,mS,mO,mN];kernel_rfl)
end Xbw
namespace Xeh
def c:=Yao (Yai Proofs.Tryz.f171) [1,1,1,1,1,0,1,0,0]
def sp:SP:=⟨[(10,.seg 10 []),(55,.seg 5 []),(56,.cs I64),(57,.cs I64)],[(5,.reg,.cd (.sl .bool)),(10,.reg,.cd SI)]⟩
def fr:=Yh3 sp (fun x s=>Xeh.B x.1.2.2.1 x.2.1 s.1 s.2) (fun x=>(x.1.2.2.2.1,x.2.2.1)) fun x (bb0:List Int) _ kk0=>kk0 (.ex 4) ⟨[(10,.seg 10 [])],[sr 10 (.cd SI bb0)]⟩
theorem ok:Ya9 PR 69 2 (.loop c) fr:=
 Yv8 Xe Xf h0 [(4,([10],[10]))] (fun x s=>((x.1.1,x.1.2.1,x.1.2.2.1,s.1,x.1.2.2.2.2),(x.2.1,s.2,x.2.2.2)))
  (fun x s=>by simp only[B,mC,mB,mS,mO,mN];kernel_rfl)
end Xeh
namespace Xim
def pts:List PT:=[.cs (.sl Xc),.cs I64]
def FS:FS:=Ycc [.sh,.sh] pts (fun x=>Xim x.1 x.2.1) fun t=>⟨[.cd SI t],[]⟩
theorem ok:Ycs PR 171 FS:=
 Ywh Xe Xf Proofs.Tryz.f171 h0 (.R (.R (.R (.two (.one (.fr 0)) (.R (.L (.R (.one (.fr 2))))))))) (G:=(mkG [])) .nil (L:=mkL [(1,Xdi.fr),(0,Xbw.fr),(2,Xeh.fr)]) (l:=[(0,.loop Xbw.c),(2,.loop Xeh.c)]) ⟨Lam.skip rfl (Lam.cons Xbw.ok),Lam.skip rfl (Lam.skip rfl (Lam.cons Xeh.ok)),trivial⟩
  (fun x=>by simp only[Xim,mC,mB,mS,mO,mN];kernel_rfl)
end Xim
def Xc7.B (v2:Int) (v:List Xa) (v4:Int) (v5:Int) (v8:List Xg) (v6:Int) (v7:Int) (v9:Int):Option ((Int×Int)⊕Int):=
 cond (decide (v9<v6)) (cond (inB v9 v8.length) (cond ((v8.getD v9.toNat Xl).2.1 == v2) (some (.inl (w64 (v7+1),w64 (v9+1)))) (some (.inl (v7,w64 (v9+1))))) none) (some (.inr v7))
def Xc7 (v2:Int) (v:List Xa) (v4:Int) (v5:Int) (v8:List Xg) (v6:Int):(Int×Int)→Option Int:=
 Yaj fun s=>Xc7.B v2 v v4 v5 v8 v6 s.1 s.2
def Xej.B (v2:Int) (v:List Xa) (v4:Int) (v3:Int) (v5:Int):Option ((Int×Int)⊕Int):=
 cond (decide (v5<v4)) (cond (inB v5 v.length) ((some ((v.getD v5.toNat Xb).2.2.2.2.1.length:Int)).bind fun v6=>(Xc7 v2 v v4 v5 (v.getD v5.toNat Xb).2.2.2.2.1 v6 (v3,0)).bind fun v10=>some (.inl (v10,w64 (v5+1)))) none) (some (.inr v3))
def Xej (v2:Int) (v:List Xa) (v4:Int):(Int×Int)→Option Int:=
 Yaj fun s=>Xej.B v2 v v4 s.1 s.2
def Xj1 (v:List Xa) (v2:Int):Option Int:=
 (Xej v2 v (v.length:Int) (0,0)).bind fun v11=>some v11
namespace Xc7
def c:=Yao (Yai Proofs.Tryz.f172) [1,1,0,1,0,0,1,1,0,0,1,1,0,0]
def sp:SP:=⟨[(1,.cs I64),(5,.cs I64),(10,.cs (.sl Xc)),(11,.cs I64),(12,.cs I64),(17,.cs (.sl Xi)),(18,.cs I64),(19,.cs I64)],[]⟩
def fr:=Yh3 sp (fun x s=>Xc7.B x.1.1 x.1.2.2.1 x.1.2.2.2.1 x.1.2.2.2.2.1 x.1.2.2.2.2.2.1 x.1.2.2.2.2.2.2.1 s.1 s.2) (fun x=>(x.1.2.1,x.1.2.2.2.2.2.2.2.1)) fun x (bb0:Int) _ kk0=>kk0 (.ex 2) ⟨[(1,.cs I64 x.1.1),(5,.cs I64 bb0),(10,.cs (.sl Xc) x.1.2.2.1),(11,.cs I64 x.1.2.2.2.1),(12,.cs I64 x.1.2.2.2.2.1)],[]⟩
theorem ok:Ya9 PR 32 2 (.loop c) fr:=
 Yv8 Xe Xf h0 [(2,([1,5,10,11,12],[]))] (fun x s=>((x.1.1,s.1,x.1.2.2.1,x.1.2.2.2.1,x.1.2.2.2.2.1,x.1.2.2.2.2.2.1,x.1.2.2.2.2.2.2.1,s.2,x.1.2.2.2.2.2.2.2.2),x.2))
  (fun x s=>by simp only[B,mC,mB,mS,mO,mN];kernel_rfl)
end Xc7
namespace Xej
def c:=Yao (Yai Proofs.Tryz.f172) [1,1,0,1,0,0]
def sp:SP:=⟨[(1,.cs I64),(5,.cs I64),(10,.cs (.sl Xc)),(11,.cs I64),(12,.cs I64)],[]⟩
def fr:=Yh3 sp (fun x s=>Xej.B x.1.1 x.1.2.2.1 x.1.2.2.2.1 s.1 s.2) (fun x=>(x.1.2.1,x.1.2.2.2.2.1)) fun x (bb0:Int) _ kk0=>kk0 (.ex 0) ⟨[(5,.cs I64 bb0)],[]⟩
theorem ok:Ya9 PR 32 2 (.loop c) fr:=
 Ywg Xe Xf h0 (.R (.R (.L (.one (.R (.R (.one (.fr 1)))))))) (L:=mkL [(1,Xc7.fr)]) (l:=[(1,.loop Xc7.c)]) ⟨Lam.cons Xc7.ok,trivial⟩ [(0,([5],[]))] (fun x s=>((x.1.1,s.1,x.1.2.2.1,x.1.2.2.2.1,s.2,x.1.2.2.2.2.2),x.2))
  (fun x s=>by simp only[B,mC,mB,mS,mO,mN];kernel_rfl)
end Xej
namespace Xj1
def pts:List PT:=[.cs (.sl Xc),.cs I64]
def FS:FS:=Ycc [.sh,.sh] pts (fun x=>Xj1 x.1 x.2.1) fun t=>⟨[.cs I64 t],[]⟩
theorem ok:Ycs PR 172 FS:=
 Ywh Xe Xf Proofs.Tryz.f172 h0 (.R (.R (.L (.R (.one (.fr 0)))))) (G:=(mkG [])) .nil (L:=mkL [(1,Xc7.fr),(0,Xej.fr)]) (l:=[(0,.loop Xej.c)]) ⟨Lam.skip rfl (Lam.cons Xej.ok),trivial⟩
  (fun x=>by simp only[Xj1,mC,mB,mS,mO,mN];kernel_rfl)
end Xj1
def Xgv.B (v:Fs_) (v3:List Xa) (v4:Int) (v2:List Int) (v5:Int):Option (Int⊕((Int⊕Unit))):=
 cond (decide (v5<v4)) (cond (inB v5 v3.length) ((Xj1 v.1 v5).bind fun v6=>(some (cond ((v3.getD v5.toNat Xb).1 == 1) ((v3.getD v5.toNat Xb).2.1 != v6) false)).bind fun v7=>cond v7 (some (.inr (.inl 1))) ((some (cond ((v3.getD v5.toNat Xb).1 == 2) (v5 == 0) false)).bind fun v8=>cond (cond v8 (v6 != 0) false) (some (.inr (.inl 1))) ((some (cond ((v3.getD v5.toNat Xb).1 == 2) (decide (v5>0)) false)).bind fun v9=>cond (cond v9 (v6 != 1) false) (some (.inr (.inl 1))) (cond ((v3.getD v5.toNat Xb).1 != 0) ((Xcm v2 v5).bind fun v10=>cond (!v10) (some (.inr (.inl 1))) (some (.inl (w64 (v5+1))))) (some (.inl (w64 (v5+1)))))))) none) (some (.inr (.inr ())))
def Xgv (v:Fs_) (v3:List Xa) (v4:Int) (v2:List Int):Int→Option ((Int⊕Unit)):=
 Yaj fun s=>Xgv.B v v3 v4 v2 s
def Xfv (v:Fs_):Option Int:=
 (Xim v.1 0).bind fun v2=>(Xgv v v.1 (v.1.length:Int) v2 0).bind fun v11=>sel v11 (fun v12=>some v12) (fun v13=>some 0)
namespace Xfv
def G:Gam:=mkG [(171,Xim.FS),(172,Xj1.FS),(58,Xcm.FS)]
theorem Gok:GOk PR G:=.cons Xim.ok (.cons Xj1.ok (.cons Xcm.ok .nil))
end Xfv
namespace Xgv
def c:=Yao (Yai Proofs.Tryz.f122) [1,1,0,1,0,0]
def sp:SP:=⟨[(1,.pt Xk),(3,.seg 3 []),(12,.cs (.sl Xc)),(13,.cs I64),(14,.cs I64)],[(3,.reg,.cd SI)]⟩
def fr:=Yh3 sp (fun x s=>Xgv.B x.1.1 x.1.2.2.1 x.1.2.2.2.1 x.2.1 s) (fun x=>x.1.2.2.2.2.1) fun x (oo0:(Int⊕Unit)) _ kk0=>sel oo0 (fun bb0=>kk0 (.rt) ⟨[(2,.cs I64 bb0)],[]⟩) (fun cc0=>kk0 (.ex 0) ⟨[],[]⟩)
theorem ok:Ya9 PR 66 1 (.loop c) fr:=
 Yst Xe Xf ⟨[1],[],[],0⟩ .no (G:=Xfv.G) Xfv.Gok (L:=mkL []) (l:=[]) hT [(0,([],[]))] ([2],[]) (fun x s=>((x.1.1,x.1.2.1,x.1.2.2.1,x.1.2.2.2.1,s,x.1.2.2.2.2.2),x.2))
  (fun x s=>by simp only[B,mC,mB,mS,mO,mN];kernel_rfl)
end Xgv
namespace Xfv
def pts:List PT:=[.cs Xk]
def FS:FS:=Ycc [.sh] pts (fun x=>Xfv x.1) fun t=>⟨[.cs I64 t],[]⟩
theorem ok:Ycs PR 122 FS:=
 Ywh Xe Xf Proofs.Tryz.f122 ⟨[1],[],[],0⟩ (.R (.R (.L (.R (.one (.fr 0)))))) (G:=G) Gok (L:=mkL [(0,Xgv.fr)]) (l:=[(0,.loop Xgv.c)]) ⟨Lam.cons Xgv.ok,trivial⟩
  (fun x=>by simp only[Xfv,mC,mB,mS,mO,mN];kernel_rfl)
end Xfv
def Xdc.B (v:List Xa) (v2:Int) (v3:Int) (v7:List Int) (v6:Int) (v4:List Int) (v10:Xa) (v8:Int) (v9:List Int):Option ((Int×List Int)⊕(List Int)):=
 cond (decide (v8<v6)) (cond (inB v8 v7.length) ((some (cond (decide ((w64 (v10.2.2.1-(w64 (v8*8))))<8)) (w64 (v10.2.2.1-(w64 (v8*8)))) 8)).bind fun v11=>cond (inB (v7.getD v8.toNat 0) 20) (some (.inl (w64 (v8+1),v9.set ((v7.getD v8.toNat 0).toNat) v11))) none) none) (some (.inr v9))
def Xdc (v:List Xa) (v2:Int) (v3:Int) (v7:List Int) (v6:Int) (v4:List Int) (v10:Xa):(Int×List Int)→Option (List Int):=
 Yaj fun s=>Xdc.B v v2 v3 v7 v6 v4 v10 s.1 s.2
def Xf7.B (v:List Xa) (v2:Int) (v4:List Int) (v3:Int) (v5:List Int):Option ((Int×List Int)⊕(List Int)):=
 cond (decide (v3<v2)) (cond (inB v3 v.length) ((some ((v.getD v3.toNat Xb).2.2.2.1.length:Int)).bind fun v6=>(Xdc v v2 v3 (v.getD v3.toNat Xb).2.2.2.1 v6 v4 (v.getD v3.toNat Xb) (0,v5)).bind fun v12=>some (.inl (w64 (v3+1),v12))) none) (some (.inr v5))
def Xf7 (v:List Xa) (v2:Int) (v4:List Int):(Int×List Int)→Option (List Int):=
 Yaj fun s=>Xf7.B v v2 v4 s.1 s.2
def Xhg (v:List Xa):Option (List Int):=
 (Xf7 v (v.length:Int) (List.replicate 20 0) (0,(List.replicate 20 0))).bind fun v13=>some v13
namespace Xdc
def c:=Yao (Yai Proofs.Tryz.f125) [1,1,0,1,0,0,1,1,0,0,1,1,0,0]
def sp:SP:=⟨[(2,.loc 2 []),(3,.loc 3 []),(5,.loc 5 []),(8,.cs (.sl Xc)),(9,.cs I64),(10,.cs I64),(15,.cs SI),(16,.cs I64),(17,.cs I64)],[(2,.mem,.cd (.arr 20 I64)),(3,.mem,.cd (.arr 20 I64)),(5,.mem,.cs Xc)]⟩
def fr:=Yh3 sp (fun x s=>Xdc.B x.1.2.2.2.1 x.1.2.2.2.2.1 x.1.2.2.2.2.2.1 x.1.2.2.2.2.2.2.1 x.1.2.2.2.2.2.2.2.1 x.2.1 x.2.2.2.1 s.1 s.2) (fun x=>(x.1.2.2.2.2.2.2.2.2.1,x.2.2.1)) fun x (bb0:List Int) _ kk0=>kk0 (.ex 2) ⟨[(2,.loc 2 []),(3,.loc 3 []),(8,.cs (.sl Xc) x.1.2.2.2.1),(9,.cs I64 x.1.2.2.2.2.1),(10,.cs I64 x.1.2.2.2.2.2.1)],[(2,some ⟨.mem,.cd (.arr 20 I64) x.2.1⟩),(3,some ⟨.mem,.cd (.arr 20 I64) bb0⟩)]⟩
theorem ok:Ya9 PR 33 1 (.loop c) fr:=
 Yv8 Xe Xf h0 [(2,([2,3,8,9,10],[2,3]))] (fun x s=>((x.1.1,x.1.2.1,x.1.2.2.1,x.1.2.2.2.1,x.1.2.2.2.2.1,x.1.2.2.2.2.2.1,x.1.2.2.2.2.2.2.1,x.1.2.2.2.2.2.2.2.1,s.1,x.1.2.2.2.2.2.2.2.2.2),(x.2.1,s.2,x.2.2.2)))
  (fun x s=>by simp only[B,mC,mB,mS,mO,mN];kernel_rfl)
end Xdc
namespace Xf7
def c:=Yao (Yai Proofs.Tryz.f125) [1,1,0,1,0,0]
def sp:SP:=⟨[(2,.loc 2 []),(3,.loc 3 []),(8,.cs (.sl Xc)),(9,.cs I64),(10,.cs I64)],[(2,.mem,.cd (.arr 20 I64)),(3,.mem,.cd (.arr 20 I64))]⟩
def fr:=Yh3 sp (fun x s=>Xf7.B x.1.2.2.1 x.1.2.2.2.1 x.2.1 s.1 s.2) (fun x=>(x.1.2.2.2.2.1,x.2.2.1)) fun x (bb0:List Int) _ kk0=>kk0 (.ex 0) ⟨[(2,.loc 2 []),(3,.loc 3 [])],[(2,some ⟨.mem,.cd (.arr 20 I64) x.2.1⟩),(3,some ⟨.mem,.cd (.arr 20 I64) bb0⟩)]⟩
theorem ok:Ya9 PR 33 1 (.loop c) fr:=
 Ywg Xe Xf h0 (.R (.R (.L (.one (.R (.R (.one (.fr 1)))))))) (L:=mkL [(1,Xdc.fr)]) (l:=[(1,.loop Xdc.c)]) ⟨Lam.cons Xdc.ok,trivial⟩ [(0,([2,3],[2,3]))] (fun x s=>((x.1.1,x.1.2.1,x.1.2.2.1,x.1.2.2.2.1,s.1,x.1.2.2.2.2.2),(x.2.1,s.2,x.2.2.2)))
  (fun x s=>by simp only[B,mC,mB,mS,mO,mN];kernel_rfl)
end Xf7
namespace Xhg
def pts:List PT:=[.cs (.sl Xc)]
def FS:FS:=Ycc [.sh] pts (fun x=>Xhg x.1) fun t=>⟨[.cs (.arr 20 I64) t],[]⟩
theorem ok:Ycs PR 125 FS:=
 Ywh Xe Xf Proofs.Tryz.f125 h0 (.R (.R (.L (.R (.one (.fr 0)))))) (G:=(mkG [])) .nil (L:=mkL [(1,Xdc.fr),(0,Xf7.fr)]) (l:=[(0,.loop Xf7.c)]) ⟨Lam.skip rfl (Lam.cons Xf7.ok),trivial⟩
  (fun x=>by simp only[Xhg,mC,mB,mS,mO,mN];kernel_rfl)
end Xhg
def Xlo (v:List Int):Option Int:=
 some (v.length:Int)
namespace Xlo
def pts:List PT:=[.cs SB]
def FS:FS:=Ycc [.sh] pts (fun x=>Xlo x.1) fun t=>⟨[.cs I64 t],[]⟩
theorem ok:Ycs PR 173 FS:=
 Ywh Xe Xf Proofs.Tryz.f173 h0 .no (G:=(mkG [])) .nil (L:=mkL []) (l:=[]) hT
  (fun x=>by simp only[Xlo,mC,mB,mS,mO,mN];kernel_rfl)
end Xlo
def Xhz.B (v:Fs_) (v2:List Int) (v3:Int):Option (Int⊕((Int⊕Unit))):=
 cond (decide (v3<20)) (cond (inB v3 20) (cond (inB v3 v.2.1.length) ((Xlo (v.2.1.getD v3.toNat [])).bind fun v4=>cond (v4 != (v2.getD v3.toNat 0)) (some (.inr (.inl 1))) (some (.inl (w64 (v3+1))))) none) none) (some (.inr (.inr ())))
def Xhz (v:Fs_) (v2:List Int):Int→Option ((Int⊕Unit)):=
 Yaj fun s=>Xhz.B v v2 s
def Xfg (v:Fs_):Option Int:=
 (Xhg v.1).bind fun v2=>(Xhz v v2 0).bind fun v5=>sel v5 (fun v6=>some v6) (fun v7=>some 0)
namespace Xfg
def G:Gam:=mkG [(125,Xhg.FS),(173,Xlo.FS)]
theorem Gok:GOk PR G:=.cons Xhg.ok (.cons Xlo.ok .nil)
end Xfg
namespace Xhz
def c:=Yao (Yai Proofs.Tryz.f123) [1,0,1,0,0]
def sp:SP:=⟨[(1,.pt Xk),(7,.cs (.arr 20 I64)),(8,.cs I64)],[]⟩
def fr:=Yh3 sp (fun x s=>Xhz.B x.1.1 x.1.2.1 s) (fun x=>x.1.2.2.1) fun x (oo0:(Int⊕Unit)) _ kk0=>sel oo0 (fun bb0=>kk0 (.rt) ⟨[(2,.cs I64 bb0)],[]⟩) (fun cc0=>kk0 (.ex 0) ⟨[],[]⟩)
theorem ok:Ya9 PR 21 1 (.loop c) fr:=
 Yst Xe Xf ⟨[1],[],[],0⟩ .no (G:=Xfg.G) Xfg.Gok (L:=mkL []) (l:=[]) hT [(0,([],[]))] ([2],[]) (fun x s=>((x.1.1,x.1.2.1,s,x.1.2.2.2),x.2))
  (fun x s=>by simp only[B,mC,mB,mS,mO,mN];kernel_rfl)
end Xhz
namespace Xfg
def pts:List PT:=[.cs Xk]
def FS:FS:=Ycc [.sh] pts (fun x=>Xfg x.1) fun t=>⟨[.cs I64 t],[]⟩
theorem ok:Ycs PR 123 FS:=
 Ywh Xe Xf Proofs.Tryz.f123 ⟨[1],[],[],0⟩ (.R (.L (.R (.one (.fr 0))))) (G:=G) Gok (L:=mkL [(0,Xhz.fr)]) (l:=[(0,.loop Xhz.c)]) ⟨Lam.cons Xhz.ok,trivial⟩
  (fun x=>by simp only[Xfg,mC,mB,mS,mO,mN];kernel_rfl)
end Xfg
def Xde (v:Fs_):Option Int:=
 (Xbm v).bind fun v2=>cond (v2 != 0) (some v2) ((Xfv v).bind fun v3=>cond (v3 != 0) (some v3) ((Xfg v).bind fun v4=>some v4))
namespace Xde
def G:Gam:=mkG [(121,Xbm.FS),(122,Xfv.FS),(123,Xfg.FS)]
def pts:List PT:=[.cs Xk]
def FS:FS:=Ycc [.sh] pts (fun x=>Xde x.1) fun t=>⟨[.cs I64 t],[]⟩
theorem ok:Ycs PR 54 FS:=
 Ywh Xe Xf Proofs.Tryz.f54 ⟨[1],[],[],0⟩ .no (G:=G) (show GOk PR G from .cons Xbm.ok (.cons Xfv.ok (.cons Xfg.ok .nil))) (L:=mkL []) (l:=[]) hT
  (fun x=>by simp only[Xde,mC,mB,mS,mO,mN];kernel_rfl)
end Xde
end Mf
