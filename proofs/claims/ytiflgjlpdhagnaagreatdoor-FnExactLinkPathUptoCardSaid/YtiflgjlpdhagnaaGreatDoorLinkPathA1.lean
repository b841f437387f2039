import Derived.Test.YtiflgjlpdhagnaaGreatDoorMf4
import Derived.Test.YtiflgjlpdhagnaaGreatDoorLinkPathJ
import Derived.Test.YtiflgjlpdhagnaaGreatDoorProg
import Derived.KernelRfl
import Derived.Shelf.SortM.Plain
import Derived.Shelf.SortM.SortNone
import Derived.Shelf.SlGeneric
import Derived.Ground.SlgmProg
set_option linter.unusedVariables false
set_option linter.unusedSimpArgs false
namespace Go.Proofs
open Go.Shelf
def Tryz.Xim:Go.Shelf.Ren:=⟨fun | 5=>125 | 8=>142 | 7=>141 | 19=>160 | 20=>161 | 10=>151 | 11=>152 | 12=>153 | 13=>154 | 14=>155 | 15=>156 | 16=>157 | 17=>158 | 18=>159 | 30=>170 | 31=>171 | 32=>172 | 33=>173 | 34=>174 | 35=>175 | 40=>181 | n=>n,fun | 23=>59 | 25=>2 | 3=>3 | 32=>146 | 22=>59 | 0=>0 | 44=>160 | 46=>162 | 4=>4 | 36=>152 | 35=>151 | 41=>157 | 5=>5 | 9=>9 | 53=>168 | 57=>172 | 63=>179 | 64=>180 | n=>n,fun | n=>n⟩
theorem Tryz.Xi2:Go.Proofs.SlLaysM.n5 Tryz.prog Tryz.Xim:={
 mixed:=by kernel_rfl
 f5:=⟨Tryz.f125.name,by decide,Tryz.func125.trans (congrArg some (by kernel_rfl))⟩
 f7:=⟨Tryz.f141.name,by decide,Tryz.func141.trans (congrArg some (by kernel_rfl))⟩
 f8:=Tryz.func142.trans (congrArg some (by kernel_rfl))
 f10:=⟨Tryz.f151.name,by decide,Tryz.func151.trans (congrArg some (by kernel_rfl))⟩
 f11:=⟨Tryz.f152.name,by decide,Tryz.func152.trans (congrArg some (by kernel_rfl))⟩
 f12:=⟨Tryz.f153.name,by decide,Tryz.func153.trans (congrArg some (by kernel_rfl))⟩
 f13:=⟨Tryz.f154.name,by decide,Tryz.func154.trans (congrArg some (by kernel_rfl))⟩
 f14:=⟨Tryz.f155.name,by decide,Tryz.func155.trans (congrArg some (by kernel_rfl))⟩
 f15:=⟨Tryz.f156.name,by decide,Tryz.func156.trans (congrArg some (by kernel_rfl))⟩
 f16:=⟨Tryz.f157.name,by decide,Tryz.func157.trans (congrArg some (by kernel_rfl))⟩
 f17:=⟨Tryz.f158.name,by decide,Tryz.func158.trans (congrArg some (by kernel_rfl))⟩
 f18:=⟨Tryz.f159.name,by decide,Tryz.func159.trans (congrArg some (by kernel_rfl))⟩
 f19:=Tryz.func160.trans (congrArg some (by kernel_rfl))
 f20:=Tryz.func161.trans (congrArg some (by kernel_rfl))
 f30:=⟨Tryz.f170.name,by decide,Tryz.func170.trans (congrArg some (by kernel_rfl))⟩
 f31:=Tryz.func171.trans (congrArg some (by kernel_rfl))
 f32:=Tryz.func172.trans (congrArg some (by kernel_rfl))
 f33:=⟨Tryz.f173.name,by decide,Tryz.func173.trans (congrArg some (by kernel_rfl))⟩
 f34:=⟨Tryz.f174.name,by decide,Tryz.func174.trans (congrArg some (by kernel_rfl))⟩
 f35:=⟨Tryz.f175.name,by decide,Tryz.func175.trans (congrArg some (by kernel_rfl))⟩
 f40:=⟨Tryz.f181.name,by decide,Tryz.func181.trans (congrArg some (by kernel_rfl))⟩
 t0:=Tryz.underlying0
 a0:=Tryz.isAgg0
 z0:=Tryz.sizeOf0
 v0:=Tryz.zeroValue0
 t3:=Tryz.underlying3
 a3:=Tryz.isAgg3
 z3:=Tryz.sizeOf3
 v3:=Tryz.zeroValue3
 t4:=Tryz.underlying4
 a4:=Tryz.isAgg4
 z4:=Tryz.sizeOf4
 v4:=Tryz.zeroValue4
 t5:=Tryz.underlying5
 a5:=Tryz.isAgg5
 z5:=Tryz.sizeOf5
 v5:=Tryz.zeroValue5
 t9:=Tryz.underlying9
 a9:=Tryz.isAgg9
 z9:=Tryz.sizeOf9
 v9:=Tryz.zeroValue9
 t22:=Tryz.underlying59
 a22:=Tryz.isAgg59
 z22:=Tryz.sizeOf59
 v22:=Tryz.zeroValue59
 t23:=Tryz.underlying59
 a23:=Tryz.isAgg59
 z23:=Tryz.sizeOf59
 v23:=Tryz.zeroValue59
 t25:=Tryz.underlying2
 a25:=Tryz.isAgg2
 z25:=Tryz.sizeOf2
 v25:=Tryz.zeroValue2
 t32:=Tryz.underlying146
 a32:=Tryz.isAgg146
 z32:=Tryz.sizeOf146
 v32:=Tryz.zeroValue146
 t35:=Tryz.underlying151
 a35:=Tryz.isAgg151
 z35:=Tryz.sizeOf151
 v35:=Tryz.zeroValue151
 t36:=Tryz.underlying152
 a36:=Tryz.isAgg152
 z36:=Tryz.sizeOf152
 v36:=Tryz.zeroValue152
 t41:=Tryz.underlying157
 a41:=Tryz.isAgg157
 z41:=Tryz.sizeOf157
 v41:=Tryz.zeroValue157
 t44:=Tryz.underlying160
 a44:=Tryz.isAgg160
 z44:=Tryz.sizeOf160
 v44:=Tryz.zeroValue160
 t46:=Tryz.underlying162
 a46:=Tryz.isAgg162
 z46:=Tryz.sizeOf162
 v46:=Tryz.zeroValue162
 t53:=Tryz.underlying168
 a53:=Tryz.isAgg168
 z53:=Tryz.sizeOf168
 v53:=Tryz.zeroValue168
 t57:=Tryz.underlying172
 a57:=Tryz.isAgg172
 z57:=Tryz.sizeOf172
 v57:=Tryz.zeroValue172
 t63:=Tryz.underlying179
 a63:=Tryz.isAgg179
 z63:=Tryz.sizeOf179
 v63:=Tryz.zeroValue179
 t64:=Tryz.underlying180
 a64:=Tryz.isAgg180
 z64:=Tryz.sizeOf180
 v64:=Tryz.zeroValue180 }
end Go.Proofs
noncomputable section
namespace Mf
open Go
set_option maxRecDepth 100000
abbrev Xg:Ty:=(.pair .str (.pair (.int .i64) .unit))
abbrev Xf:Type:=(List UInt8)×Int×Unit
def Xn:Xf:=([],0,())
abbrev Xc:Ty:=(.pair (.int .i64) (.pair (.int .i64) (.pair (.int .i64) (.pair (.sl (.int .i64)) (.pair (.sl Xg) .unit)))))
abbrev Xb:Type:=Int×Int×Int×(List Int)×(List Xf)×Unit
def Xa:Xb:=(0,0,0,[],[],())
abbrev Xl:Ty:=(.pair (.sl Xc) (.pair (.sl (.sl (.int .u8))) .unit))
abbrev Fs_:Type:=(List Xb)×(List (List Int))×Unit
def Xm0:Fs_:=([],[],())
abbrev Xo:Ty:=(.pair (.int .i64) (.pair (.int .i64) (.pair (.int .i64) (.pair (.sl (.int .u8)) (.pair (.sl .str) (.pair Xl .unit))))))
abbrev Xq:Type:=Int×Int×Int×(List Int)×(List (List UInt8))×Fs_×Unit
def Xju:Xq:=(0,0,0,[],[],([],[],()),())
abbrev Xbc:Ty:=(.pair (.int .u8) (.pair (.int .u8) .unit))
abbrev Xha:Type:=Int×Int×Unit
def Xjn:Xha:=(0,0,())
abbrev Xdx:Ty:=(.pair (.int .i64) (.pair (.int .i64) (.pair .bool (.pair (.int .u8) .unit))))
abbrev Xhb:Type:=Int×Int×Bool×Int×Unit
def Xjo:Xhb:=(0,0,false,0,())
abbrev Xai:Ty:=(.pair .str (.pair (.int .u64) .unit))
abbrev Xdp:Type:=(List UInt8)×Int×Unit
def Xio:Xdp:=([],0,())
noncomputable abbrev PR:Program:=Go.Proofs.Tryz.prog
def tb:Tb:=[(2,⟨.int .i64,(.int .i64),8⟩),(3,⟨.int .i64,(.int .i64),8⟩),(4,⟨.bool,.bool,1⟩),(5,⟨.int .u8,(.int .u8),1⟩),(6,⟨.int .u8,(.int .u8),1⟩),(7,⟨.st [0,1,2,3],Xdx,24⟩),(8,⟨.st [0,1,2,3],Xdx,24⟩),(9,⟨.str,.str,16⟩),(10,⟨.str,.str,16⟩),(11,⟨.str,.str,16⟩),(12,⟨.int .u64,(.int .u64),8⟩),(13,⟨.st [0,1],Xai,24⟩),(14,⟨.st [0,1],Xai,24⟩),(21,⟨.int .i32,(.int .i32),4⟩),(22,⟨.sl 62,(.sl Xc),24⟩),(23,⟨.sl 27,(.sl (.sl (.int .u8))),24⟩),(24,⟨.st [0,1],Xl,48⟩),(25,⟨.st [0,1],Xl,48⟩),(27,⟨.sl 5,(.sl (.int .u8)),24⟩),(28,⟨.sl 9,(.sl .str),24⟩),(29,⟨.sl 69,(.sl Xc),24⟩),(30,⟨.st [0,1],Xl,48⟩),(31,⟨.st [0,1],Xl,48⟩),(32,⟨.st [0,1,2,3,4,5],Xo,120⟩),(33,⟨.st [0,1,2,3,4,5],Xo,120⟩),(59,⟨.sl 2,(.sl (.int .i64)),24⟩),(60,⟨.sl 130,(.sl Xg),24⟩),(61,⟨.st [0,1,2,3,4],Xc,72⟩),(62,⟨.st [0,1,2,3,4],Xc,72⟩),(67,⟨.sl 78,(.sl Xg),24⟩),(68,⟨.st [0,1,2,3,4],Xc,72⟩),(69,⟨.st [0,1,2,3,4],Xc,72⟩),(77,⟨.st [0,1],Xg,24⟩),(78,⟨.st [0,1],Xg,24⟩),(115,⟨.arr 20 2,(.arr 20 (.int .i64)),160⟩),(124,⟨.sl 4,(.sl .bool),24⟩),(130,⟨.st [0,1],Xg,24⟩),(146,⟨.int .u64,(.int .u64),8⟩),(151,⟨.int .i64,(.int .i64),8⟩),(160,⟨.int .u32,(.int .u32),4⟩),(162,⟨.int .u64,(.int .u64),8⟩),(168,⟨.int .u64,(.int .u64),8⟩),(183,⟨.arr 256 5,(.arr 256 (.int .u8)),256⟩),(184,⟨.st [0,1],Xbc,2⟩),(185,⟨.st [0,1],Xbc,2⟩),(186,⟨.arr 16 185,(.arr 16 Xbc),32⟩),(196,⟨.int .u8,(.int .u8),1⟩),(197,⟨.int .u8,(.int .u8),1⟩),(200,⟨.int .i32,(.int .i32),4⟩),(201,⟨.int .i32,(.int .i32),4⟩)]
theorem Xe:Yaj Go.Proofs.Tryz.prog tb:=Ywe (by kernel_rfl)
theorem Xd:Go.Proofs.Tryz.prog.follows .mixedOrders=true:=by kernel_rfl
def Zq0 (a:List Int) (left:Int):Option Int:=
 cond (decide ((w64 (left-(a.length:Int)))<0)) (some (-1)) (some (w64 (left-(a.length:Int))))
namespace Zq0
def pts:List PT:=[.cs SI,.cs I64]
def FS:FS:=Yef [.sh,.sh] pts (fun x=>Zq0 x.1 x.2.1) fun t=>⟨[.cs I64 t],[]⟩
theorem ok:Ydh PR 78 FS:=
 Ywf Xe Xd Proofs.Tryz.f78 h0 .no (G:=(mkG [])) .nil (L:=mkL []) (l:=[]) hT
  (fun x=>by simp only[Zq0,mC,mB,mS,mO,mN];kernel_rfl)
end Zq0
def Zq1 (a:Xf) (left:Int):Option Int:=
 cond (decide ((w64 (left-(a.1.length:Int)))<0)) (some (-1)) (some (w64 (left-(a.1.length:Int))))
namespace Zq1
def pts:List PT:=[.cs Xg,.cs I64]
def FS:FS:=Yef [.sh,.sh] pts (fun x=>Zq1 x.1 x.2.1) fun t=>⟨[.cs I64 t],[]⟩
theorem ok:Ydh PR 115 FS:=
 Ywf Xe Xd Proofs.Tryz.f115 ⟨[2],[],[],0⟩ .no (G:=(mkG [])) .nil (L:=mkL []) (l:=[]) hT
  (fun x=>by simp only[Zq1,mC,mB,mS,mO,mN];kernel_rfl)
end Zq1
def Zq2.B (a:List Xf) (left_:Int) (i_:Int):Option ((Int×Int)⊕((Int⊕Int))):=
 cond (decide (i_<(a.length:Int))) (cond (inB i_ a.length) ((Zq1 (a.getD i_.toNat Xn) left_).bind fun r=>cond (decide (r<0)) (some (.inr (.inl (-1)))) (some (.inl (r,w64 (i_+1))))) none) (some (.inr (.inr left_)))
def Zq2 (a:List Xf):(Int×Int)→Option ((Int⊕Int)):=
 Yam fun s=>Zq2.B a s.1 s.2
def Zq3 (a:List Xf) (left:Int):Option Int:=
 cond (decide ((w64 (left-(a.length:Int)))<0)) (some (-1)) ((Zq2 a (w64 (left-(a.length:Int)),0)).bind fun o=>sel o (fun b=>some b) (fun c=>some c))
namespace Zq3
def G:Gam:=mkG [(115,Zq1.FS)]
theorem Gok:GOk PR G:=.cons Zq1.ok .nil
end Zq3
namespace Zq2
noncomputable def c:=Yaq (Yal Proofs.Tryz.f79) [1,1,1,0,1,0,0]
def sp:SP:=⟨[(0,.cs (.sl Xg)),(1,.cs I64),(5,.cs I64)],[]⟩
def fr:=Yix sp (fun x s=>Zq2.B x.1.1 s.1 s.2) (fun x=>(x.1.2.1,x.1.2.2.1)) fun x (oo0:(Int⊕Int)) _ kk0=>sel oo0 (fun bb0=>kk0 (.rt) ⟨[(4,.cs I64 bb0)],[]⟩) (fun cc0=>kk0 (.ex 0) ⟨[(1,.cs I64 cc0)],[]⟩)
theorem ok:Ya5 PR 27 2 (.loop c) fr:=
 Ysy Xe Xd h0 .no (G:=Zq3.G) Zq3.Gok (L:=mkL []) (l:=[]) hT [(0,([1],[]))] ([4],[]) (fun x s=>((x.1.1,s.1,s.2,x.1.2.2.2),x.2))
  (fun x s=>by simp only[B,mC,mB,mS,mO,mN];kernel_rfl)
end Zq2
namespace Zq3
def pts:List PT:=[.cs (.sl Xg),.cs I64]
def FS:FS:=Yef [.sh,.sh] pts (fun x=>Zq3 x.1 x.2.1) fun t=>⟨[.cs I64 t],[]⟩
theorem ok:Ydh PR 79 FS:=
 Ywf Xe Xd Proofs.Tryz.f79 h0 (.R (.R (.R (.L (.R (.one (.fr 0))))))) (G:=G) Gok (L:=mkL [(0,Zq2.fr)]) (l:=[(0,.loop Zq2.c)]) ⟨Lam.cons Zq2.ok,trivial⟩
  (fun x=>by simp only[Zq3,mC,mB,mS,mO,mN];kernel_rfl)
end Zq3
def Zq4 (a:Xb) (left:Int):Option Int:=
 (Zq0 a.2.2.2.1 left).bind fun r=>cond (decide (r<0)) (some (-1)) ((Zq3 a.2.2.2.2.1 r).bind fun r2=>cond (decide (r2<0)) (some (-1)) (some r2))
namespace Zq4
def G:Gam:=mkG [(78,Zq0.FS),(79,Zq3.FS)]
def pts:List PT:=[.cs Xc,.cs I64]
def FS:FS:=Yef [.sh,.sh] pts (fun x=>Zq4 x.1 x.2.1) fun t=>⟨[.cs I64 t],[]⟩
theorem ok:Ydh PR 39 FS:=
 Ywf Xe Xd Proofs.Tryz.f39 ⟨[2],[],[],0⟩ .no (G:=G) (show GOk PR G from .cons Zq0.ok (.cons Zq3.ok .nil)) (L:=mkL []) (l:=[]) hT
  (fun x=>by simp only[Zq4,mC,mB,mS,mO,mN];kernel_rfl)
end Zq4
def Zq5.B (a:List Xb) (left_:Int) (i_:Int):Option ((Int×Int)⊕((Int⊕Int))):=
 cond (decide (i_<(a.length:Int))) (cond (inB i_ a.length) ((Zq4 (a.getD i_.toNat Xa) left_).bind fun r=>cond (decide (r<0)) (some (.inr (.inl (-1)))) (some (.inl (r,w64 (i_+1))))) none) (some (.inr (.inr left_)))
def Zq5 (a:List Xb):(Int×Int)→Option ((Int⊕Int)):=
 Yam fun s=>Zq5.B a s.1 s.2
def Zq6 (a:List Xb) (left:Int):Option Int:=
 cond (decide ((w64 (left-(a.length:Int)))<0)) (some (-1)) ((Zq5 a (w64 (left-(a.length:Int)),0)).bind fun o=>sel o (fun b=>some b) (fun c=>some c))
namespace Zq6
def G:Gam:=mkG [(39,Zq4.FS)]
theorem Gok:GOk PR G:=.cons Zq4.ok .nil
end Zq6
namespace Zq5
noncomputable def c:=Yaq (Yal Proofs.Tryz.f16) [1,1,1,0,1,0,0]
def sp:SP:=⟨[(0,.cs (.sl Xc)),(1,.cs I64),(5,.cs I64)],[]⟩
def fr:=Yix sp (fun x s=>Zq5.B x.1.1 s.1 s.2) (fun x=>(x.1.2.1,x.1.2.2.1)) fun x (oo0:(Int⊕Int)) _ kk0=>sel oo0 (fun bb0=>kk0 (.rt) ⟨[(4,.cs I64 bb0)],[]⟩) (fun cc0=>kk0 (.ex 0) ⟨[(1,.cs I64 cc0)],[]⟩)
theorem ok:Ya5 PR 27 2 (.loop c) fr:=
 Ysy Xe Xd h0 .no (G:=Zq6.G) Zq6.Gok (L:=mkL []) (l:=[]) hT [(0,([1],[]))] ([4],[]) (fun x s=>((x.1.1,s.1,s.2,x.1.2.2.2),x.2))
  (fun x s=>by simp only[B,mC,mB,mS,mO,mN];kernel_rfl)
end Zq5
namespace Zq6
def pts:List PT:=[.cs (.sl Xc),.cs I64]
def FS:FS:=Yef [.sh,.sh] pts (fun x=>Zq6 x.1 x.2.1) fun t=>⟨[.cs I64 t],[]⟩
theorem ok:Ydh PR 16 FS:=
 Ywf Xe Xd Proofs.Tryz.f16 h0 (.R (.R (.R (.L (.R (.one (.fr 0))))))) (G:=G) Gok (L:=mkL [(0,Zq5.fr)]) (l:=[(0,.loop Zq5.c)]) ⟨Lam.cons Zq5.ok,trivial⟩
  (fun x=>by simp only[Zq6,mC,mB,mS,mO,mN];kernel_rfl)
end Zq6
def Zq7 (a:List Int) (left:Int):Option Int:=
 cond (decide ((w64 (left-(a.length:Int)))<0)) (some (-1)) (some (w64 (left-(a.length:Int))))
namespace Zq7
def pts:List PT:=[.cs SB,.cs I64]
def FS:FS:=Yef [.sh,.sh] pts (fun x=>Zq7 x.1 x.2.1) fun t=>⟨[.cs I64 t],[]⟩
theorem ok:Ydh PR 40 FS:=
 Ywf Xe Xd Proofs.Tryz.f40 h0 .no (G:=(mkG [])) .nil (L:=mkL []) (l:=[]) hT
  (fun x=>by simp only[Zq7,mC,mB,mS,mO,mN];kernel_rfl)
end Zq7
def Zq8.B (a:List (List Int)) (left_:Int) (i_:Int):Option ((Int×Int)⊕((Int⊕Int))):=
 cond (decide (i_<(a.length:Int))) (cond (inB i_ a.length) ((Zq7 (a.getD i_.toNat []) left_).bind fun r=>cond (decide (r<0)) (some (.inr (.inl (-1)))) (some (.inl (r,w64 (i_+1))))) none) (some (.inr (.inr left_)))
def Zq8 (a:List (List Int)):(Int×Int)→Option ((Int⊕Int)):=
 Yam fun s=>Zq8.B a s.1 s.2
def Zq9 (a:List (List Int)) (left:Int):Option Int:=
 cond (decide ((w64 (left-(a.length:Int)))<0)) (some (-1)) ((Zq8 a (w64 (left-(a.length:Int)),0)).bind fun o=>sel o (fun b=>some b) (fun c=>some c))
namespace Zq9
def G:Gam:=mkG [(40,Zq7.FS)]
theorem Gok:GOk PR G:=.cons Zq7.ok .nil
end Zq9
namespace Zq8
noncomputable def c:=Yaq (Yal Proofs.Tryz.f17) [1,1,1,0,1,0,0]
def sp:SP:=⟨[(0,.cs (.sl SB)),(1,.cs I64),(5,.cs I64)],[]⟩
def fr:=Yix sp (fun x s=>Zq8.B x.1.1 s.1 s.2) (fun x=>(x.1.2.1,x.1.2.2.1)) fun x (oo0:(Int⊕Int)) _ kk0=>sel oo0 (fun bb0=>kk0 (.rt) ⟨[(4,.cs I64 bb0)],[]⟩) (fun cc0=>kk0 (.ex 0) ⟨[(1,.cs I64 cc0)],[]⟩)
theorem ok:Ya5 PR 27 2 (.loop c) fr:=
 Ysy Xe Xd h0 .no (G:=Zq9.G) Zq9.Gok (L:=mkL []) (l:=[]) hT [(0,([1],[]))] ([4],[]) (fun x s=>((x.1.1,s.1,s.2,x.1.2.2.2),x.2))
  (fun x s=>by simp only[B,mC,mB,mS,mO,mN];kernel_rfl)
end Zq8
namespace Zq9
def pts:List PT:=[.cs (.sl SB),.cs I64]
def FS:FS:=Yef [.sh,.sh] pts (fun x=>Zq9 x.1 x.2.1) fun t=>⟨[.cs I64 t],[]⟩
theorem ok:Ydh PR 17 FS:=
 Ywf Xe Xd Proofs.Tryz.f17 h0 (.R (.R (.R (.L (.R (.one (.fr 0))))))) (G:=G) Gok (L:=mkL [(0,Zq8.fr)]) (l:=[(0,.loop Zq8.c)]) ⟨Lam.cons Zq8.ok,trivial⟩
  (fun x=>by simp only[Zq9,mC,mB,mS,mO,mN];kernel_rfl)
end Zq9
def Xhc (a:Fs_) (left:Int):Option Int:=
 (Zq6 a.1 left).bind fun r=>cond (decide (r<0)) (some (-1)) ((Zq9 a.2.1 r).bind fun r2=>cond (decide (r2<0)) (some (-1)) (some r2))
namespace Xhc
def G:Gam:=mkG [(16,Zq6.FS),(17,Zq9.FS)]
def pts:List PT:=[.cs Xl,.cs I64]
def FS:FS:=Yef [.sh,.sh] pts (fun x=>Xhc x.1 x.2.1) fun t=>⟨[.cs I64 t],[]⟩
theorem ok:Ydh PR 5 FS:=
 Ywf Xe Xd Proofs.Tryz.f5 ⟨[2],[],[],0⟩ .no (G:=G) (show GOk PR G from .cons Zq6.ok (.cons Zq9.ok .nil)) (L:=mkL []) (l:=[]) hT
  (fun x=>by simp only[Xhc,mC,mB,mS,mO,mN];kernel_rfl)
end Xhc
def Xe1.B (a:List Int) (i_:Int) (out_:List Int):Option ((Int×List Int)⊕(List Int)):=
 cond (decide (i_<(a.length:Int))) (cond (inB i_ a.length) (cond (inB i_ out_.length) (some (.inl (w64 (i_+1),out_.set i_.toNat (a.getD i_.toNat 0)))) none) none) (some (.inr out_))
def Xe1 (a:List Int):(Int×List Int)→Option (List Int):=
 Yam fun s=>Xe1.B a s.1 s.2
def Xhd (a:List Int):Option (List Int):=
 cond (decide ((0:Int)≤(a.length:Int))&&(decide ((a.length:Int)≤(a.length:Int))&&decide ((a.length:Int)≤2147483648))) ((Xe1 a (0,List.replicate (a.length:Int).toNat 0)).bind fun o=>some o) none
namespace Xe1
noncomputable def c:=Yaq (Yal Proofs.Tryz.f91) [1,1,0,1,0,0]
def sp:SP:=⟨[(0,.cs SI),(3,.seg 3 []),(4,.cs I64)],[(3,.reg,.cd SI)]⟩
def fr:=Yix sp (fun x s=>Xe1.B x.1.1 s.1 s.2) (fun x=>(x.1.2.2.1,x.2.1)) fun x (bb0:List Int) _ kk0=>kk0 (.ex 0) ⟨[(3,.seg 3 [])],[sr 3 (.cd SI bb0)]⟩
theorem ok:Ya5 PR 22 1 (.loop c) fr:=
 Yv9 Xe Xd h0 [(0,([3],[3]))] (fun x s=>((x.1.1,x.1.2.1,s.1,x.1.2.2.2),(s.2,x.2.2)))
  (fun x s=>by simp only[B,mC,mB,mS,mO,mN];kernel_rfl)
end Xe1
namespace Xhd
def pts:List PT:=[.cs SI]
def FS:FS:=Yef [.sh] pts (fun x=>Xhd x.1) fun t=>⟨[.cd SI t],[]⟩
theorem ok:Ydh PR 91 FS:=
 Ywf Xe Xd Proofs.Tryz.f91 h0 (.R (.R (.L (.R (.one (.fr 0)))))) (G:=(mkG [])) .nil (L:=mkL [(0,Xe1.fr)]) (l:=[(0,.loop Xe1.c)]) ⟨Lam.cons Xe1.ok,trivial⟩
  (fun x=>by simp only[Xhd,mC,mB,mS,mO,mN];kernel_rfl)
end Xhd
def Xhe (a:Xf):Option Xf:=
 some (a.1,a.2.1,())
namespace Xhe
def pts:List PT:=[.cs Xg]
def FS:FS:=Yef [.sh] pts (fun x=>Xhe x.1) fun t=>⟨[.cs Xg t],[]⟩
theorem ok:Ydh PR 122 FS:=
 Ywf Xe Xd Proofs.Tryz.f122 ⟨[1],[],[],0⟩ .no (G:=(mkG [])) .nil (L:=mkL []) (l:=[]) hT
  (fun x=>by simp only[Xhe,mC,mB,mS,mO,mN];kernel_rfl)
end Xhe
def Xe2.B (a:List Xf) (i_:Int) (out_:List Xf):Option ((Int×List Xf)⊕(List Xf)):=
 cond (decide (i_<(a.length:Int))) (cond (inB i_ a.length) ((Xhe (a.getD i_.toNat Xn)).bind fun r=>cond (inB i_ out_.length) (some (.inl (w64 (i_+1),out_.set i_.toNat r))) none) none) (some (.inr out_))
def Xe2 (a:List Xf):(Int×List Xf)→Option (List Xf):=
 Yam fun s=>Xe2.B a s.1 s.2
def Xe3 (a:List Xf):Option (List Xf):=
 cond (decide ((0:Int)≤(a.length:Int))&&(decide ((a.length:Int)≤(a.length:Int))&&decide ((a.length:Int)≤2147483648))) ((Xe2 a (0,List.replicate (a.length:Int).toNat Xn)).bind fun o=>some o) none
namespace Xe3
def G:Gam:=mkG [(122,Xhe.FS)]
theorem Gok:GOk PR G:=.cons Xhe.ok .nil
end Xe3
namespace Xe2
noncomputable def c:=Yaq (Yal Proofs.Tryz.f92) [1,1,0,1,0,0]
def sp:SP:=⟨[(0,.cs (.sl Xg)),(3,.seg 3 []),(4,.cs I64)],[(3,.reg,.cd (.sl Xg))]⟩
def fr:=Yix sp (fun x s=>Xe2.B x.1.1 s.1 s.2) (fun x=>(x.1.2.2.1,x.2.1)) fun x (bb0:List Xf) _ kk0=>kk0 (.ex 0) ⟨[(3,.seg 3 [])],[sr 3 (.cd (.sl Xg) bb0)]⟩
theorem ok:Ya5 PR 23 1 (.loop c) fr:=
 Ywh Xe Xd h0 (G:=Xe3.G) Xe3.Gok [(0,([3],[3]))] (fun x s=>((x.1.1,x.1.2.1,s.1,x.1.2.2.2),(s.2,x.2.2)))
  (fun x s=>by simp only[B,mC,mB,mS,mO,mN];kernel_rfl)
end Xe2
namespace Xe3
def pts:List PT:=[.cs (.sl Xg)]
def FS:FS:=Yef [.sh] pts (fun x=>Xe3 x.1) fun t=>⟨[.cd (.sl Xg) t],[]⟩
theorem ok:Ydh PR 92 FS:=
 Ywf Xe Xd Proofs.Tryz.f92 h0 (.R (.R (.L (.R (.one (.fr 0)))))) (G:=G) Gok (L:=mkL [(0,Xe2.fr)]) (l:=[(0,.loop Xe2.c)]) ⟨Lam.cons Xe2.ok,trivial⟩
  (fun x=>by simp only[Xe3,mC,mB,mS,mO,mN];kernel_rfl)
end Xe3
def Xhf (a:Xb):Option Xb:=
 (Xhd a.2.2.2.1).bind fun r=>(Xe3 a.2.2.2.2.1).bind fun r2=>some (a.1,a.2.1,a.2.2.1,r,r2,())
namespace Xhf
def G:Gam:=mkG [(91,Xhd.FS),(92,Xe3.FS)]
def pts:List PT:=[.cs Xc]
def FS:FS:=Yef [.sh] pts (fun x=>Xhf x.1) fun t=>⟨[.cd Xc t],[]⟩
theorem ok:Ydh PR 49 FS:=
 Ywf Xe Xd Proofs.Tryz.f49 ⟨[1],[],[],0⟩ .no (G:=G) (show GOk PR G from .cons Xhd.ok (.cons Xe3.ok .nil)) (L:=mkL []) (l:=[]) hT
  (fun x=>by simp only[Xhf,mC,mB,mS,mO,mN];kernel_rfl)
end Xhf
def Xe4.B (a:List Xb) (i_:Int) (out_:List Xb):Option ((Int×List Xb)⊕(List Xb)):=
 cond (decide (i_<(a.length:Int))) (cond (inB i_ a.length) ((Xhf (a.getD i_.toNat Xa)).bind fun r=>cond (inB i_ out_.length) ((some (out_.set i_.toNat (r.1,r.2.1,r.2.2.1,r.2.2.2.1,r.2.2.2.2.1,r.2.2.2.2.2))).bind fun out_2=>some (.inl (w64 (i_+1),out_2))) none) none) (some (.inr out_))
def Xe4 (a:List Xb):(Int×List Xb)→Option (List Xb):=
 Yam fun s=>Xe4.B a s.1 s.2
def Xe5 (a:List Xb):Option (List Xb):=
 cond (decide ((0:Int)≤(a.length:Int))&&(decide ((a.length:Int)≤(a.length:Int))&&decide ((a.length:Int)≤2147483648))) ((Xe4 a (0,List.replicate (a.length:Int).toNat Xa)).bind fun o=>some o) none
namespace Xe5
def G:Gam:=mkG [(49,Xhf.FS)]
theorem Gok:GOk PR G:=.cons Xhf.ok .nil
end Xe5
namespace Xe4
noncomputable def c:=Yaq (Yal Proofs.Tryz.f20) [1,1,0,1,0,0]
def sp:SP:=⟨[(0,.cs (.sl Xc)),(3,.seg 3 []),(4,.cs I64)],[(3,.reg,.cd (.sl Xc))]⟩
def fr:=Yix sp (fun x s=>Xe4.B x.1.1 s.1 s.2) (fun x=>(x.1.2.2.1,x.2.1)) fun x (bb0:List Xb) _ kk0=>kk0 (.ex 0) ⟨[(3,.seg 3 [])],[sr 3 (.cd (.sl Xc) bb0)]⟩
theorem ok:Ya5 PR 23 1 (.loop c) fr:=
 Ywh Xe Xd h0 (G:=Xe5.G) Xe5.Gok [(0,([3],[3]))] (fun x s=>((x.1.1,x.1.2.1,s.1,x.1.2.2.2),(s.2,x.2.2)))
  (fun x s=>by simp only[B,mC,mB,mS,mO,mN];kernel_rfl)
end Xe4
namespace Xe5
def pts:List PT:=[.cs (.sl Xc)]
def FS:FS:=Yef [.sh] pts (fun x=>Xe5 x.1) fun t=>⟨[.cd (.sl Xc) t],[]⟩
theorem ok:Ydh PR 20 FS:=
 Ywf Xe Xd Proofs.Tryz.f20 h0 (.R (.R (.L (.R (.one (.fr 0)))))) (G:=G) Gok (L:=mkL [(0,Xe4.fr)]) (l:=[(0,.loop Xe4.c)]) ⟨Lam.cons Xe4.ok,trivial⟩
  (fun x=>by simp only[Xe5,mC,mB,mS,mO,mN];kernel_rfl)
end Xe5
def Xe6.B (a:List Int) (i_:Int) (out_:List Int):Option ((Int×List Int)⊕(List Int)):=
 cond (decide (i_<(a.length:Int))) (cond (inB i_ a.length) (cond (inB i_ out_.length) (some (.inl (w64 (i_+1),out_.set i_.toNat (a.getD i_.toNat 0)))) none) none) (some (.inr out_))
def Xe6 (a:List Int):(Int×List Int)→Option (List Int):=
 Yam fun s=>Xe6.B a s.1 s.2
def Xhg (a:List Int):Option (List Int):=
 cond (decide ((0:Int)≤(a.length:Int))&&(decide ((a.length:Int)≤(a.length:Int))&&decide ((a.length:Int)≤2147483648))) ((Xe6 a (0,List.replicate (a.length:Int).toNat 0)).bind fun o=>some o) none
namespace Xe6
noncomputable def c:=Yaq (Yal Proofs.Tryz.f50) [1,1,0,1,0,0]
def sp:SP:=⟨[(0,.cs SB),(3,.seg 3 []),(4,.cs I64)],[(3,.reg,.cd SB)]⟩
def fr:=Yix sp (fun x s=>Xe6.B x.1.1 s.1 s.2) (fun x=>(x.1.2.2.1,x.2.1)) fun x (bb0:List Int) _ kk0=>kk0 (.ex 0) ⟨[(3,.seg 3 [])],[sr 3 (.cd SB bb0)]⟩
theorem ok:Ya5 PR 22 1 (.loop c) fr:=
 Yv9 Xe Xd h0 [(0,([3],[3]))] (fun x s=>((x.1.1,x.1.2.1,s.1,x.1.2.2.2),(s.2,x.2.2)))
  (fun x s=>by simp only[B,mC,mB,mS,mO,mN];kernel_rfl)
end Xe6
namespace Xhg
def pts:List PT:=[.cs SB]
def FS:FS:=Yef [.sh] pts (fun x=>Xhg x.1) fun t=>⟨[.cd SB t],[]⟩
theorem ok:Ydh PR 50 FS:=
 Ywf Xe Xd Proofs.Tryz.f50 h0 (.R (.R (.L (.R (.one (.fr 0)))))) (G:=(mkG [])) .nil (L:=mkL [(0,Xe6.fr)]) (l:=[(0,.loop Xe6.c)]) ⟨Lam.cons Xe6.ok,trivial⟩
  (fun x=>by simp only[Xhg,mC,mB,mS,mO,mN];kernel_rfl)
end Xhg
def Xe7.B (a:List (List Int)) (i_:Int) (out_:List (List Int)):Option ((Int×List (List Int))⊕(List (List Int))):=
 cond (decide (i_<(a.length:Int))) (cond (inB i_ a.length) ((Xhg (a.getD i_.toNat [])).bind fun r=>cond (inB i_ out_.length) (some (.inl (w64 (i_+1),out_.set i_.toNat r))) none) none) (some (.inr out_))
def Xe7 (a:List (List Int)):(Int×List (List Int))→Option (List (List Int)):=
 Yam fun s=>Xe7.B a s.1 s.2
def Xe8 (a:List (List Int)):Option (List (List Int)):=
 cond (decide ((0:Int)≤(a.length:Int))&&(decide ((a.length:Int)≤(a.length:Int))&&decide ((a.length:Int)≤2147483648))) ((some (List.replicate (a.length:Int).toNat ([]:List Int))).bind fun v=>(Xe7 a (0,v)).bind fun o=>some o) none
namespace Xe8
def G:Gam:=mkG [(50,Xhg.FS)]
theorem Gok:GOk PR G:=.cons Xhg.ok .nil
end Xe8
namespace Xe7
noncomputable def c:=Yaq (Yal Proofs.Tryz.f21) [1,1,0,1,0,0]
def sp:SP:=⟨[(0,.cs (.sl SB)),(3,.seg 3 []),(4,.cs I64)],[(3,.reg,.cd (.sl SB))]⟩
def fr:=Yix sp (fun x s=>Xe7.B x.1.1 s.1 s.2) (fun x=>(x.1.2.2.1,x.2.1)) fun x (bb0:List (List Int)) _ kk0=>kk0 (.ex 0) ⟨[(3,.seg 3 [])],[sr 3 (.cd (.sl SB) bb0)]⟩
theorem ok:Ya5 PR 23 1 (.loop c) fr:=
 Ywh Xe Xd h0 (G:=Xe8.G) Xe8.Gok [(0,([3],[3]))] (fun x s=>((x.1.1,x.1.2.1,s.1,x.1.2.2.2),(s.2,x.2.2)))
  (fun x s=>by simp only[B,mC,mB,mS,mO,mN];kernel_rfl)
end Xe7
namespace Xe8
def pts:List PT:=[.cs (.sl SB)]
def FS:FS:=Yef [.sh] pts (fun x=>Xe8 x.1) fun t=>⟨[.cd (.sl SB) t],[]⟩
theorem ok:Ydh PR 21 FS:=
 Ywf Xe Xd Proofs.Tryz.f21 h0 (.R (.R (.L (.R (.one (.fr 0)))))) (G:=G) Gok (L:=mkL [(0,Xe7.fr)]) (l:=[(0,.loop Xe7.c)]) ⟨Lam.cons Xe7.ok,trivial⟩
  (fun x=>by simp only[Xe8,mC,mB,mS,mO,mN];kernel_rfl)
end Xe8
def Xf7 (a:Fs_):Option Fs_:=
 (Xe5 a.1).bind fun r=>(Xe8 a.2.1).bind fun r2=>some (r,r2,())
namespace Xf7
def G:Gam:=mkG [(20,Xe5.FS),(21,Xe8.FS)]
def pts:List PT:=[.cs Xl]
def FS:FS:=Yef [.sh] pts (fun x=>Xf7 x.1) fun t=>⟨[.cd Xl t],[]⟩
theorem ok:Ydh PR 7 FS:=
 Ywf Xe Xd Proofs.Tryz.f7 ⟨[1],[],[],0⟩ .no (G:=G) (show GOk PR G from .cons Xe5.ok (.cons Xe8.ok .nil)) (L:=mkL []) (l:=[]) hT
  (fun x=>by simp only[Xf7,mC,mB,mS,mO,mN];kernel_rfl)
end Xf7
def Xa9 (v:Int) (v2:Int) (v3:Int):Option Bool:=
 some (cond (decide (v≥v2)) (decide (v≤v3)) false)
namespace Xa9
def pts:List PT:=[.cs I64,.cs I64,.cs I64]
def FS:FS:=Yef [.sh,.sh,.sh] pts (fun x=>Xa9 x.1 x.2.1 x.2.2.1) fun t=>⟨[.cs .bool t],[]⟩
theorem ok:Ydh PR 121 FS:=
 Ywf Xe Xd Proofs.Tryz.f121 h0 .no (G:=(mkG [])) .nil (L:=mkL []) (l:=[]) hT
  (fun x=>by simp only[Xa9,mC,mB,mS,mO,mN];kernel_rfl)
end Xa9
def Xh0 (v:Int):Option Bool:=
 (Xa9 v 0 32).bind fun v2=>some v2
namespace Xh0
def G:Gam:=mkG [(121,Xa9.FS)]
def pts:List PT:=[.cs I64]
def FS:FS:=Yef [.sh] pts (fun x=>Xh0 x.1) fun t=>⟨[.cs .bool t],[]⟩
theorem ok:Ydh PR 147 FS:=
 Ywf Xe Xd Proofs.Tryz.f147 h0 .no (G:=G) (show GOk PR G from .cons Xa9.ok .nil) (L:=mkL []) (l:=[]) hT
  (fun x=>by simp only[Xh0,mC,mB,mS,mO,mN];kernel_rfl)
end Xh0
def Xh2 (v:Int):Option Int:=
 cond (!((8:Int) == 0)) (some (w64 ((w64 ((w64 (v+8))-1)).tdiv 8))) none
namespace Xh2
def pts:List PT:=[.cs I64]
def FS:FS:=Yef [.sh] pts (fun x=>Xh2 x.1) fun t=>⟨[.cs I64 t],[]⟩
theorem ok:Ydh PR 148 FS:=
 Ywf Xe Xd Proofs.Tryz.f148 h0 .no (G:=(mkG [])) .nil (L:=mkL []) (l:=[]) hT
  (fun x=>by simp only[Xh2,mC,mB,mS,mO,mN];kernel_rfl)
end Xh2
def Xf8.B (v:Xb) (v5:Int):Option (Int⊕((Int⊕Unit))):=
 cond (decide (v5<(v.2.2.2.1.length:Int))) (cond (inB v5 v.2.2.2.1.length) ((Xa9 (v.2.2.2.1.getD v5.toNat 0) 0 19).bind fun v6=>cond (!v6) (some (.inr (.inl 3))) (some (.inl (w64 (v5+1))))) none) (some (.inr (.inr ())))
def Xf8 (v:Xb):Int→Option ((Int⊕Unit)):=
 Yam fun s=>Xf8.B v s
def Xeq.B (v:Xb) (v10:Int) (v11:Int):Option (Int⊕((Int⊕Unit))):=
 cond (decide (v11<v10)) (cond (inB v11 v.2.2.2.1.length) (cond (inB v10 v.2.2.2.1.length) ((some ((v.2.2.2.1.getD v11.toNat 0) == (v.2.2.2.1.getD v10.toNat 0))).bind fun v12=>cond v12 (some (.inr (.inl 7))) (some (.inl (w64 (v11+1))))) none) none) (some (.inr (.inr ())))
def Xeq (v:Xb) (v10:Int):Int→Option ((Int⊕Unit)):=
 Yam fun s=>Xeq.B v v10 s
def Xe9.B (v:Xb) (v10:Int):Option (Int⊕((Int⊕Unit))):=
 cond (decide (v10<(v.2.2.2.1.length:Int))) ((Xeq v v10 0).bind fun v13=>sel v13 (fun v14=>some (.inr (.inl v14))) (fun v15=>some (.inl (w64 (v10+1))))) (some (.inr (.inr ())))
def Xe9 (v:Xb):Int→Option ((Int⊕Unit)):=
 Yam fun s=>Xe9.B v s
def Xdc (v:Xb):Option Int:=
 (Xa9 v.2.1 1 60).bind fun v2=>cond (!v2) (some 3) ((Xh0 v.2.2.1).bind fun v3=>cond (!v3) (some 3) ((Xh2 v.2.2.1).bind fun v4=>cond ((v.2.2.2.1.length:Int) != v4) (some 1) ((Xf8 v 0).bind fun v7=>sel v7 (fun v8=>some v8) (fun v9=>(Xe9 v 0).bind fun v16=>sel v16 (fun v17=>some v17) (fun v18=>some 0)))))
namespace Xdc
def G:Gam:=mkG [(121,Xa9.FS),(147,Xh0.FS),(148,Xh2.FS)]
theorem Gok:GOk PR G:=.cons Xa9.ok (.cons Xh0.ok (.cons Xh2.ok .nil))
end Xdc
namespace Xf8
noncomputable def c:=Yaq (Yal Proofs.Tryz.f137) [1,1,1,0,1,0,0]
def sp:SP:=⟨[(0,.pt Xc),(3,.cs I64)],[]⟩
def fr:=Yix sp (fun x s=>Xf8.B x.1.1 s) (fun x=>x.1.2.1) fun x (oo0:(Int⊕Unit)) _ kk0=>sel oo0 (fun bb0=>kk0 (.rt) ⟨[(2,.cs I64 bb0)],[]⟩) (fun cc0=>kk0 (.ex 0) ⟨[(0,.pt Xc x.1.1)],[]⟩)
theorem ok:Ya5 PR 78 1 (.loop c) fr:=
 Ysy Xe Xd h0 .no (G:=Xdc.G) Xdc.Gok (L:=mkL []) (l:=[]) hT [(0,([0],[]))] ([2],[]) (fun x s=>((x.1.1,s,x.1.2.2),x.2))
  (fun x s=>by simp only[B,mC,mB,mS,mO,mN];kernel_rfl)
end Xf8
namespace Xeq
noncomputable def c:=Yaq (Yal Proofs.Tryz.f137) [1,1,1,1,0,1,0,0,1,0,0,1,0,0]
def sp:SP:=⟨[(0,.pt Xc),(4,.cs I64),(5,.cs I64)],[]⟩
def fr:=Yix sp (fun x s=>Xeq.B x.1.1 x.1.2.1 s) (fun x=>x.1.2.2.1) fun x (oo0:(Int⊕Unit)) _ kk0=>sel oo0 (fun bb0=>kk0 (.rt) ⟨[(2,.cs I64 bb0)],[]⟩) (fun cc0=>kk0 (.ex 4) ⟨[(0,.pt Xc x.1.1),(4,.cs I64 x.1.2.1)],[]⟩)
theorem ok:Ya5 PR 78 1 (.loop c) fr:=
 Ysy Xe Xd h0 .no (G:=Xdc.G) Xdc.Gok (L:=mkL []) (l:=[]) hT [(4,([0,4],[]))] ([2],[]) (fun x s=>((x.1.1,x.1.2.1,s,x.1.2.2.2),x.2))
  (fun x s=>by simp only[B,mC,mB,mS,mO,mN];kernel_rfl)
end Xeq
namespace Xe9
noncomputable def c:=Yaq (Yal Proofs.Tryz.f137) [1,1,1,1,0,1,0,0]
def sp:SP:=⟨[(0,.pt Xc),(4,.cs I64)],[]⟩
def fr:=Yix sp (fun x s=>Xe9.B x.1.1 s) (fun x=>x.1.2.1) fun x (oo0:(Int⊕Unit)) _ kk0=>sel oo0 (fun bb0=>kk0 (.rt) ⟨[(2,.cs I64 bb0)],[]⟩) (fun cc0=>kk0 (.ex 2) ⟨[],[]⟩)
theorem ok:Ya5 PR 78 1 (.loop c) fr:=
 Ysy Xe Xd h0 (.R (.L (.one (.R (.one (.fr 2)))))) (G:=Xdc.G) Xdc.Gok (L:=mkL [(2,Xeq.fr)]) (l:=[(2,.loop Xeq.c)]) ⟨Lam.cons Xeq.ok,trivial⟩ [(2,([],[]))] ([2],[]) (fun x s=>((x.1.1,s,x.1.2.2),x.2))
  (fun x s=>by simp only[B,mC,mB,mS,mO,mN];kernel_rfl)
end Xe9
namespace Xdc
def pts:List PT:=[.pt Xc]
def FS:FS:=Yef [.sh] pts (fun x=>Xdc x.1) fun t=>⟨[.cs I64 t],[]⟩
theorem ok:Ydh PR 137 FS:=
 Ywf Xe Xd Proofs.Tryz.f137 h0 (.R (.R (.R (.two (.R (.one (.fr 0))) (.L (.R (.one (.fr 1)))))))) (G:=G) Gok (L:=mkL [(0,Xf8.fr),(2,Xeq.fr),(1,Xe9.fr)]) (l:=[(0,.loop Xf8.c),(1,.loop Xe9.c)]) ⟨Lam.cons Xf8.ok,Lam.skip rfl (Lam.skip rfl (Lam.cons Xe9.ok)),trivial⟩
  (fun x=>by simp only[Xdc,mC,mB,mS,mO,mN];kernel_rfl)
end Xdc
def Xf9.B (v:List UInt8) (v2:Int):Option (Int⊕((Int⊕Unit))):=
 cond (decide (v2<(v.length:Int))) (cond (inB v2 v.length) (cond (cond (!(decide (((v.getD v2.toNat 0).toNat:Int)<97))) (inB v2 v.length) true) ((some (cond (decide (((v.getD v2.toNat 0).toNat:Int)<97)) true (decide (((v.getD v2.toNat 0).toNat:Int)>122)))).bind fun v3=>cond v3 (some (.inr (.inl 5))) (some (.inl (w64 (v2+1))))) none) none) (some (.inr (.inr ())))
def Xf9 (v:List UInt8):Int→Option ((Int⊕Unit)):=
 Yam fun s=>Xf9.B v s
def Xga (v:List UInt8):Option Int:=
 (Xf9 v 0).bind fun v4=>sel v4 (fun v5=>some v5) (fun v6=>cond (v == ([]:List UInt8)) (some 5) (cond (decide ((v.length:Int)>4)) (some 2) (some 0)))
namespace Xf9
noncomputable def c:=Yaq (Yal Proofs.Tryz.f139) [1,0,1,0,0]
def sp:SP:=⟨[(0,.cs .str),(3,.cs I64)],[]⟩
def fr:=Yix sp (fun x s=>Xf9.B x.1.1 s) (fun x=>x.1.2.1) fun x (oo0:(Int⊕Unit)) _ kk0=>sel oo0 (fun bb0=>kk0 (.rt) ⟨[(2,.cs I64 bb0)],[]⟩) (fun cc0=>kk0 (.ex 0) ⟨[(0,.cs .str x.1.1)],[]⟩)
theorem ok:Ya5 PR 25 1 (.loop c) fr:=
 Ysy Xe Xd h0 .no (G:=(mkG [])) .nil (L:=mkL []) (l:=[]) hT [(0,([0],[]))] ([2],[]) (fun x s=>((x.1.1,s,x.1.2.2),x.2))
  (fun x s=>by simp only[B,mC,mB,mS,mO,mN];kernel_rfl)
end Xf9
namespace Xga
def pts:List PT:=[.cs .str]
def FS:FS:=Yef [.sh] pts (fun x=>Xga x.1) fun t=>⟨[.cs I64 t],[]⟩
theorem ok:Ydh PR 139 FS:=
 Ywf Xe Xd Proofs.Tryz.f139 h0 (.R (.L (.R (.one (.fr 0))))) (G:=(mkG [])) .nil (L:=mkL [(0,Xf9.fr)]) (l:=[(0,.loop Xf9.c)]) ⟨Lam.cons Xf9.ok,trivial⟩
  (fun x=>by simp only[Xga,mC,mB,mS,mO,mN];kernel_rfl)
end Xga
def Xfa.B (v:Xb) (v2:Int):Option (Int⊕((Int⊕Unit))):=
 cond (decide (v2<(v.2.2.2.2.1.length:Int))) (cond (inB v2 v.2.2.2.2.1.length) ((Xga (v.2.2.2.2.1.getD v2.toNat Xn).1).bind fun v3=>cond (v3 != 0) (some (.inr (.inl v3))) (cond (inB v2 v.2.2.2.2.1.length) ((Xa9 (v.2.2.2.2.1.getD v2.toNat Xn).2.1 0 9).bind fun v4=>cond (!v4) (some (.inr (.inl 3))) (cond (cond (decide (v2>0)) (inB v2 v.2.2.2.2.1.length) true) (cond (cond (decide (v2>0)) (inB (w64 (v2-1)) v.2.2.2.2.1.length) true) ((some (cond (decide (v2>0)) (leB (v.2.2.2.2.1.getD v2.toNat Xn).1 (v.2.2.2.2.1.getD (w64 (v2-1)).toNat Xn).1 || (v.2.2.2.2.1.getD v2.toNat Xn).1 == (v.2.2.2.2.1.getD (w64 (v2-1)).toNat Xn).1) false)).bind fun v5=>cond v5 (some (.inr (.inl 1))) (some (.inl (w64 (v2+1))))) none) none)) none)) none) (some (.inr (.inr ())))
def Xfa (v:Xb):Int→Option ((Int⊕Unit)):=
 Yam fun s=>Xfa.B v s
def Xfb (v:Xb):Option Int:=
 cond (decide ((v.2.2.2.2.1.length:Int)>6)) (some 2) ((Xfa v 0).bind fun v6=>sel v6 (fun v7=>some v7) (fun v8=>some 0))
namespace Xfb
def G:Gam:=mkG [(139,Xga.FS),(121,Xa9.FS)]
theorem Gok:GOk PR G:=.cons Xga.ok (.cons Xa9.ok .nil)
end Xfb
namespace Xfa
noncomputable def c:=Yaq (Yal Proofs.Tryz.f138) [1,1,0,1,0,0]
def sp:SP:=⟨[(0,.pt Xc),(3,.cs I64)],[]⟩
def fr:=Yix sp (fun x s=>Xfa.B x.1.1 s) (fun x=>x.1.2.1) fun x (oo0:(Int⊕Unit)) _ kk0=>sel oo0 (fun bb0=>kk0 (.rt) ⟨[(2,.cs I64 bb0)],[]⟩) (fun cc0=>kk0 (.ex 0) ⟨[],[]⟩)
theorem ok:Ya5 PR 64 1 (.loop c) fr:=
 Ysy Xe Xd h0 .no (G:=Xfb.G) Xfb.Gok (L:=mkL []) (l:=[]) hT [(0,([],[]))] ([2],[]) (fun x s=>((x.1.1,s,x.1.2.2),x.2))
  (fun x s=>by simp only[B,mC,mB,mS,mO,mN];kernel_rfl)
end Xfa
namespace Xfb
def pts:List PT:=[.pt Xc]
def FS:FS:=Yef [.sh] pts (fun x=>Xfb x.1) fun t=>⟨[.cs I64 t],[]⟩
theorem ok:Ydh PR 138 FS:=
 Ywf Xe Xd Proofs.Tryz.f138 h0 (.R (.R (.L (.R (.one (.fr 0)))))) (G:=G) Gok (L:=mkL [(0,Xfa.fr)]) (l:=[(0,.loop Xfa.c)]) ⟨Lam.cons Xfa.ok,trivial⟩
  (fun x=>by simp only[Xfb,mC,mB,mS,mO,mN];kernel_rfl)
end Xfb
def Xhh (v:Xb):Option Int:=
 (Xa9 v.1 0 2).bind fun v2=>cond (!v2) (some 1) ((some (cond (v.1 != 1) (cond (cond (v.2.1 != 0) true (v.2.2.1 != 0)) true (decide ((v.2.2.2.1.length:Int)>0))) false)).bind fun v3=>(some (cond v3 true (cond (v.1 != 2) (decide ((v.2.2.2.2.1.length:Int)>0)) false))).bind fun v4=>cond v4 (some 1) (cond (v.1 == 1) ((Xdc v).bind fun v5=>some v5) (cond (v.1 == 2) ((Xfb v).bind fun v6=>some v6) (some 0))))
namespace Xhh
def G:Gam:=mkG [(121,Xa9.FS),(137,Xdc.FS),(138,Xfb.FS)]
def pts:List PT:=[.pt Xc]
def FS:FS:=Yef [.sh] pts (fun x=>Xhh x.1) fun t=>⟨[.cs I64 t],[]⟩
theorem ok:Ydh PR 116 FS:=
 Ywf Xe Xd Proofs.Tryz.f116 h0 .no (G:=G) (show GOk PR G from .cons Xa9.ok (.cons Xdc.ok (.cons Xfb.ok .nil))) (L:=mkL []) (l:=[]) hT
  (fun x=>by simp only[Xhh,mC,mB,mS,mO,mN];kernel_rfl)
end Xhh
def Xgb.B (v:List Xb) (v2:Int):Option (Int⊕((Int⊕Unit))):=
 cond (decide (v2<(v.length:Int))) (cond (inB v2 v.length) ((Xhh (v.getD v2.toNat Xa)).bind fun v3=>cond (v3 != 0) (some (.inr (.inl v3))) (some (.inl (w64 (v2+1))))) none) (some (.inr (.inr ())))
def Xgb (v:List Xb):Int→Option ((Int⊕Unit)):=
 Yam fun s=>Xgb.B v s
def Xfc (v:List Xb):Option Int:=
 cond (decide ((v.length:Int)>10)) (some 2) ((Xgb v 0).bind fun v4=>sel v4 (fun v5=>some v5) (fun v6=>some 0))
namespace Xfc
def G:Gam:=mkG [(116,Xhh.FS)]
theorem Gok:GOk PR G:=.cons Xhh.ok .nil
end Xfc
namespace Xgb
noncomputable def c:=Yaq (Yal Proofs.Tryz.f80) [1,1,0,1,0,0]
def sp:SP:=⟨[(0,.cs (.sl Xc)),(3,.cs I64)],[]⟩
def fr:=Yix sp (fun x s=>Xgb.B x.1.1 s) (fun x=>x.1.2.1) fun x (oo0:(Int⊕Unit)) _ kk0=>sel oo0 (fun bb0=>kk0 (.rt) ⟨[(2,.cs I64 bb0)],[]⟩) (fun cc0=>kk0 (.ex 0) ⟨[],[]⟩)
theorem ok:Ya5 PR 21 1 (.loop c) fr:=
 Ysy Xe Xd h0 .no (G:=Xfc.G) Xfc.Gok (L:=mkL []) (l:=[]) hT [(0,([],[]))] ([2],[]) (fun x s=>((x.1.1,s,x.1.2.2),x.2))
  (fun x s=>by simp only[B,mC,mB,mS,mO,mN];kernel_rfl)
end Xgb
namespace Xfc
def pts:List PT:=[.cs (.sl Xc)]
def FS:FS:=Yef [.sh] pts (fun x=>Xfc x.1) fun t=>⟨[.cs I64 t],[]⟩
theorem ok:Ydh PR 80 FS:=
 Ywf Xe Xd Proofs.Tryz.f80 h0 (.R (.R (.L (.R (.one (.fr 0)))))) (G:=G) Gok (L:=mkL [(0,Xgb.fr)]) (l:=[(0,.loop Xgb.c)]) ⟨Lam.cons Xgb.ok,trivial⟩
  (fun x=>by simp only[Xfc,mC,mB,mS,mO,mN];kernel_rfl)
end Xfc
def Xer.B (v:List Xb) (v2:Int) (v4:Int) (v5:Int) (v6:Int):Option ((Int×Int)⊕Int):=
 cond (inB v4 v.length) ((some ((v.getD v4.toNat Xa).2.2.2.1.length:Int)).bind fun v7=>cond (decide (v6<v7)) (cond (inB v4 v.length) (cond (inB v6 ((v.getD v4.toNat Xa).2.2.2.1.length)) ((some ((v.getD v4.toNat Xa).2.2.2.1.getD v6.toNat 0)).bind fun v8=>cond (v8 == v2) (some (.inl (w64 (v5+1),w64 (v6+1)))) (some (.inl (v5,w64 (v6+1))))) none) none) (some (.inr v5))) none
def Xer (v:List Xb) (v2:Int) (v4:Int):(Int×Int)→Option Int:=
 Yam fun s=>Xer.B v v2 v4 s.1 s.2
def Xfd.B (v:List Xb) (v2:Int) (v3:Int) (v4:Int):Option ((Int×Int)⊕Int):=
 cond (decide (v4<(v.length:Int))) ((Xer v v2 v4 (v3,0)).bind fun v9=>some (.inl (v9,w64 (v4+1)))) (some (.inr v3))
def Xfd (v:List Xb) (v2:Int):(Int×Int)→Option Int:=
 Yam fun s=>Xfd.B v v2 s.1 s.2
def Xhi (v:List Xb) (v2:Int):Option Int:=
 (Xfd v v2 (0,0)).bind fun v10=>some v10
namespace Xer
noncomputable def c:=Yaq (Yal Proofs.Tryz.f117) [1,1,0,1,0,0,1,0,0,1,0,0]
def sp:SP:=⟨[(0,.cs (.sl Xc)),(1,.cs I64),(5,.cs I64),(6,.cs I64),(7,.cs I64)],[]⟩
def fr:=Yix sp (fun x s=>Xer.B x.1.1 x.1.2.1 x.1.2.2.2.1 s.1 s.2) (fun x=>(x.1.2.2.1,x.1.2.2.2.2.1)) fun x (bb0:Int) _ kk0=>kk0 (.ex 2) ⟨[(0,.cs (.sl Xc) x.1.1),(1,.cs I64 x.1.2.1),(5,.cs I64 bb0),(6,.cs I64 x.1.2.2.2.1)],[]⟩
theorem ok:Ya5 PR 37 2 (.loop c) fr:=
 Yv9 Xe Xd h0 [(2,([0,1,5,6],[]))] (fun x s=>((x.1.1,x.1.2.1,s.1,x.1.2.2.2.1,s.2,x.1.2.2.2.2.2),x.2))
  (fun x s=>by simp only[B,mC,mB,mS,mO,mN];kernel_rfl)
end Xer
namespace Xfd
noncomputable def c:=Yaq (Yal Proofs.Tryz.f117) [1,1,0,1,0,0]
def sp:SP:=⟨[(0,.cs (.sl Xc)),(1,.cs I64),(5,.cs I64),(6,.cs I64)],[]⟩
def fr:=Yix sp (fun x s=>Xfd.B x.1.1 x.1.2.1 s.1 s.2) (fun x=>(x.1.2.2.1,x.1.2.2.2.1)) fun x (bb0:Int) _ kk0=>kk0 (.ex 0) ⟨[(5,.cs I64 bb0)],[]⟩
theorem ok:Ya5 PR 37 2 (.loop c) fr:=
 Ywg Xe Xd h0 (.R (.L (.one (.R (.one (.fr 1)))))) (L:=mkL [(1,Xer.fr)]) (l:=[(1,.loop Xer.c)]) ⟨Lam.cons Xer.ok,trivial⟩ [(0,([5],[]))] (fun x s=>((x.1.1,x.1.2.1,s.1,s.2,x.1.2.2.2.2),x.2))
  (fun x s=>by simp only[B,mC,mB,mS,mO,mN];kernel_rfl)
end Xfd
namespace Xhi
def pts:List PT:=[.cs (.sl Xc),.cs I64]
def FS:FS:=Yef [.sh,.sh] pts (fun x=>Xhi x.1 x.2.1) fun t=>⟨[.cs I64 t],[]⟩
theorem ok:Ydh PR 117 FS:=
 Ywf Xe Xd Proofs.Tryz.f117 h0 (.R (.R (.L (.R (.one (.fr 0)))))) (G:=(mkG [])) .nil (L:=mkL [(1,Xer.fr),(0,Xfd.fr)]) (l:=[(0,.loop Xfd.c)]) ⟨Lam.skip rfl (Lam.cons Xfd.ok),trivial⟩
  (fun x=>by simp only[Xhi,mC,mB,mS,mO,mN];kernel_rfl)
end Xhi
def Xgc.B (v:List Xb) (v2:Bool) (v3:Int) (v4:List Int):Option ((Bool×Int×List Int)⊕(Bool×List Int)):=
 cond (decide (v3<20)) ((Xhi v v3).bind fun v5=>cond (decide (v5>0)) (cond (decide ((v4++([v3])).length≤2147483648)) (some (.inl (cond v2 (decide (v5≤1)) false,w64 (v3+1),v4++([v3])))) none) (some (.inl (cond v2 (decide (v5≤1)) false,w64 (v3+1),v4)))) (some (.inr (v2,v4)))
def Xgc (v:List Xb):(Bool×Int×List Int)→Option (Bool×List Int):=
 Yam fun s=>Xgc.B v s.1 s.2.1 s.2.2
def Xfe (v:List Xb):Option ((List Int)×Bool):=
 (Xgc v (true,0,[])).bind fun v6=>some (v6.2,v6.1)
namespace Xfe
def G:Gam:=mkG [(117,Xhi.FS)]
theorem Gok:GOk PR G:=.cons Xhi.ok .nil
end Xfe
namespace Xgc
noncomputable def c:=Yaq (Yal Proofs.Tryz.f81) [1,1,1,0,1,0,0]
def sp:SP:=⟨[(0,.cs (.sl Xc)),(4,.seg 4 []),(5,.cs .bool),(6,.cs I64)],[(4,.reg,.cd SI)]⟩
def fr:=Yix sp (fun x s=>Xgc.B x.1.1 s.1 s.2.1 s.2.2) (fun x=>(x.1.2.2.1,x.1.2.2.2.1,x.2.1)) fun x (bb0:Bool×List Int) _ kk0=>kk0 (.ex 0) ⟨[(4,.seg 4 []),(5,.cs .bool bb0.1)],[sr 4 (.cd SI bb0.2)]⟩
theorem ok:Ya5 PR 29 1 (.loop c) fr:=
 Ywh Xe Xd h0 (G:=Xfe.G) Xfe.Gok [(0,([4,5],[4]))] (fun x s=>((x.1.1,x.1.2.1,s.1,s.2.1,x.1.2.2.2.2),(s.2.2,x.2.2)))
  (fun x s=>by simp only[B,mC,mB,mS,mO,mN];kernel_rfl)
end Xgc
namespace Xfe
def pts:List PT:=[.cs (.sl Xc)]
def FS:FS:=Yef [.sh] pts (fun x=>Xfe x.1) fun t=>⟨[.cd SI t.1,.cs .bool t.2],[]⟩
theorem ok:Ydh PR 81 FS:=
 Ywf Xe Xd Proofs.Tryz.f81 h0 (.R (.R (.R (.L (.R (.one (.fr 0))))))) (G:=G) Gok (L:=mkL [(0,Xgc.fr)]) (l:=[(0,.loop Xgc.c)]) ⟨Lam.cons Xgc.ok,trivial⟩
  (fun x=>by simp only[Xfe,mC,mB,mS,mO,mN];kernel_rfl)
end Xfe
def Xgd.B (v:Fs_) (v4:Int):Option (Int⊕((Int⊕Unit))):=
 cond (decide (v4<(v.2.1.length:Int))) (cond (inB v4 v.2.1.length) ((some (decide (((v.2.1.getD v4.toNat []).length:Int)>8))).bind fun v5=>cond v5 (some (.inr (.inl 2))) (some (.inl (w64 (v4+1))))) none) (some (.inr (.inr ())))
def Xgd (v:Fs_):Int→Option ((Int⊕Unit)):=
 Yam fun s=>Xgd.B v s
def Xes.B (v:Fs_) (v10:Int) (v11:Int):Option (Int⊕((Int⊕Unit))):=
 cond (inB v10 v.1.length) ((some ((v.1.getD v10.toNat Xa).2.2.2.2.1.length:Int)).bind fun v12=>cond (decide (v11<v12)) (cond (inB v10 v.1.length) (cond (inB v11 ((v.1.getD v10.toNat Xa).2.2.2.2.1.length)) ((some ((v.1.getD v10.toNat Xa).2.2.2.2.1.getD v11.toNat Xn).2.1).bind fun v13=>cond (cond (!(decide (v13≥(v.1.length:Int)))) (inB v13 v.1.length) true) ((some (cond (decide (v13≥(v.1.length:Int))) true ((v.1.getD v13.toNat Xa).1 == 0))).bind fun v14=>cond v14 (some (.inr (.inl 4))) (some (.inl (w64 (v11+1))))) none) none) none) (some (.inr (.inr ())))) none
def Xes (v:Fs_) (v10:Int):Int→Option ((Int⊕Unit)):=
 Yam fun s=>Xes.B v v10 s
def Xge.B (v:Fs_) (v10:Int):Option (Int⊕((Int⊕Unit))):=
 cond (decide (v10<(v.1.length:Int))) ((Xes v v10 0).bind fun v15=>sel v15 (fun v16=>some (.inr (.inl v16))) (fun v17=>some (.inl (w64 (v10+1))))) (some (.inr (.inr ())))
def Xge (v:Fs_):Int→Option ((Int⊕Unit)):=
 Yam fun s=>Xge.B v s
def Xdd (v:Fs_):Option Int:=
 (Xfc v.1).bind fun v2=>cond (v2 != 0) (some v2) (cond (cond (!((v.1.length:Int) == 0)) (inB 0 v.1.length) true) ((some (cond ((v.1.length:Int) == 0) true ((v.1.getD (0:Int).toNat Xa).1 != 2))).bind fun v3=>cond (cond v3 true ((v.2.1.length:Int) != 20)) (some 1) ((Xgd v 0).bind fun v6=>sel v6 (fun v7=>some v7) (fun v8=>(Xfe v.1).bind fun v9=>cond (!v9.2) (some 7) ((Xge v 0).bind fun v18=>sel v18 (fun v19=>some v19) (fun v20=>some 0))))) none)
namespace Xdd
def G:Gam:=mkG [(80,Xfc.FS),(81,Xfe.FS)]
theorem Gok:GOk PR G:=.cons Xfc.ok (.cons Xfe.ok .nil)
end Xdd
namespace Xgd
noncomputable def c:=Yaq (Yal Proofs.Tryz.f41) [1,1,1,0,1,0,0]
def sp:SP:=⟨[(0,.pt Xl),(4,.cs I64)],[]⟩
def fr:=Yix sp (fun x s=>Xgd.B x.1.1 s) (fun x=>x.1.2.1) fun x (oo0:(Int⊕Unit)) _ kk0=>sel oo0 (fun bb0=>kk0 (.rt) ⟨[(2,.cs I64 bb0)],[]⟩) (fun cc0=>kk0 (.ex 0) ⟨[(0,.pt Xl x.1.1)],[]⟩)
theorem ok:Ya5 PR 122 1 (.loop c) fr:=
 Ysy Xe Xd h0 .no (G:=Xdd.G) Xdd.Gok (L:=mkL []) (l:=[]) hT [(0,([0],[]))] ([2],[]) (fun x s=>((x.1.1,s,x.1.2.2),x.2))
  (fun x s=>by simp only[B,mC,mB,mS,mO,mN];kernel_rfl)
end Xgd
namespace Xes
noncomputable def c:=Yaq (Yal Proofs.Tryz.f41) [1,1,1,1,1,0,1,0,0,1,0,0,1,0,0]
def sp:SP:=⟨[(0,.pt Xl),(7,.cs I64),(8,.cs I64)],[]⟩
def fr:=Yix sp (fun x s=>Xes.B x.1.1 x.1.2.1 s) (fun x=>x.1.2.2.1) fun x (oo0:(Int⊕Unit)) _ kk0=>sel oo0 (fun bb0=>kk0 (.rt) ⟨[(2,.cs I64 bb0)],[]⟩) (fun cc0=>kk0 (.ex 4) ⟨[(0,.pt Xl x.1.1),(7,.cs I64 x.1.2.1)],[]⟩)
theorem ok:Ya5 PR 122 1 (.loop c) fr:=
 Ysy Xe Xd h0 .no (G:=Xdd.G) Xdd.Gok (L:=mkL []) (l:=[]) hT [(4,([0,7],[]))] ([2],[]) (fun x s=>((x.1.1,x.1.2.1,s,x.1.2.2.2),x.2))
  (fun x s=>by simp only[B,mC,mB,mS,mO,mN];kernel_rfl)
end Xes
namespace Xge
noncomputable def c:=Yaq (Yal Proofs.Tryz.f41) [1,1,1,1,1,0,1,0,0]
def sp:SP:=⟨[(0,.pt Xl),(7,.cs I64)],[]⟩
def fr:=Yix sp (fun x s=>Xge.B x.1.1 s) (fun x=>x.1.2.1) fun x (oo0:(Int⊕Unit)) _ kk0=>sel oo0 (fun bb0=>kk0 (.rt) ⟨[(2,.cs I64 bb0)],[]⟩) (fun cc0=>kk0 (.ex 2) ⟨[],[]⟩)
theorem ok:Ya5 PR 122 1 (.loop c) fr:=
 Ysy Xe Xd h0 (.R (.L (.one (.R (.one (.fr 2)))))) (G:=Xdd.G) Xdd.Gok (L:=mkL [(2,Xes.fr)]) (l:=[(2,.loop Xes.c)]) ⟨Lam.cons Xes.ok,trivial⟩ [(2,([],[]))] ([2],[]) (fun x s=>((x.1.1,s,x.1.2.2),x.2))
  (fun x s=>by simp only[B,mC,mB,mS,mO,mN];kernel_rfl)
end Xge
namespace Xdd
def pts:List PT:=[.pt Xl]
def FS:FS:=Yef [.sh] pts (fun x=>Xdd x.1) fun t=>⟨[.cs I64 t],[]⟩
theorem ok:Ydh PR 41 FS:=
 Ywf Xe Xd Proofs.Tryz.f41 h0 (.R (.R (.R (.two (.R (.one (.fr 0))) (.R (.L (.R (.one (.fr 1))))))))) (G:=G) Gok (L:=mkL [(0,Xgd.fr),(2,Xes.fr),(1,Xge.fr)]) (l:=[(0,.loop Xgd.c),(1,.loop Xge.c)]) ⟨Lam.cons Xgd.ok,Lam.skip rfl (Lam.skip rfl (Lam.cons Xge.ok)),trivial⟩
  (fun x=>by simp only[Xdd,mC,mB,mS,mO,mN];kernel_rfl)
end Xdd
def Xdq.B (v:Fs_) (v3:Int) (v5:Int) (v7:Int) (v8:List Bool):Option ((Int×List Bool)⊕(List Bool)):=
 cond (inB v5 v8.length) (cond (cond (v8.getD v5.toNat false) (inB v5 v.1.length) true) ((some (cond (v8.getD v5.toNat false) (decide (v7<((v.1.getD v5.toNat Xa).2.2.2.2.1.length:Int))) false)).bind fun v9=>cond v9 (cond (inB v5 v.1.length) (cond (inB v7 ((v.1.getD v5.toNat Xa).2.2.2.2.1.length)) ((some ((v.1.getD v5.toNat Xa).2.2.2.2.1.getD v7.toNat Xn).2.1).bind fun v10=>cond (inB v10 v8.length) (some (.inl (w64 (v7+1),v8.set v10.toNat true))) none) none) none) (some (.inr v8))) none) none
def Xdq (v:Fs_) (v3:Int) (v5:Int):(Int×List Bool)→Option (List Bool):=
 Yam fun s=>Xdq.B v v3 v5 s.1 s.2
def Xet.B (v:Fs_) (v3:Int) (v5:Int) (v6:List Bool):Option ((Int×List Bool)⊕(List Bool)):=
 cond (decide (v5<(v.1.length:Int))) ((Xdq v v3 v5 (0,v6)).bind fun v11=>some (.inl (w64 (v5+1),v11))) (some (.inr v6))
def Xet (v:Fs_) (v3:Int):(Int×List Bool)→Option (List Bool):=
 Yam fun s=>Xet.B v v3 s.1 s.2
def Xff.B (v:Fs_) (v3:Int) (v4:List Bool):Option ((Int×List Bool)⊕(List Bool)):=
 cond (decide (v3<(v.1.length:Int))) ((Xet v v3 (0,v4)).bind fun v12=>some (.inl (w64 (v3+1),v12))) (some (.inr v4))
def Xff (v:Fs_):(Int×List Bool)→Option (List Bool):=
 Yam fun s=>Xff.B v s.1 s.2
def Xfg.B (v13:List Bool) (v14:Int) (v15:List Int):Option ((Int×List Int)⊕(List Int)):=
 cond (decide (v14<(v13.length:Int))) (cond (inB v14 v13.length) (cond (v13.getD v14.toNat false) (cond (decide ((v15++([v14])).length≤2147483648)) (some (.inl (w64 (v14+1),v15++([v14])))) none) (some (.inl (w64 (v14+1),v15)))) none) (some (.inr v15))
def Xfg (v13:List Bool):(Int×List Int)→Option (List Int):=
 Yam fun s=>Xfg.B v13 s.1 s.2
def Xhj (v:Fs_):Option (List Int):=
 cond (decide ((0:Int)≤(v.1.length:Int))&&(decide ((v.1.length:Int)≤(v.1.length:Int))&&decide ((v.1.length:Int)≤2147483648))) (cond (inB 0 ((List.replicate (v.1.length:Int).toNat false).length)) ((some ((List.replicate (v.1.length:Int).toNat false).set ((0:Int).toNat) true)).bind fun v2=>(Xff v (0,v2)).bind fun v13=>(Xfg v13 (0,[])).bind fun v16=>some v16) none) none
namespace Xdq
noncomputable def c:=Yaq (Yal Proofs.Tryz.f82) [1,1,1,0,1,0,0,1,0,0,1,0,0,1,0,0,1,0,0]
def sp:SP:=⟨[(0,.pt Xl),(3,.seg 3 []),(4,.cs I64),(5,.cs I64),(6,.cs I64)],[(3,.reg,.cd (.sl .bool))]⟩
def fr:=Yix sp (fun x s=>Xdq.B x.1.1 x.1.2.2.1 x.1.2.2.2.1 s.1 s.2) (fun x=>(x.1.2.2.2.2.1,x.2.1)) fun x (bb0:List Bool) _ kk0=>kk0 (.ex 4) ⟨[(0,.pt Xl x.1.1),(3,.seg 3 []),(4,.cs I64 x.1.2.2.1),(5,.cs I64 x.1.2.2.2.1)],[sr 3 (.cd (.sl .bool) bb0)]⟩
theorem ok:Ya5 PR 84 1 (.loop c) fr:=
 Yv9 Xe Xd h0 [(4,([0,3,4,5],[3]))] (fun x s=>((x.1.1,x.1.2.1,x.1.2.2.1,x.1.2.2.2.1,s.1,x.1.2.2.2.2.2),(s.2,x.2.2)))
  (fun x s=>by simp only[B,mC,mB,mS,mO,mN];kernel_rfl)
end Xdq
namespace Xet
noncomputable def c:=Yaq (Yal Proofs.Tryz.f82) [1,1,1,0,1,0,0,1,0,0,1,0,0]
def sp:SP:=⟨[(0,.pt Xl),(3,.seg 3 []),(4,.cs I64),(5,.cs I64)],[(3,.reg,.cd (.sl .bool))]⟩
def fr:=Yix sp (fun x s=>Xet.B x.1.1 x.1.2.2.1 s.1 s.2) (fun x=>(x.1.2.2.2.1,x.2.1)) fun x (bb0:List Bool) _ kk0=>kk0 (.ex 2) ⟨[(0,.pt Xl x.1.1),(3,.seg 3 []),(4,.cs I64 x.1.2.2.1)],[sr 3 (.cd (.sl .bool) bb0)]⟩
theorem ok:Ya5 PR 84 1 (.loop c) fr:=
 Ywg Xe Xd h0 (.R (.L (.one (.R (.one (.fr 2)))))) (L:=mkL [(2,Xdq.fr)]) (l:=[(2,.loop Xdq.c)]) ⟨Lam.cons Xdq.ok,trivial⟩ [(2,([0,3,4],[3]))] (fun x s=>((x.1.1,x.1.2.1,x.1.2.2.1,s.1,x.1.2.2.2.2),(s.2,x.2.2)))
  (fun x s=>by simp only[B,mC,mB,mS,mO,mN];kernel_rfl)
end Xet
namespace Xff
noncomputable def c:=Yaq (Yal Proofs.Tryz.f82) [1,1,1,0,1,0,0]
def sp:SP:=⟨[(0,.pt Xl),(3,.seg 3 []),(4,.cs I64)],[(3,.reg,.cd (.sl .bool))]⟩
def fr:=Yix sp (fun x s=>Xff.B x.1.1 s.1 s.2) (fun x=>(x.1.2.2.1,x.2.1)) fun x (bb0:List Bool) _ kk0=>kk0 (.ex 0) ⟨[(3,.seg 3 [])],[sr 3 (.cd (.sl .bool) bb0)]⟩
theorem ok:Ya5 PR 84 1 (.loop c) fr:=
 Ywg Xe Xd h0 (.R (.L (.one (.R (.one (.fr 1)))))) (L:=mkL [(2,Xdq.fr),(1,Xet.fr)]) (l:=[(1,.loop Xet.c)]) ⟨Lam.skip rfl (Lam.cons Xet.ok),trivial⟩ [(0,([3],[3]))] (fun x s=>((x.1.1,x.1.2.1,s.1,x.1.2.2.2),(s.2,x.2.2)))
  (fun x s=>by simp only[B,mC,mB,mS,mO,mN];kernel_rfl)
end Xff
namespace Xfg
noncomputable def c:=Yaq (Yal Proofs.Tryz.f82) [1,1,1,1,1,0,1,0,0]
def sp:SP:=⟨[(3,.seg 3 []),(7,.seg 7 []),(8,.cs I64)],[(3,.reg,.cd (.sl .bool)),(7,.reg,.cd SI)]⟩
def fr:=Yix sp (fun x s=>Xfg.B x.2.1 s.1 s.2) (fun x=>(x.1.2.2.1,x.2.2.1)) fun x (bb0:List Int) _ kk0=>kk0 (.ex 6) ⟨[(7,.seg 7 [])],[sr 7 (.cd SI bb0)]⟩
theorem ok:Ya5 PR 84 1 (.loop c) fr:=
 Yv9 Xe Xd h0 [(6,([7],[7]))] (fun x s=>((x.1.1,x.1.2.1,s.1,x.1.2.2.2),(x.2.1,s.2,x.2.2.2)))
  (fun x s=>by simp only[B,mC,mB,mS,mO,mN];kernel_rfl)
end Xfg
namespace Xhj
def pts:List PT:=[.pt Xl]
def FS:FS:=Yef [.sh] pts (fun x=>Xhj x.1) fun t=>⟨[.cd SI t],[]⟩
theorem ok:Ydh PR 82 FS:=
 Ywf Xe Xd Proofs.Tryz.f82 h0 (.R (.R (.R (.two (.R (.one (.fr 0))) (.R (.L (.R (.one (.fr 3))))))))) (G:=(mkG [])) .nil (L:=mkL [(2,Xdq.fr),(1,Xet.fr),(0,Xff.fr),(3,Xfg.fr)]) (l:=[(0,.loop Xff.c),(3,.loop Xfg.c)]) ⟨Lam.skip rfl (Lam.skip rfl (Lam.cons Xff.ok)),Lam.skip rfl (Lam.skip rfl (Lam.skip rfl (Lam.cons Xfg.ok))),trivial⟩
  (fun x=>by simp only[Xhj,mC,mB,mS,mO,mN];kernel_rfl)
end Xhj
def Xeu.B (v:List Xb) (v2:Int) (v4:Int) (v5:Int) (v6:Int):Option ((Int×Int)⊕Int):=
 cond (inB v4 v.length) ((some ((v.getD v4.toNat Xa).2.2.2.2.1.length:Int)).bind fun v7=>cond (decide (v6<v7)) (cond (inB v4 v.length) (cond (inB v6 ((v.getD v4.toNat Xa).2.2.2.2.1.length)) ((some ((v.getD v4.toNat Xa).2.2.2.2.1.getD v6.toNat Xn).2.1).bind fun v8=>cond (v8 == v2) (some (.inl (w64 (v5+1),w64 (v6+1)))) (some (.inl (v5,w64 (v6+1))))) none) none) (some (.inr v5))) none
def Xeu (v:List Xb) (v2:Int) (v4:Int):(Int×Int)→Option Int:=
 Yam fun s=>Xeu.B v v2 v4 s.1 s.2
def Xfh.B (v:List Xb) (v2:Int) (v3:Int) (v4:Int):Option ((Int×Int)⊕Int):=
 cond (decide (v4<(v.length:Int))) ((Xeu v v2 v4 (v3,0)).bind fun v9=>some (.inl (v9,w64 (v4+1)))) (some (.inr v3))
def Xfh (v:List Xb) (v2:Int):(Int×Int)→Option Int:=
 Yam fun s=>Xfh.B v v2 s.1 s.2
def Xhk (v:List Xb) (v2:Int):Option Int:=
 (Xfh v v2 (0,0)).bind fun v10=>some v10
namespace Xeu
noncomputable def c:=Yaq (Yal Proofs.Tryz.f83) [1,1,0,1,0,0,1,0,0,1,0,0]
def sp:SP:=⟨[(0,.cs (.sl Xc)),(1,.cs I64),(5,.cs I64),(6,.cs I64),(7,.cs I64)],[]⟩
def fr:=Yix sp (fun x s=>Xeu.B x.1.1 x.1.2.1 x.1.2.2.2.1 s.1 s.2) (fun x=>(x.1.2.2.1,x.1.2.2.2.2.1)) fun x (bb0:Int) _ kk0=>kk0 (.ex 2) ⟨[(0,.cs (.sl Xc) x.1.1),(1,.cs I64 x.1.2.1),(5,.cs I64 bb0),(6,.cs I64 x.1.2.2.2.1)],[]⟩
theorem ok:Ya5 PR 38 2 (.loop c) fr:=
 Yv9 Xe Xd h0 [(2,([0,1,5,6],[]))] (fun x s=>((x.1.1,x.1.2.1,s.1,x.1.2.2.2.1,s.2,x.1.2.2.2.2.2),x.2))
  (fun x s=>by simp only[B,mC,mB,mS,mO,mN];kernel_rfl)
end Xeu
namespace Xfh
noncomputable def c:=Yaq (Yal Proofs.Tryz.f83) [1,1,0,1,0,0]
def sp:SP:=⟨[(0,.cs (.sl Xc)),(1,.cs I64),(5,.cs I64),(6,.cs I64)],[]⟩
def fr:=Yix sp (fun x s=>Xfh.B x.1.1 x.1.2.1 s.1 s.2) (fun x=>(x.1.2.2.1,x.1.2.2.2.1)) fun x (bb0:Int) _ kk0=>kk0 (.ex 0) ⟨[(5,.cs I64 bb0)],[]⟩
theorem ok:Ya5 PR 38 2 (.loop c) fr:=
 Ywg Xe Xd h0 (.R (.L (.one (.R (.one (.fr 1)))))) (L:=mkL [(1,Xeu.fr)]) (l:=[(1,.loop Xeu.c)]) ⟨Lam.cons Xeu.ok,trivial⟩ [(0,([5],[]))] (fun x s=>((x.1.1,x.1.2.1,s.1,s.2,x.1.2.2.2.2),x.2))
  (fun x s=>by simp only[B,mC,mB,mS,mO,mN];kernel_rfl)
end Xfh
namespace Xhk
def pts:List PT:=[.cs (.sl Xc),.cs I64]
def FS:FS:=Yef [.sh,.sh] pts (fun x=>Xhk x.1 x.2.1) fun t=>⟨[.cs I64 t],[]⟩
theorem ok:Ydh PR 83 FS:=
 Ywf Xe Xd Proofs.Tryz.f83 h0 (.R (.R (.L (.R (.one (.fr 0)))))) (G:=(mkG [])) .nil (L:=mkL [(1,Xeu.fr),(0,Xfh.fr)]) (l:=[(0,.loop Xfh.c)]) ⟨Lam.skip rfl (Lam.cons Xfh.ok),trivial⟩
  (fun x=>by simp only[Xhk,mC,mB,mS,mO,mN];kernel_rfl)
end Xhk
def Xgf.B (v:List Int) (v2:Int) (v3:Int):Option (Int⊕((Bool⊕Unit))):=
 cond (decide (v3<(v.length:Int))) (cond (inB v3 v.length) (cond ((v.getD v3.toNat 0) == v2) (some (.inr (.inl true))) (some (.inl (w64 (v3+1))))) none) (some (.inr (.inr ())))
def Xgf (v:List Int) (v2:Int):Int→Option ((Bool⊕Unit)):=
 Yam fun s=>Xgf.B v v2 s
def Xgt (v:List Int) (v2:Int):Option Bool:=
 (Xgf v v2 0).bind fun v4=>sel v4 (fun v5=>some v5) (fun v6=>some false)
namespace Xgf
noncomputable def c:=Yaq (Yal Proofs.Tryz.f84) [1,0,1,0,0]
def sp:SP:=⟨[(0,.cs SI),(1,.cs I64),(5,.cs I64)],[]⟩
def fr:=Yix sp (fun x s=>Xgf.B x.1.1 x.1.2.1 s) (fun x=>x.1.2.2.1) fun x (oo0:(Bool⊕Unit)) _ kk0=>sel oo0 (fun bb0=>kk0 (.rt) ⟨[(4,.cs .bool bb0)],[]⟩) (fun cc0=>kk0 (.ex 0) ⟨[],[]⟩)
theorem ok:Ya5 PR 18 2 (.loop c) fr:=
 Ysy Xe Xd h0 .no (G:=(mkG [])) .nil (L:=mkL []) (l:=[]) hT [(0,([],[]))] ([4],[]) (fun x s=>((x.1.1,x.1.2.1,s,x.1.2.2.2),x.2))
  (fun x s=>by simp only[B,mC,mB,mS,mO,mN];kernel_rfl)
end Xgf
namespace Xgt
def pts:List PT:=[.cs SI,.cs I64]
def FS:FS:=Yef [.sh,.sh] pts (fun x=>Xgt x.1 x.2.1) fun t=>⟨[.cs .bool t],[]⟩
theorem ok:Ydh PR 84 FS:=
 Ywf Xe Xd Proofs.Tryz.f84 h0 (.R (.L (.R (.one (.fr 0))))) (G:=(mkG [])) .nil (L:=mkL [(0,Xgf.fr)]) (l:=[(0,.loop Xgf.c)]) ⟨Lam.cons Xgf.ok,trivial⟩
  (fun x=>by simp only[Xgt,mC,mB,mS,mO,mN];kernel_rfl)
end Xgt
def Xgg.B (v:Fs_) (v2:List Int) (v3:Int):Option (Int⊕((Bool⊕Unit))):=
 cond (decide (v3<(v.1.length:Int))) (cond (inB v3 v.1.length) ((Xhk v.1 v3).bind fun v4=>cond ((v.1.getD v3.toNat Xa).1 == 0) (some (.inl (w64 (v3+1)))) (cond ((v.1.getD v3.toNat Xa).1 == 1) (cond (v4 != (v.1.getD v3.toNat Xa).2.1) (some (.inr (.inl false))) ((Xgt v2 v3).bind fun v5=>cond (!v5) (some (.inr (.inl false))) (some (.inl (w64 (v3+1)))))) (cond (v3 == 0) (cond (v4 != 0) (some (.inr (.inl false))) ((Xgt v2 v3).bind fun v6=>cond (!v6) (some (.inr (.inl false))) (some (.inl (w64 (v3+1)))))) (cond (v4 != 1) (some (.inr (.inl false))) ((Xgt v2 v3).bind fun v7=>cond (!v7) (some (.inr (.inl false))) (some (.inl (w64 (v3+1))))))))) none) (some (.inr (.inr ())))
def Xgg (v:Fs_) (v2:List Int):Int→Option ((Bool⊕Unit)):=
 Yam fun s=>Xgg.B v v2 s
def Xfi (v:Fs_):Option Bool:=
 (Xhj v).bind fun v2=>(Xgg v v2 0).bind fun v8=>sel v8 (fun v9=>some v9) (fun v10=>some true)
namespace Xfi
def G:Gam:=mkG [(82,Xhj.FS),(83,Xhk.FS),(84,Xgt.FS)]
theorem Gok:GOk PR G:=.cons Xhj.ok (.cons Xhk.ok (.cons Xgt.ok .nil))
end Xfi
namespace Xgg
noncomputable def c:=Yaq (Yal Proofs.Tryz.f42) [1,1,0,1,0,0]
def sp:SP:=⟨[(0,.pt Xl),(3,.seg 3 []),(4,.cs I64)],[(3,.reg,.cd SI)]⟩
def fr:=Yix sp (fun x s=>Xgg.B x.1.1 x.2.1 s) (fun x=>x.1.2.2.1) fun x (oo0:(Bool⊕Unit)) _ kk0=>sel oo0 (fun bb0=>kk0 (.rt) ⟨[(2,.cs .bool bb0)],[]⟩) (fun cc0=>kk0 (.ex 0) ⟨[],[]⟩)
theorem ok:Ya5 PR 59 1 (.loop c) fr:=
 Ysy Xe Xd h0 .no (G:=Xfi.G) Xfi.Gok (L:=mkL []) (l:=[]) hT [(0,([],[]))] ([2],[]) (fun x s=>((x.1.1,x.1.2.1,s,x.1.2.2.2),x.2))
  (fun x s=>by simp only[B,mC,mB,mS,mO,mN];kernel_rfl)
end Xgg
namespace Xfi
def pts:List PT:=[.pt Xl]
def FS:FS:=Yef [.sh] pts (fun x=>Xfi x.1) fun t=>⟨[.cs .bool t],[]⟩
theorem ok:Ydh PR 42 FS:=
 Ywf Xe Xd Proofs.Tryz.f42 h0 (.R (.R (.L (.R (.one (.fr 0)))))) (G:=G) Gok (L:=mkL [(0,Xgg.fr)]) (l:=[(0,.loop Xgg.c)]) ⟨Lam.cons Xgg.ok,trivial⟩
  (fun x=>by simp only[Xfi,mC,mB,mS,mO,mN];kernel_rfl)
end Xfi
def Xhl (v:Int) (v2:Int):Option Int:=
 cond (decide (v<v2)) (some v) (some v2)
namespace Xhl
def pts:List PT:=[.cs I64,.cs I64]
def FS:FS:=Yef [.sh,.sh] pts (fun x=>Xhl x.1 x.2.1) fun t=>⟨[.cs I64 t],[]⟩
theorem ok:Ydh PR 85 FS:=
 Ywf Xe Xd Proofs.Tryz.f85 h0 .no (G:=(mkG [])) .nil (L:=mkL []) (l:=[]) hT
  (fun x=>by simp only[Xhl,mC,mB,mS,mO,mN];kernel_rfl)
end Xhl
def Xev.B (v:Fs_) (v2:Int) (v4:Xb) (v5:Int) (v6:List Int):Option ((Int×List Int)⊕(List Int)):=
 cond (decide (v5<(v4.2.2.2.1.length:Int))) (cond (inB v5 v4.2.2.2.1.length) ((Xhl 8 (w64 (v4.2.2.1-(w64 (v5*8))))).bind fun v7=>cond (inB (v4.2.2.2.1.getD v5.toNat 0) v6.length) (some (.inl (w64 (v5+1),v6.set ((v4.2.2.2.1.getD v5.toNat 0).toNat) v7))) none) none) (some (.inr v6))
def Xev (v:Fs_) (v2:Int) (v4:Xb):(Int×List Int)→Option (List Int):=
 Yam fun s=>Xev.B v v2 v4 s.1 s.2
def Xfj.B (v:Fs_) (v2:Int) (v3:List Int):Option ((Int×List Int)⊕(List Int)):=
 cond (decide (v2<(v.1.length:Int))) (cond (inB v2 v.1.length) ((Xev v v2 (v.1.getD v2.toNat Xa) (0,v3)).bind fun v8=>some (.inl (w64 (v2+1),v8))) none) (some (.inr v3))
def Xfj (v:Fs_):(Int×List Int)→Option (List Int):=
 Yam fun s=>Xfj.B v s.1 s.2
def Xgh.B (v:Fs_) (v9:List Int) (v10:Int):Option (Int⊕((Bool⊕Unit))):=
 cond (decide (v10<(v.2.1.length:Int))) (cond (inB v10 v.2.1.length) (cond (inB v10 v9.length) ((some (((v.2.1.getD v10.toNat []).length:Int) != (v9.getD v10.toNat 0))).bind fun v11=>cond v11 (some (.inr (.inl false))) (some (.inl (w64 (v10+1))))) none) none) (some (.inr (.inr ())))
def Xgh (v:Fs_) (v9:List Int):Int→Option ((Bool⊕Unit)):=
 Yam fun s=>Xgh.B v v9 s
def Xde (v:Fs_):Option Bool:=
 cond (decide ((0:Int)≤(20:Int))&&(decide ((20:Int)≤(20:Int))&&decide ((20:Int)≤2147483648))) ((Xfj v (0,List.replicate (20:Int).toNat 0)).bind fun v9=>(Xgh v v9 0).bind fun v12=>sel v12 (fun v13=>some v13) (fun v14=>some true)) none
namespace Xde
def G:Gam:=mkG [(85,Xhl.FS)]
theorem Gok:GOk PR G:=.cons Xhl.ok .nil
end Xde
namespace Xev
noncomputable def c:=Yaq (Yal Proofs.Tryz.f43) [1,1,0,1,0,0,1,0,0,1,1,0,0]
def sp:SP:=⟨[(0,.pt Xl),(3,.seg 3 []),(4,.cs I64),(5,.pt Xc),(6,.cs I64)],[(3,.reg,.cd SI)]⟩
def fr:=Yix sp (fun x s=>Xev.B x.1.1 x.1.2.2.1 x.1.2.2.2.1 s.1 s.2) (fun x=>(x.1.2.2.2.2.1,x.2.1)) fun x (bb0:List Int) _ kk0=>kk0 (.ex 2) ⟨[(0,.pt Xl x.1.1),(3,.seg 3 []),(4,.cs I64 x.1.2.2.1)],[sr 3 (.cd SI bb0)]⟩
theorem ok:Ya5 PR 72 1 (.loop c) fr:=
 Ywh Xe Xd h0 (G:=Xde.G) Xde.Gok [(2,([0,3,4],[3]))] (fun x s=>((x.1.1,x.1.2.1,x.1.2.2.1,x.1.2.2.2.1,s.1,x.1.2.2.2.2.2),(s.2,x.2.2)))
  (fun x s=>by simp only[B,mC,mB,mS,mO,mN];kernel_rfl)
end Xev
namespace Xfj
noncomputable def c:=Yaq (Yal Proofs.Tryz.f43) [1,1,0,1,0,0]
def sp:SP:=⟨[(0,.pt Xl),(3,.seg 3 []),(4,.cs I64)],[(3,.reg,.cd SI)]⟩
def fr:=Yix sp (fun x s=>Xfj.B x.1.1 s.1 s.2) (fun x=>(x.1.2.2.1,x.2.1)) fun x (bb0:List Int) _ kk0=>kk0 (.ex 0) ⟨[(0,.pt Xl x.1.1),(3,.seg 3 [])],[sr 3 (.cd SI bb0)]⟩
theorem ok:Ya5 PR 72 1 (.loop c) fr:=
 Ywi Xe Xd h0 (.R (.L (.one (.R (.R (.one (.fr 1))))))) (G:=Xde.G) Xde.Gok (L:=mkL [(1,Xev.fr)]) (l:=[(1,.loop Xev.c)]) ⟨Lam.cons Xev.ok,trivial⟩ [(0,([0,3],[3]))] (fun x s=>((x.1.1,x.1.2.1,s.1,x.1.2.2.2),(s.2,x.2.2)))
  (fun x s=>by simp only[B,mC,mB,mS,mO,mN];kernel_rfl)
end Xfj
namespace Xgh
noncomputable def c:=Yaq (Yal Proofs.Tryz.f43) [1,1,1,0,1,0,0]
def sp:SP:=⟨[(0,.pt Xl),(3,.seg 3 []),(7,.cs I64)],[(3,.reg,.cd SI)]⟩
def fr:=Yix sp (fun x s=>Xgh.B x.1.1 x.2.1 s) (fun x=>x.1.2.2.1) fun x (oo0:(Bool⊕Unit)) _ kk0=>sel oo0 (fun bb0=>kk0 (.rt) ⟨[(2,.cs .bool bb0)],[]⟩) (fun cc0=>kk0 (.ex 4) ⟨[],[]⟩)
theorem ok:Ya5 PR 72 1 (.loop c) fr:=
 Ysy Xe Xd h0 .no (G:=Xde.G) Xde.Gok (L:=mkL []) (l:=[]) hT [(4,([],[]))] ([2],[]) (fun x s=>((x.1.1,x.1.2.1,s,x.1.2.2.2),x.2))
  (fun x s=>by simp only[B,mC,mB,mS,mO,mN];kernel_rfl)
end Xgh
namespace Xde
def pts:List PT:=[.pt Xl]
def FS:FS:=Yef [.sh] pts (fun x=>Xde x.1) fun t=>⟨[.cs .bool t],[]⟩
theorem ok:Ydh PR 43 FS:=
 Ywf Xe Xd Proofs.Tryz.f43 h0 (.R (.R (.two (.R (.one (.fr 0))) (.L (.R (.one (.fr 2))))))) (G:=G) Gok (L:=mkL [(1,Xev.fr),(0,Xfj.fr),(2,Xgh.fr)]) (l:=[(0,.loop Xfj.c),(2,.loop Xgh.c)]) ⟨Lam.skip rfl (Lam.cons Xfj.ok),Lam.skip rfl (Lam.skip rfl (Lam.cons Xgh.ok)),trivial⟩
  (fun x=>by simp only[Xde,mC,mB,mS,mO,mN];kernel_rfl)
end Xde
def Xhm (v:Fs_):Option Int:=
 (Xdd v).bind fun v2=>cond (v2 != 0) (some v2) ((Xfi v).bind fun v3=>cond (!v3) (some 1) ((Xde v).bind fun v4=>cond (!v4) (some 1) (some 0)))
namespace Xhm
def G:Gam:=mkG [(41,Xdd.FS),(42,Xfi.FS),(43,Xde.FS)]
def pts:List PT:=[.pt Xl]
def FS:FS:=Yef [.sh] pts (fun x=>Xhm x.1) fun t=>⟨[.cs I64 t],[]⟩
theorem ok:Ydh PR 18 FS:=
 Ywf Xe Xd Proofs.Tryz.f18 h0 .no (G:=G) (show GOk PR G from .cons Xdd.ok (.cons Xfi.ok (.cons Xde.ok .nil))) (L:=mkL []) (l:=[]) hT
  (fun x=>by simp only[Xhm,mC,mB,mS,mO,mN];kernel_rfl)
end Xhm
def Xdz.B (v:List UInt8) (v2:Int) (v3:Int) (v4:Int) (v5:List (List UInt8)):Option ((Int×Int×List (List UInt8))⊕(List (List UInt8))):=
 cond (decide (v4≤(v.length:Int))) (cond (cond (!(v4 == (v.length:Int))) (inB v4 v.length) true) ((some (cond (v4 == (v.length:Int)) true (((v.getD v4.toNat 0).toNat:Int) == v2))).bind fun v6=>cond v6 (cond (decide ((0:Int)≤v4)&&decide (v4≤(v.length:Int))&&(decide ((0:Int)≤v3)&&decide (v3≤v4))) (cond (decide ((v5++([(v.take v4.toNat).drop v3.toNat])).length≤2147483648)) (some (.inl (w64 (v4+1),w64 (v4+1),v5++([(v.take v4.toNat).drop v3.toNat])))) none) none) (some (.inl (v3,w64 (v4+1),v5)))) none) (some (.inr v5))
def Xdz (v:List UInt8) (v2:Int):(Int×Int×List (List UInt8))→Option (List (List UInt8)):=
 Yam fun s=>Xdz.B v v2 s.1 s.2.1 s.2.2
def Xg3 (v:List UInt8) (v2:Int):Option (List (List UInt8)):=
 (Xdz v v2 (0,0,[])).bind fun v7=>some v7
namespace Xdz
noncomputable def c:=Yaq (Yal Proofs.Tryz.f118) [1,1,1,0,1,0,0]
def sp:SP:=⟨[(0,.cs .str),(1,.cs U8),(5,.seg 5 []),(6,.cs I64),(7,.cs I64)],[(5,.reg,.cd (.sl .str))]⟩
def fr:=Yix sp (fun x s=>Xdz.B x.1.1 x.1.2.1 s.1 s.2.1 s.2.2) (fun x=>(x.1.2.2.2.1,x.1.2.2.2.2.1,x.2.1)) fun x (bb0:List (List UInt8)) _ kk0=>kk0 (.ex 0) ⟨[(5,.seg 5 [])],[sr 5 (.cd (.sl .str) bb0)]⟩
theorem ok:Ya5 PR 36 2 (.loop c) fr:=
 Yv9 Xe Xd h0 [(0,([5],[5]))] (fun x s=>((x.1.1,x.1.2.1,x.1.2.2.1,s.1,s.2.1,x.1.2.2.2.2.2),(s.2.2,x.2.2)))
  (fun x s=>by simp only[B,mC,mB,mS,mO,mN];kernel_rfl)
end Xdz
namespace Xg3
def pts:List PT:=[.cs .str,.cs U8]
def FS:FS:=Yef [.sh,.sh] pts (fun x=>Xg3 x.1 x.2.1) fun t=>⟨[.cd (.sl .str) t],[]⟩
theorem ok:Ydh PR 118 FS:=
 Ywf Xe Xd Proofs.Tryz.f118 h0 (.R (.R (.R (.L (.R (.one (.fr 0))))))) (G:=(mkG [])) .nil (L:=mkL [(0,Xdz.fr)]) (l:=[(0,.loop Xdz.c)]) ⟨Lam.cons Xdz.ok,trivial⟩
  (fun x=>by simp only[Xg3,mC,mB,mS,mO,mN];kernel_rfl)
end Xg3
def Xgi.B (v:List (List UInt8)) (v2:Int):Option (Int⊕((Int⊕Unit))):=
 cond (decide (v2<(v.length:Int))) (cond (inB v2 v.length) ((Xga (v.getD v2.toNat [])).bind fun v3=>cond (v3 != 0) (some (.inr (.inl v3))) (some (.inl (w64 (v2+1))))) none) (some (.inr (.inr ())))
def Xgi (v:List (List UInt8)):Int→Option ((Int⊕Unit)):=
 Yam fun s=>Xgi.B v s
def Xfk (v:List (List UInt8)):Option Int:=
 cond (decide ((v.length:Int)>6)) (some 2) ((Xgi v 0).bind fun v4=>sel v4 (fun v5=>some v5) (fun v6=>some 0))
namespace Xfk
def G:Gam:=mkG [(139,Xga.FS)]
theorem Gok:GOk PR G:=.cons Xga.ok .nil
end Xfk
namespace Xgi
noncomputable def c:=Yaq (Yal Proofs.Tryz.f119) [1,1,0,1,0,0]
def sp:SP:=⟨[(0,.cs (.sl .str)),(3,.cs I64)],[]⟩
def fr:=Yix sp (fun x s=>Xgi.B x.1.1 s) (fun x=>x.1.2.1) fun x (oo0:(Int⊕Unit)) _ kk0=>sel oo0 (fun bb0=>kk0 (.rt) ⟨[(2,.cs I64 bb0)],[]⟩) (fun cc0=>kk0 (.ex 0) ⟨[],[]⟩)
theorem ok:Ya5 PR 22 1 (.loop c) fr:=
 Ysy Xe Xd h0 .no (G:=Xfk.G) Xfk.Gok (L:=mkL []) (l:=[]) hT [(0,([],[]))] ([2],[]) (fun x s=>((x.1.1,s,x.1.2.2),x.2))
  (fun x s=>by simp only[B,mC,mB,mS,mO,mN];kernel_rfl)
end Xgi
namespace Xfk
def pts:List PT:=[.cs (.sl .str)]
def FS:FS:=Yef [.sh] pts (fun x=>Xfk x.1) fun t=>⟨[.cs I64 t],[]⟩
theorem ok:Ydh PR 119 FS:=
 Ywf Xe Xd Proofs.Tryz.f119 h0 (.R (.R (.L (.R (.one (.fr 0)))))) (G:=G) Gok (L:=mkL [(0,Xgi.fr)]) (l:=[(0,.loop Xgi.c)]) ⟨Lam.cons Xgi.ok,trivial⟩
  (fun x=>by simp only[Xfk,mC,mB,mS,mO,mN];kernel_rfl)
end Xfk
def Xgj (v:List UInt8):Option ((List (List UInt8))×Int):=
 cond (decide ((v.length:Int)>30)) (some ([],2)) (cond (v == ([47]:List UInt8)) (some ([],0)) (cond (cond (!((v.length:Int) == 0)) (inB 0 v.length) true) ((some (cond ((v.length:Int) == 0) true (((v.getD (0:Int).toNat 0).toNat:Int) != 47))).bind fun v2=>cond (cond (!v2) (inB (w64 ((v.length:Int)-1)) v.length) true) ((some (cond v2 true (((v.getD (w64 ((v.length:Int)-1)).toNat 0).toNat:Int) == 47))).bind fun v3=>cond v3 (some ([],5)) (cond (decide ((0:Int)≤(1:Int))&&decide ((1:Int)≤(v.length:Int))) ((Xg3 ((v.take v.length).drop ((1:Int).toNat)) 47).bind fun v4=>(Xfk v4).bind fun v5=>cond (v5 != 0) (some ([],v5)) (some (v4,0))) none)) none) none))
namespace Xgj
def G:Gam:=mkG [(118,Xg3.FS),(119,Xfk.FS)]
def pts:List PT:=[.cs .str]
def FS:FS:=Yef [.sh] pts (fun x=>Xgj x.1) fun t=>⟨[.cd (.sl .str) t.1,.cs I64 t.2],[]⟩
theorem ok:Ydh PR 86 FS:=
 Ywf Xe Xd Proofs.Tryz.f86 h0 .no (G:=G) (show GOk PR G from .cons Xg3.ok (.cons Xfk.ok .nil)) (L:=mkL []) (l:=[]) hT
  (fun x=>by simp only[Xgj,mC,mB,mS,mO,mN];kernel_rfl)
end Xgj
def Xgk.B (v:List Xf) (v2:List UInt8) (v3:Int):Option (Int⊕((Int⊕Unit))):=
 cond (decide (v3<(v.length:Int))) (cond (inB v3 v.length) (cond ((v.getD v3.toNat Xn).1 == v2) (some (.inr (.inl v3))) (some (.inl (w64 (v3+1))))) none) (some (.inr (.inr ())))
def Xgk (v:List Xf) (v2:List UInt8):Int→Option ((Int⊕Unit)):=
 Yam fun s=>Xgk.B v v2 s
def Xfl (v:List Xf) (v2:List UInt8):Option Int:=
 (Xgk v v2 0).bind fun v4=>sel v4 (fun v5=>some v5) (fun v6=>some (-1))
namespace Xgk
noncomputable def c:=Yaq (Yal Proofs.Tryz.f66) [1,0,1,0,0]
def sp:SP:=⟨[(0,.cs (.sl Xg)),(1,.cs .str),(5,.cs I64)],[]⟩
def fr:=Yix sp (fun x s=>Xgk.B x.1.1 x.1.2.1 s) (fun x=>x.1.2.2.1) fun x (oo0:(Int⊕Unit)) _ kk0=>sel oo0 (fun bb0=>kk0 (.rt) ⟨[(4,.cs I64 bb0)],[]⟩) (fun cc0=>kk0 (.ex 0) ⟨[],[]⟩)
theorem ok:Ya5 PR 20 2 (.loop c) fr:=
 Ysy Xe Xd h0 .no (G:=(mkG [])) .nil (L:=mkL []) (l:=[]) hT [(0,([],[]))] ([4],[]) (fun x s=>((x.1.1,x.1.2.1,s,x.1.2.2.2),x.2))
  (fun x s=>by simp only[B,mC,mB,mS,mO,mN];kernel_rfl)
end Xgk
namespace Xfl
def pts:List PT:=[.cs (.sl Xg),.cs .str]
def FS:FS:=Yef [.sh,.sh] pts (fun x=>Xfl x.1 x.2.1) fun t=>⟨[.cs I64 t],[]⟩
theorem ok:Ydh PR 66 FS:=
 Ywf Xe Xd Proofs.Tryz.f66 h0 (.R (.L (.R (.one (.fr 0))))) (G:=(mkG [])) .nil (L:=mkL [(0,Xgk.fr)]) (l:=[(0,.loop Xgk.c)]) ⟨Lam.cons Xgk.ok,trivial⟩
  (fun x=>by simp only[Xfl,mC,mB,mS,mO,mN];kernel_rfl)
end Xfl
def Xfm.B (v:Fs_) (v2:List (List UInt8)) (v3:Int) (v4:Int):Option ((Int×Int)⊕(((Int×Int)⊕Int))):=
 cond (decide (v4<(v2.length:Int))) (cond (inB v3 v.1.length) (cond ((v.1.getD v3.toNat Xa).1 != 2) (some (.inr (.inl (0,9)))) (cond (inB v3 v.1.length) (cond (inB v4 v2.length) ((Xfl (v.1.getD v3.toNat Xa).2.2.2.2.1 (v2.getD v4.toNat [])).bind fun v5=>cond (decide (v5<0)) (some (.inr (.inl (0,4)))) (cond (inB v3 v.1.length) (cond (inB v5 ((v.1.getD v3.toNat Xa).2.2.2.2.1.length)) ((some ((v.1.getD v3.toNat Xa).2.2.2.2.1.getD v5.toNat Xn).2.1).bind fun v6=>some (.inl (v6,w64 (v4+1)))) none) none)) none) none)) none) (some (.inr (.inr v3)))
def Xfm (v:Fs_) (v2:List (List UInt8)):(Int×Int)→Option (((Int×Int)⊕Int)):=
 Yam fun s=>Xfm.B v v2 s.1 s.2
def Xdr (v:Fs_) (v2:List (List UInt8)):Option (Int×Int):=
 (Xfm v v2 (0,0)).bind fun v7=>sel v7 (fun v8=>some (v8.1,v8.2)) (fun v9=>some (v9,0))
namespace Xdr
def G:Gam:=mkG [(66,Xfl.FS)]
theorem Gok:GOk PR G:=.cons Xfl.ok .nil
end Xdr
namespace Xfm
noncomputable def c:=Yaq (Yal Proofs.Tryz.f87) [1,1,0,1,0,0]
def sp:SP:=⟨[(0,.pt Xl),(1,.cs (.sl .str)),(6,.cs I64),(7,.cs I64)],[]⟩
def fr:=Yix sp (fun x s=>Xfm.B x.1.1 x.1.2.1 s.1 s.2) (fun x=>(x.1.2.2.1,x.1.2.2.2.1)) fun x (oo0:((Int×Int)⊕Int)) _ kk0=>sel oo0 (fun bb0=>kk0 (.rt) ⟨[(4,.cs I64 bb0.1),(5,.cs I64 bb0.2)],[]⟩) (fun cc0=>kk0 (.ex 0) ⟨[(6,.cs I64 cc0)],[]⟩)
theorem ok:Ya5 PR 52 2 (.loop c) fr:=
 Ysy Xe Xd h0 .no (G:=Xdr.G) Xdr.Gok (L:=mkL []) (l:=[]) hT [(0,([6],[]))] ([4,5],[]) (fun x s=>((x.1.1,x.1.2.1,s.1,s.2,x.1.2.2.2.2),x.2))
  (fun x s=>by simp only[B,mC,mB,mS,mO,mN];kernel_rfl)
end Xfm
namespace Xdr
def pts:List PT:=[.pt Xl,.cs (.sl .str)]
def FS:FS:=Yef [.sh,.sh] pts (fun x=>Xdr x.1 x.2.1) fun t=>⟨[.cs I64 t.1,.cs I64 t.2],[]⟩
theorem ok:Ydh PR 87 FS:=
 Ywf Xe Xd Proofs.Tryz.f87 h0 (.R (.R (.L (.R (.one (.fr 0)))))) (G:=G) Gok (L:=mkL [(0,Xfm.fr)]) (l:=[(0,.loop Xfm.c)]) ⟨Lam.cons Xfm.ok,trivial⟩
  (fun x=>by simp only[Xdr,mC,mB,mS,mO,mN];kernel_rfl)
end Xdr
def Xhn (v:Fs_) (v2:List UInt8):Option (Int×Int):=
 (Xgj v2).bind fun v3=>cond (v3.2 != 0) (some (0,v3.2)) ((Xdr v v3.1).bind fun v4=>some (v4.1,v4.2))
namespace Xhn
def G:Gam:=mkG [(86,Xgj.FS),(87,Xdr.FS)]
def pts:List PT:=[.pt Xl,.cs .str]
def FS:FS:=Yef [.sh,.sh] pts (fun x=>Xhn x.1 x.2.1) fun t=>⟨[.cs I64 t.1,.cs I64 t.2],[]⟩
theorem ok:Ydh PR 44 FS:=
 Ywf Xe Xd Proofs.Tryz.f44 h0 .no (G:=G) (show GOk PR G from .cons Xgj.ok (.cons Xdr.ok .nil)) (L:=mkL []) (l:=[]) hT
  (fun x=>by simp only[Xhn,mC,mB,mS,mO,mN];kernel_rfl)
end Xhn
def Xh3 (v:List Int):Option (List Int):=
 cond (decide (([]++v).length≤2147483648)) (some ([]++v)) none
namespace Xh3
def pts:List PT:=[.cs SI]
def FS:FS:=Yef [.sh] pts (fun x=>Xh3 x.1) fun t=>⟨[.cd SI t],[]⟩
theorem ok:Ydh PR 120 FS:=
 Ywf Xe Xd Proofs.Tryz.f120 h0 .no (G:=(mkG [])) .nil (L:=mkL []) (l:=[]) hT
  (fun x=>by simp only[Xh3,mC,mB,mS,mO,mN];kernel_rfl)
end Xh3
def Xho (v:Xb):Option Xb:=
 (Xh3 v.2.2.2.1).bind fun v2=>cond (decide (([]++v.2.2.2.2.1).length≤2147483648)) (some (v.1,v.2.1,v.2.2.1,v2,[]++v.2.2.2.2.1,v.2.2.2.2.2)) none
namespace Xho
def G:Gam:=mkG [(120,Xh3.FS)]
def pts:List PT:=[.cs Xc]
def FS:FS:=Yef [.sh] pts (fun x=>Xho x.1) fun t=>⟨[.cd Xc t],[]⟩
theorem ok:Ydh PR 89 FS:=
 Ywf Xe Xd Proofs.Tryz.f89 h0 .no (G:=G) (show GOk PR G from .cons Xh3.ok .nil) (L:=mkL []) (l:=[]) hT
  (fun x=>by simp only[Xho,mC,mB,mS,mO,mN];kernel_rfl)
end Xho
def Xfn.B (v:Fs_) (v3:Fs_) (v2:Int) (v4:Fs_):Option ((Int×Fs_)⊕Fs_):=
 cond (decide (v2<(v.1.length:Int))) (cond (inB v2 v.1.length) ((Xho (v.1.getD v2.toNat Xa)).bind fun v5=>(some (v4.1++([(v5.1,v5.2.1,v5.2.2.1,v5.2.2.2.1,v5.2.2.2.2.1,v5.2.2.2.2.2)]))).bind fun v6=>cond (decide (v6.length≤2147483648)) (some (.inl (w64 (v2+1),(v6,v4.2)))) none) none) (some (.inr v4))
def Xfn (v:Fs_) (v3:Fs_):(Int×Fs_)→Option Fs_:=
 Yam fun s=>Xfn.B v v3 s.1 s.2
def Xfo.B (v:Fs_) (v9:Fs_) (v8:Int) (v10:Fs_):Option ((Int×Fs_)⊕Fs_):=
 cond (decide (v8<(v.2.1.length:Int))) (cond (inB v8 v.2.1.length) (cond (decide (([]++(v.2.1.getD v8.toNat [])).length≤2147483648)) (cond (decide ((v10.2.1++([[]++(v.2.1.getD v8.toNat [])])).length≤2147483648)) (some (.inl (w64 (v8+1),(v10.1,v10.2.1++([[]++(v.2.1.getD v8.toNat [])]),v10.2.2)))) none) none) none) (some (.inr v10))
def Xfo (v:Fs_) (v9:Fs_):(Int×Fs_)→Option Fs_:=
 Yam fun s=>Xfo.B v v9 s.1 s.2
def Xc6 (v:Fs_):Option Fs_:=
 (Xfn v ([],[],()) (0,([],[],()))).bind fun v7=>(Xfo v ([],[],()) (0,v7)).bind fun v11=>some (v11.1,v11.2.1,v11.2.2)
namespace Xc6
def G:Gam:=mkG [(89,Xho.FS)]
theorem Gok:GOk PR G:=.cons Xho.ok .nil
end Xc6
namespace Xfn
noncomputable def c:=Yaq (Yal Proofs.Tryz.f47) [1,1,0,1,0,0]
def sp:SP:=⟨[(1,.pt Xl),(2,.loc 2 []),(3,.loc 3 []),(4,.cs I64)],[(2,.mem,.cd Xl),(3,.mem,.cd Xl)]⟩
def fr:=Yix sp (fun x s=>Xfn.B x.1.1 x.2.1 s.1 s.2) (fun x=>(x.1.2.2.2.1,x.2.2.1)) fun x (bb0:Fs_) _ kk0=>kk0 (.ex 0) ⟨[(1,.pt Xl x.1.1),(2,.loc 2 []),(3,.loc 3 [])],[(2,some ⟨.mem,.cd Xl x.2.1⟩),(3,some ⟨.mem,.cd Xl bb0⟩)]⟩
theorem ok:Ya5 PR 45 1 (.loop c) fr:=
 Ywh Xe Xd ⟨[1],[],[],0⟩ (G:=Xc6.G) Xc6.Gok [(0,([1,2,3],[2,3]))] (fun x s=>((x.1.1,x.1.2.1,x.1.2.2.1,s.1,x.1.2.2.2.2),(x.2.1,s.2,x.2.2.2)))
  (fun x s=>by simp only[B,mC,mB,mS,mO,mN];kernel_rfl)
end Xfn
namespace Xfo
noncomputable def c:=Yaq (Yal Proofs.Tryz.f47) [1,1,1,0,1,0,0]
def sp:SP:=⟨[(1,.pt Xl),(2,.loc 2 []),(3,.loc 3 []),(5,.cs I64)],[(2,.mem,.cd Xl),(3,.mem,.cd Xl)]⟩
def fr:=Yix sp (fun x s=>Xfo.B x.1.1 x.2.1 s.1 s.2) (fun x=>(x.1.2.2.2.1,x.2.2.1)) fun x (bb0:Fs_) _ kk0=>kk0 (.ex 2) ⟨[(2,.loc 2 []),(3,.loc 3 [])],[(2,some ⟨.mem,.cd Xl x.2.1⟩),(3,some ⟨.mem,.cd Xl bb0⟩)]⟩
theorem ok:Ya5 PR 45 1 (.loop c) fr:=
 Ywh Xe Xd ⟨[1],[],[],0⟩ (G:=Xc6.G) Xc6.Gok [(2,([2,3],[2,3]))] (fun x s=>((x.1.1,x.1.2.1,x.1.2.2.1,s.1,x.1.2.2.2.2),(x.2.1,s.2,x.2.2.2)))
  (fun x s=>by simp only[B,mC,mB,mS,mO,mN];kernel_rfl)
end Xfo
namespace Xc6
def pts:List PT:=[.cs Xl]
def FS:FS:=Yef [.sh] pts (fun x=>Xc6 x.1) fun t=>⟨[.cd Xl t],[]⟩
theorem ok:Ydh PR 47 FS:=
 Ywf Xe Xd Proofs.Tryz.f47 ⟨[1],[],[],0⟩ (.R (.R (.two (.R (.one (.fr 0))) (.L (.R (.one (.fr 1))))))) (G:=G) Gok (L:=mkL [(0,Xfn.fr),(1,Xfo.fr)]) (l:=[(0,.loop Xfn.c),(1,.loop Xfo.c)]) ⟨Lam.cons Xfn.ok,Lam.skip rfl (Lam.cons Xfo.ok),trivial⟩
  (fun x=>by simp only[Xc6,mC,mB,mS,mO,mN];kernel_rfl)
end Xc6
def Xgl (v:Fs_) (v2:Int):Option Xq:=
 (Xc6 v).bind fun v3=>some (0,v2,0,[],[],(v3.1,v3.2.1,v3.2.2),())
namespace Xgl
def G:Gam:=mkG [(47,Xc6.FS)]
def pts:List PT:=[.cs Xl,.cs I64]
def FS:FS:=Yef [.sh,.sh] pts (fun x=>Xgl x.1 x.2.1) fun t=>⟨[.cd Xo t],[]⟩
theorem ok:Ydh PR 45 FS:=
 Ywf Xe Xd Proofs.Tryz.f45 ⟨[2],[],[],0⟩ .no (G:=G) (show GOk PR G from .cons Xc6.ok .nil) (L:=mkL []) (l:=[]) hT
  (fun x=>by simp only[Xgl,mC,mB,mS,mO,mN];kernel_rfl)
end Xgl
def Xh4 (v:List UInt8):Option ((List (List UInt8))×(List UInt8)×Int):=
 (Xgj v).bind fun v2=>cond (v2.2 != 0) (some ([],([]:List UInt8),v2.2)) (cond ((v2.1.length:Int) == 0) (some ([],([]:List UInt8),4)) (cond (decide ((0:Int)≤(w64 ((v2.1.length:Int)-1)))&&decide ((w64 ((v2.1.length:Int)-1))≤(v2.1.length:Int))) (cond (inB (w64 ((v2.1.length:Int)-1)) v2.1.length) ((some (v2.1.getD ((w64 ((v2.1.length:Int)-1)).toNat) [])).bind fun v3=>some ((v2.1.drop 0).take (((w64 ((v2.1.length:Int)-1)).toNat)-0),v3,0)) none) none))
namespace Xh4
def G:Gam:=mkG [(86,Xgj.FS)]
def pts:List PT:=[.cs .str]
def FS:FS:=Yef [.sh] pts (fun x=>Xh4 x.1) fun t=>⟨[.cd (.sl .str) t.1,.cs .str t.2.1,.cs I64 t.2.2],[]⟩
theorem ok:Ydh PR 88 FS:=
 Ywf Xe Xd Proofs.Tryz.f88 h0 .no (G:=G) (show GOk PR G from .cons Xgj.ok .nil) (L:=mkL []) (l:=[]) hT
  (fun x=>by simp only[Xh4,mC,mB,mS,mO,mN];kernel_rfl)
end Xh4
def Xhp (v:Fs_) (v2:List UInt8):Option (Int×(List UInt8)×Int):=
 (Xh4 v2).bind fun v3=>cond (v3.2.2 != 0) (some (0,([]:List UInt8),v3.2.2)) ((Xdr v v3.1).bind fun v4=>cond (v4.2 != 0) (some (0,([]:List UInt8),v4.2)) (cond (inB v4.1 v.1.length) (cond ((v.1.getD v4.1.toNat Xa).1 != 2) (some (0,([]:List UInt8),9)) (some (v4.1,v3.2.1,0))) none))
namespace Xhp
def G:Gam:=mkG [(88,Xh4.FS),(87,Xdr.FS)]
def pts:List PT:=[.pt Xl,.cs .str]
def FS:FS:=Yef [.sh,.sh] pts (fun x=>Xhp x.1 x.2.1) fun t=>⟨[.cs I64 t.1,.cs .str t.2.1,.cs I64 t.2.2],[]⟩
theorem ok:Ydh PR 46 FS:=
 Ywf Xe Xd Proofs.Tryz.f46 h0 .no (G:=G) (show GOk PR G from .cons Xh4.ok (.cons Xdr.ok .nil)) (L:=mkL []) (l:=[]) hT
  (fun x=>by simp only[Xhp,mC,mB,mS,mO,mN];kernel_rfl)
end Xhp
def Xh5 (v:Fs_) (v2:Int):Option Bool:=
 (Xa9 v2 0 (w64 ((v.1.length:Int)-1))).bind fun v3=>some v3
namespace Xh5
def G:Gam:=mkG [(121,Xa9.FS)]
def pts:List PT:=[.pt Xl,.cs I64]
def FS:FS:=Yef [.sh,.sh] pts (fun x=>Xh5 x.1 x.2.1) fun t=>⟨[.cs .bool t],[]⟩
theorem ok:Ydh PR 90 FS:=
 Ywf Xe Xd Proofs.Tryz.f90 h0 .no (G:=G) (show GOk PR G from .cons Xa9.ok .nil) (L:=mkL []) (l:=[]) hT
  (fun x=>by simp only[Xh5,mC,mB,mS,mO,mN];kernel_rfl)
end Xh5
def Xfp.B (v:List Xf) (v2:Xf) (v3:Int):Option (Int⊕Int):=
 cond (cond (decide (v3<(v.length:Int))) (inB v3 v.length) true) ((some (cond (decide (v3<(v.length:Int))) (leB (v.getD v3.toNat Xn).1 v2.1) false)).bind fun v4=>cond v4 (some (.inl (w64 (v3+1)))) (some (.inr v3))) none
def Xfp (v:List Xf) (v2:Xf):Int→Option Int:=
 Yam fun s=>Xfp.B v v2 s
def Xhq (v:List Xf) (v2:Xf):Option (List Xf):=
 (Xfp v v2 0).bind fun v5=>cond (decide ((0:Int)≤v5)&&decide (v5≤(v.length:Int))) (cond (decide (([]++((v.take v5.toNat).drop 0)).length≤2147483648)) (cond (decide ((([]++((v.take v5.toNat).drop 0))++([v2])).length≤2147483648)) (cond (decide ((0:Int)≤v5)&&decide (v5≤(v.length:Int))) ((some ((([]++((v.take v5.toNat).drop 0))++([v2]))++((v.take v.length).drop v5.toNat))).bind fun v6=>cond (decide (v6.length≤2147483648)) (some v6) none) none) none) none) none
namespace Xfp
noncomputable def c:=Yaq (Yal Proofs.Tryz.f71) [1,1,0,0,0]
def sp:SP:=⟨[(0,.cs (.sl Xg)),(3,.pt Xg),(5,.cs I64)],[]⟩
def fr:=Yix sp (fun x s=>Xfp.B x.1.1 x.1.2.1 s) (fun x=>x.1.2.2.1) fun x (bb0:Int) _ kk0=>kk0 (.ex 0) ⟨[(0,.cs (.sl Xg) x.1.1),(3,.pt Xg x.1.2.1),(5,.cs I64 bb0)],[]⟩
theorem ok:Ya5 PR 34 2 (.loop c) fr:=
 Yv9 Xe Xd ⟨[3],[],[],0⟩ [(0,([0,3,5],[]))] (fun x s=>((x.1.1,x.1.2.1,s,x.1.2.2.2),x.2))
  (fun x s=>by simp only[B,mC,mB,mS,mO,mN];kernel_rfl)
end Xfp
namespace Xhq
def pts:List PT:=[.cs (.sl Xg),.cs Xg]
def FS:FS:=Yef [.sh,.sh] pts (fun x=>Xhq x.1 x.2.1) fun t=>⟨[.cd (.sl Xg) t],[]⟩
theorem ok:Ydh PR 71 FS:=
 Ywf Xe Xd Proofs.Tryz.f71 ⟨[3],[],[],0⟩ (.R (.R (.L (.one (.fr 0))))) (G:=(mkG [])) .nil (L:=mkL [(0,Xfp.fr)]) (l:=[(0,.loop Xfp.c)]) ⟨Lam.cons Xfp.ok,trivial⟩
  (fun x=>by simp only[Xhq,mC,mB,mS,mO,mN];kernel_rfl)
end Xhq
def Xhr (v:Fs_) (v2:Int) (v3:List UInt8) (v4:Int):Option (Int×Fs_):=
 cond (inB v2 v.1.length) ((Xfl (v.1.getD v2.toNat Xa).2.2.2.2.1 v3).bind fun v5=>cond (decide (v5≥0)) (some (7,v)) ((Xh5 v v4).bind fun v6=>cond (cond (!(!v6)) (inB v4 v.1.length) true) ((some (cond (!v6) true ((v.1.getD v4.toNat Xa).1 == 0))).bind fun v7=>cond v7 (some (4,v)) (cond (inB v4 v.1.length) (cond (inB v2 v.1.length) ((some ((v.1.getD v2.toNat Xa).2.2.2.2.1.length:Int)).bind fun v8=>cond (cond ((!(decide (v8≥6)))&&((v.1.getD v4.toNat Xa).1 == 1)) (inB v4 v.1.length) true) ((some (cond (decide (v8≥6)) true (cond ((v.1.getD v4.toNat Xa).1 == 1) (decide ((v.1.getD v4.toNat Xa).2.1≥60)) false))).bind fun v9=>cond v9 (some (2,v)) (cond (inB v2 v.1.length) ((Xhq (v.1.getD v2.toNat Xa).2.2.2.2.1 (v3,v4,())).bind fun v10=>cond (inB v2 v.1.length) ((some (v.1.set v2.toNat ((v.1.getD v2.toNat Xa).1,(v.1.getD v2.toNat Xa).2.1,(v.1.getD v2.toNat Xa).2.2.1,(v.1.getD v2.toNat Xa).2.2.2.1,v10,(v.1.getD v2.toNat Xa).2.2.2.2.2))).bind fun v11=>cond ((v.1.getD v4.toNat Xa).1 == 1) (cond (inB v4 v11.length) (cond (inB v4 v11.length) ((some (v11.set v4.toNat ((v11.getD v4.toNat Xa).1,w64 ((v11.getD v4.toNat Xa).2.1+1),(v11.getD v4.toNat Xa).2.2))).bind fun v12=>some (0,(v12,v.2))) none) none) (some (0,(v11,v.2)))) none) none)) none) none) none)) none)) none
namespace Xhr
def G:Gam:=mkG [(66,Xfl.FS),(90,Xh5.FS),(71,Xhq.FS)]
def pts:List PT:=[.op (.cd Xl),.cs I64,.cs .str,.cs I64]
def FS:FS:=Yef [.mu,.sh,.sh,.sh] pts (fun x=>Xhr x.1 x.2.1 x.2.2.1 x.2.2.2.1) fun t=>⟨[.cs I64 t.1],[.op (.cd Xl t.2)]⟩
theorem ok:Ydh PR 48 FS:=
 Ywf Xe Xd Proofs.Tryz.f48 h0 .no (G:=G) (show GOk PR G from .cons Xfl.ok (.cons Xh5.ok (.cons Xhq.ok .nil))) (L:=mkL []) (l:=[]) hT
  (fun x=>by simp only[Xhr,mC,mB,mS,mO,mN];kernel_rfl)
end Xhr
def Xh6 (v:Fs_) (v2:List UInt8) (v3:List UInt8):Option Xq:=
 (Xhn v v2).bind fun v4=>cond (v4.2 != 0) ((Xgl v v4.2).bind fun v5=>some (v5.1,v5.2.1,v5.2.2.1,v5.2.2.2.1,v5.2.2.2.2.1,(v5.2.2.2.2.2.1.1,v5.2.2.2.2.2.1.2.1,v5.2.2.2.2.2.1.2.2),v5.2.2.2.2.2.2)) (cond (inB v4.1 v.1.length) (cond ((v.1.getD v4.1.toNat Xa).1 == 2) ((Xgl v 9).bind fun v6=>some (v6.1,v6.2.1,v6.2.2.1,v6.2.2.2.1,v6.2.2.2.2.1,(v6.2.2.2.2.2.1.1,v6.2.2.2.2.2.1.2.1,v6.2.2.2.2.2.1.2.2),v6.2.2.2.2.2.2)) ((Xhp v v3).bind fun v7=>cond (v7.2.2 != 0) ((Xgl v v7.2.2).bind fun v8=>some (v8.1,v8.2.1,v8.2.2.1,v8.2.2.2.1,v8.2.2.2.2.1,(v8.2.2.2.2.2.1.1,v8.2.2.2.2.2.1.2.1,v8.2.2.2.2.2.1.2.2),v8.2.2.2.2.2.2)) ((Xc6 v).bind fun v9=>(Xhr (v9.1,v9.2.1,v9.2.2) v7.1 v7.2.1 v4.1).bind fun v10=>cond (v10.1 != 0) ((Xgl v v10.1).bind fun v11=>some (v11.1,v11.2.1,v11.2.2.1,v11.2.2.2.1,v11.2.2.2.2.1,(v11.2.2.2.2.2.1.1,v11.2.2.2.2.2.1.2.1,v11.2.2.2.2.2.1.2.2),v11.2.2.2.2.2.2)) (some (0,0,0,[],[],(v10.2.1,v10.2.2.1,v10.2.2.2),()))))) none)
namespace Xh6
def G:Gam:=mkG [(44,Xhn.FS),(45,Xgl.FS),(46,Xhp.FS),(47,Xc6.FS),(48,Xhr.FS)]
def pts:List PT:=[.cs Xl,.cs .str,.cs .str]
def FS:FS:=Yef [.sh,.sh,.sh] pts (fun x=>Xh6 x.1 x.2.1 x.2.2.1) fun t=>⟨[.cd Xo t],[]⟩
theorem ok:Ydh PR 19 FS:=
 Ywf Xe Xd Proofs.Tryz.f19 ⟨[3],[],[],0⟩ .no (G:=G) (show GOk PR G from .cons Xhn.ok (.cons Xgl.ok (.cons Xhp.ok (.cons Xc6.ok (.cons Xhr.ok .nil))))) (L:=mkL []) (l:=[]) hT
  (fun x=>by simp only[Xh6,mC,mB,mS,mO,mN];kernel_rfl)
end Xh6
def Xgu (v:Fs_) (v2:List UInt8) (v3:List UInt8):Option Xq:=
 (Xhm v).bind fun v4=>cond (v4 != 0) (some (v4,0,0,[],[],([],[],()),())) ((Xh6 v v2 v3).bind fun v5=>some (v5.1,v5.2.1,v5.2.2.1,v5.2.2.2.1,v5.2.2.2.2.1,(v5.2.2.2.2.2.1.1,v5.2.2.2.2.2.1.2.1,v5.2.2.2.2.2.1.2.2),v5.2.2.2.2.2.2))
namespace Xgu
def G:Gam:=mkG [(18,Xhm.FS),(19,Xh6.FS)]
def pts:List PT:=[.cs Xl,.cs .str,.cs .str]
def FS:FS:=Yef [.sh,.sh,.sh] pts (fun x=>Xgu x.1 x.2.1 x.2.2.1) fun t=>⟨[.cd Xo t],[]⟩
theorem ok:Ydh PR 6 FS:=
 Ywf Xe Xd Proofs.Tryz.f6 ⟨[3],[],[],0⟩ .no (G:=G) (show GOk PR G from .cons Xhm.ok (.cons Xh6.ok .nil)) (L:=mkL []) (l:=[]) hT
  (fun x=>by simp only[Xgu,mC,mB,mS,mO,mN];kernel_rfl)
end Xgu
def Xba (v:Int) (v2:Int) (v3:Int):Option Bool:=
 some (cond (decide (v≥v2)) (decide (v≤v3)) false)
namespace Xba
def pts:List PT:=[.cs I64,.cs I64,.cs I64]
def FS:FS:=Yef [.sh,.sh,.sh] pts (fun x=>Xba x.1 x.2.1 x.2.2.1) fun t=>⟨[.cs .bool t],[]⟩
theorem ok:Ydh PR 104 FS:=
 Ywf Xe Xd Proofs.Tryz.f104 h0 .no (G:=(mkG [])) .nil (L:=mkL []) (l:=[]) hT
  (fun x=>by simp only[Xba,mC,mB,mS,mO,mN];kernel_rfl)
end Xba
def Xh7 (v:List Int):Option Int:=
 some (v.length:Int)
namespace Xh7
def pts:List PT:=[.cs SI]
def FS:FS:=Yef [.sh] pts (fun x=>Xh7 x.1) fun t=>⟨[.cs I64 t],[]⟩
theorem ok:Ydh PR 166 FS:=
 Ywf Xe Xd Proofs.Tryz.f166 h0 .no (G:=(mkG [])) .nil (L:=mkL []) (l:=[]) hT
  (fun x=>by simp only[Xh7,mC,mB,mS,mO,mN];kernel_rfl)
end Xh7
def Xh8 (v:Int):Option Int:=
 cond (!((8:Int) == 0)) (some (w64 ((w64 ((w64 (v+8))-1)).tdiv 8))) none
namespace Xh8
def pts:List PT:=[.cs I64]
def FS:FS:=Yef [.sh] pts (fun x=>Xh8 x.1) fun t=>⟨[.cs I64 t],[]⟩
theorem ok:Ydh PR 167 FS:=
 Ywf Xe Xd Proofs.Tryz.f167 h0 .no (G:=(mkG [])) .nil (L:=mkL []) (l:=[]) hT
  (fun x=>by simp only[Xh8,mC,mB,mS,mO,mN];kernel_rfl)
end Xh8
def Xh9 (v:Int):Option Bool:=
 (Xba v 0 19).bind fun v2=>some (!v2)
namespace Xh9
def G:Gam:=mkG [(104,Xba.FS)]
def pts:List PT:=[.cs I64]
def FS:FS:=Yef [.sh] pts (fun x=>Xh9 x.1) fun t=>⟨[.cs .bool t],[]⟩
theorem ok:Ydh PR 169 FS:=
 Ywf Xe Xd Proofs.Tryz.f169 h0 .no (G:=G) (show GOk PR G from .cons Xba.ok .nil) (L:=mkL []) (l:=[]) hT
  (fun x=>by simp only[Xh9,mC,mB,mS,mO,mN];kernel_rfl)
end Xh9
def Xgm.B (v:List Int) (v2:Unit) (v3:Int) (v4:Int):Option (Int⊕((Int⊕Unit))):=
 cond (decide (v4<v3)) (cond (inB v4 v.length) ((Xh9 (v.getD v4.toNat 0)).bind fun v5=>cond v5 (some (.inr (.inl v4))) (some (.inl (w64 (v4+1))))) none) (some (.inr (.inr ())))
def Xgm (v:List Int) (v2:Unit) (v3:Int):Int→Option ((Int⊕Unit)):=
 Yam fun s=>Xgm.B v v2 v3 s
def Xgn (v:List Int) (v2:Unit):Option Int:=
 (Xgm v v2 (v.length:Int) 0).bind fun v6=>sel v6 (fun v7=>some v7) (fun v8=>some (-1))
namespace Xgn
def G:Gam:=mkG [(169,Xh9.FS)]
theorem Gok:GOk PR G:=.cons Xh9.ok .nil
end Xgn
namespace Xgm
noncomputable def c:=Yaq (Yal Proofs.Tryz.f180) [1,0,1,0,0]
def sp:SP:=⟨[(0,.cs SI),(1,.clo 169 (.cs .unit)),(7,.cs I64),(8,.cs I64)],[]⟩
def fr:=Yix sp (fun x s=>Xgm.B x.1.1 x.1.2.1 x.1.2.2.1 s) (fun x=>x.1.2.2.2.1) fun x (oo0:(Int⊕Unit)) _ kk0=>sel oo0 (fun bb0=>kk0 (.rt) ⟨[(4,.cs I64 bb0)],[]⟩) (fun cc0=>kk0 (.ex 0) ⟨[],[]⟩)
theorem ok:Ya5 PR 19 2 (.loop c) fr:=
 Ysy Xe Xd h0 .no (G:=Xgn.G) Xgn.Gok (L:=mkL []) (l:=[]) hT [(0,([],[]))] ([4],[]) (fun x s=>((x.1.1,x.1.2.1,x.1.2.2.1,s,x.1.2.2.2.2),x.2))
  (fun x s=>by simp only[B,mC,mB,mS,mO,mN];kernel_rfl)
end Xgm
namespace Xgn
def pts:List PT:=[.cs SI,.clo 169 (.cs .unit)]
def FS:FS:=Yef [.sh,.sh] pts (fun x=>Xgn x.1 x.2.1) fun t=>⟨[.cs I64 t],[]⟩
theorem ok:Ydh PR 180 FS:=
 Ywf Xe Xd Proofs.Tryz.f180 h0 (.R (.L (.R (.one (.fr 0))))) (G:=G) Gok (L:=mkL [(0,Xgm.fr)]) (l:=[(0,.loop Xgm.c)]) ⟨Lam.cons Xgm.ok,trivial⟩
  (fun x=>by simp only[Xgn,mC,mB,mS,mO,mN];kernel_rfl)
end Xgn
def Xhs (v:List Int) (v2:Unit):Option Bool:=
 (Xgn v v2).bind fun v3=>some (decide (v3≥0))
namespace Xhs
def G:Gam:=mkG [(180,Xgn.FS)]
def pts:List PT:=[.cs SI,.clo 169 (.cs .unit)]
def FS:FS:=Yef [.sh,.sh] pts (fun x=>Xhs x.1 x.2.1) fun t=>⟨[.cs .bool t],[]⟩
theorem ok:Ydh PR 168 FS:=
 Ywf Xe Xd Proofs.Tryz.f168 h0 .no (G:=G) (show GOk PR G from .cons Xgn.ok .nil) (L:=mkL []) (l:=[]) hT
  (fun x=>by simp only[Xhs,mC,mB,mS,mO,mN];kernel_rfl)
end Xhs
def Xgo.B (v:List Int) (v2:Int) (v3:Int) (v4:Int):Option (Int⊕((Int⊕Unit))):=
 cond (decide (v4<v3)) (cond (inB v4 v.length) (cond (v2 == (v.getD v4.toNat 0)) (some (.inr (.inl v4))) (some (.inl (w64 (v4+1))))) none) (some (.inr (.inr ())))
def Xgo (v:List Int) (v2:Int) (v3:Int):Int→Option ((Int⊕Unit)):=
 Yam fun s=>Xgo.B v v2 v3 s
def Xia (v:List Int) (v2:Int):Option Int:=
 (Xgo v v2 (v.length:Int) 0).bind fun v5=>sel v5 (fun v6=>some v6) (fun v7=>some (-1))
namespace Xgo
noncomputable def c:=Yaq (Yal Proofs.Tryz.f110) [1,0,1,0,0]
def sp:SP:=⟨[(0,.cs SI),(1,.cs I64),(7,.cs I64),(8,.cs I64)],[]⟩
def fr:=Yix sp (fun x s=>Xgo.B x.1.1 x.1.2.1 x.1.2.2.1 s) (fun x=>x.1.2.2.2.1) fun x (oo0:(Int⊕Unit)) _ kk0=>sel oo0 (fun bb0=>kk0 (.rt) ⟨[(4,.cs I64 bb0)],[]⟩) (fun cc0=>kk0 (.ex 0) ⟨[],[]⟩)
theorem ok:Ya5 PR 19 2 (.loop c) fr:=
 Ysy Xe Xd h0 .no (G:=(mkG [])) .nil (L:=mkL []) (l:=[]) hT [(0,([],[]))] ([4],[]) (fun x s=>((x.1.1,x.1.2.1,x.1.2.2.1,s,x.1.2.2.2.2),x.2))
  (fun x s=>by simp only[B,mC,mB,mS,mO,mN];kernel_rfl)
end Xgo
namespace Xia
def pts:List PT:=[.cs SI,.cs I64]
def FS:FS:=Yef [.sh,.sh] pts (fun x=>Xia x.1 x.2.1) fun t=>⟨[.cs I64 t],[]⟩
theorem ok:Ydh PR 110 FS:=
 Ywf Xe Xd Proofs.Tryz.f110 h0 (.R (.L (.R (.one (.fr 0))))) (G:=(mkG [])) .nil (L:=mkL [(0,Xgo.fr)]) (l:=[(0,.loop Xgo.c)]) ⟨Lam.cons Xgo.ok,trivial⟩
  (fun x=>by simp only[Xia,mC,mB,mS,mO,mN];kernel_rfl)
end Xia
def Xgp (v:List Int) (v2:Int):Option Bool:=
 (Xia v v2).bind fun v3=>some (decide (v3≥0))
namespace Xgp
def G:Gam:=mkG [(110,Xia.FS)]
def pts:List PT:=[.cs SI,.cs I64]
def FS:FS:=Yef [.sh,.sh] pts (fun x=>Xgp x.1 x.2.1) fun t=>⟨[.cs .bool t],[]⟩
theorem ok:Ydh PR 73 FS:=
 Ywf Xe Xd Proofs.Tryz.f73 h0 .no (G:=G) (show GOk PR G from .cons Xia.ok .nil) (L:=mkL []) (l:=[]) hT
  (fun x=>by simp only[Xgp,mC,mB,mS,mO,mN];kernel_rfl)
end Xgp
def Xfq.B (v:Xb) (v7:List Int) (v8:Int) (v9:Int):Option (Int⊕((Int⊕Unit))):=
 cond (decide (v9<v8)) (cond (inB v9 v7.length) (cond (decide ((0:Int)≤v9)&&decide (v9≤(v.2.2.2.1.length:Int))) ((Xgp ((v.2.2.2.1.take v9.toNat).drop 0) (v7.getD v9.toNat 0)).bind fun v10=>cond v10 (some (.inr (.inl 7))) (some (.inl (w64 (v9+1))))) none) none) (some (.inr (.inr ())))
def Xfq (v:Xb) (v7:List Int) (v8:Int):Int→Option ((Int⊕Unit)):=
 Yam fun s=>Xfq.B v v7 v8 s
def Xbd (v:Xb):Option Int:=
 (Xba v.2.1 1 60).bind fun v2=>cond (!v2) (some 3) ((Xba v.2.2.1 0 32).bind fun v3=>cond (!v3) (some 3) ((Xh7 v.2.2.2.1).bind fun v4=>(Xh8 v.2.2.1).bind fun v5=>cond (v4 != v5) (some 1) ((Xhs v.2.2.2.1 ()).bind fun v6=>cond v6 (some 3) ((Xfq v v.2.2.2.1 (v.2.2.2.1.length:Int) 0).bind fun v11=>sel v11 (fun v12=>some v12) (fun v13=>some 0)))))
namespace Xbd
def G:Gam:=mkG [(104,Xba.FS),(166,Xh7.FS),(167,Xh8.FS),(168,Xhs.FS),(73,Xgp.FS)]
theorem Gok:GOk PR G:=.cons Xba.ok (.cons Xh7.ok (.cons Xh8.ok (.cons Xhs.ok (.cons Xgp.ok .nil))))
end Xbd
namespace Xfq
noncomputable def c:=Yaq (Yal Proofs.Tryz.f149) [1,1,0,1,0,0]
def sp:SP:=⟨[(1,.pt Xc),(29,.cs SI),(30,.cs I64),(31,.cs I64)],[]⟩
def fr:=Yix sp (fun x s=>Xfq.B x.1.1 x.1.2.1 x.1.2.2.1 s) (fun x=>x.1.2.2.2.1) fun x (oo0:(Int⊕Unit)) _ kk0=>sel oo0 (fun bb0=>kk0 (.rt) ⟨[(2,.cs I64 bb0)],[]⟩) (fun cc0=>kk0 (.ex 1) ⟨[],[]⟩)
theorem ok:Ya5 PR 43 1 (.loop c) fr:=
 Ysy Xe Xd ⟨[1],[],[],0⟩ .no (G:=Xbd.G) Xbd.Gok (L:=mkL []) (l:=[]) hT [(1,([],[]))] ([2],[]) (fun x s=>((x.1.1,x.1.2.1,x.1.2.2.1,s,x.1.2.2.2.2),x.2))
  (fun x s=>by simp only[B,mC,mB,mS,mO,mN];kernel_rfl)
end Xfq
namespace Xbd
def pts:List PT:=[.cs Xc]
def FS:FS:=Yef [.sh] pts (fun x=>Xbd x.1) fun t=>⟨[.cs I64 t],[]⟩
theorem ok:Ydh PR 149 FS:=
 Ywf Xe Xd Proofs.Tryz.f149 ⟨[1],[],[],0⟩ (.R (.R (.L (.R (.one (.fr 0)))))) (G:=G) Gok (L:=mkL [(0,Xfq.fr)]) (l:=[(0,.loop Xfq.c)]) ⟨Lam.cons Xfq.ok,trivial⟩
  (fun x=>by simp only[Xbd,mC,mB,mS,mO,mN];kernel_rfl)
end Xbd
def Xcn.B (v:List UInt8) (v2:Int) (v3:Int):Option (Int⊕((Int⊕Unit))):=
 cond (decide (v3<v2)) (cond (inB v3 v.length) (cond (cond (!(decide (((v.getD v3.toNat 0).toNat:Int)<97))) (inB v3 v.length) true) ((some (cond (decide (((v.getD v3.toNat 0).toNat:Int)<97)) true (decide (((v.getD v3.toNat 0).toNat:Int)>122)))).bind fun v4=>cond v4 (some (.inr (.inl 5))) (some (.inl (w64 (v3+1))))) none) none) (some (.inr (.inr ())))
def Xcn (v:List UInt8) (v2:Int):Int→Option ((Int⊕Unit)):=
 Yam fun s=>Xcn.B v v2 s
def Xco (v:List UInt8):Option Int:=
 cond (v == ([]:List UInt8)) (some 5) ((Xcn v (v.length:Int) 0).bind fun v5=>sel v5 (fun v6=>some v6) (fun v7=>cond (decide ((v.length:Int)>4)) (some 2) (some 0)))
namespace Xcn
noncomputable def c:=Yaq (Yal Proofs.Tryz.f130) [1,1,0,1,0,0]
def sp:SP:=⟨[(0,.cs .str),(7,.cs I64),(8,.cs I64)],[]⟩
def fr:=Yix sp (fun x s=>Xcn.B x.1.1 x.1.2.1 s) (fun x=>x.1.2.2.1) fun x (oo0:(Int⊕Unit)) _ kk0=>sel oo0 (fun bb0=>kk0 (.rt) ⟨[(2,.cs I64 bb0)],[]⟩) (fun cc0=>kk0 (.ex 0) ⟨[(0,.cs .str x.1.1)],[]⟩)
theorem ok:Ya5 PR 25 1 (.loop c) fr:=
 Ysy Xe Xd h0 .no (G:=(mkG [])) .nil (L:=mkL []) (l:=[]) hT [(0,([0],[]))] ([2],[]) (fun x s=>((x.1.1,x.1.2.1,s,x.1.2.2.2),x.2))
  (fun x s=>by simp only[B,mC,mB,mS,mO,mN];kernel_rfl)
end Xcn
namespace Xco
def pts:List PT:=[.cs .str]
def FS:FS:=Yef [.sh] pts (fun x=>Xco x.1) fun t=>⟨[.cs I64 t],[]⟩
theorem ok:Ydh PR 130 FS:=
 Ywf Xe Xd Proofs.Tryz.f130 h0 (.R (.R (.L (.R (.one (.fr 0)))))) (G:=(mkG [])) .nil (L:=mkL [(0,Xcn.fr)]) (l:=[(0,.loop Xcn.c)]) ⟨Lam.cons Xcn.ok,trivial⟩
  (fun x=>by simp only[Xco,mC,mB,mS,mO,mN];kernel_rfl)
end Xco
def Xbe.B (v:Xb) (v2:List Xf) (v3:Int) (v4:Int):Option (Int⊕((Int⊕Unit))):=
 cond (decide (v4<v3)) (cond (inB v4 v2.length) ((Xco (v2.getD v4.toNat Xn).1).bind fun v5=>cond (v5 != 0) (some (.inr (.inl v5))) ((Xba (v2.getD v4.toNat Xn).2.1 0 9).bind fun v6=>cond (!v6) (some (.inr (.inl 3))) (cond (cond (decide (v4>0)) (inB (w64 (v4-1)) v.2.2.2.2.1.length) true) ((some (cond (decide (v4>0)) (!leB (v.2.2.2.2.1.getD (w64 (v4-1)).toNat Xn).1 (v2.getD v4.toNat Xn).1) false)).bind fun v7=>cond v7 (some (.inr (.inl 1))) (some (.inl (w64 (v4+1))))) none))) none) (some (.inr (.inr ())))
def Xbe (v:Xb) (v2:List Xf) (v3:Int):Int→Option ((Int⊕Unit)):=
 Yam fun s=>Xbe.B v v2 v3 s
def Xbf (v:Xb):Option Int:=
 cond (decide ((v.2.2.2.2.1.length:Int)>6)) (some 2) ((Xbe v v.2.2.2.2.1 (v.2.2.2.2.1.length:Int) 0).bind fun v8=>sel v8 (fun v9=>some v9) (fun v10=>some 0))
namespace Xbf
def G:Gam:=mkG [(130,Xco.FS),(104,Xba.FS)]
theorem Gok:GOk PR G:=.cons Xco.ok (.cons Xba.ok .nil)
end Xbf
namespace Xbe
noncomputable def c:=Yaq (Yal Proofs.Tryz.f150) [1,1,0,1,0,0]
def sp:SP:=⟨[(1,.pt Xc),(11,.cs (.sl Xg)),(12,.cs I64),(13,.cs I64)],[]⟩
def fr:=Yix sp (fun x s=>Xbe.B x.1.1 x.1.2.1 x.1.2.2.1 s) (fun x=>x.1.2.2.2.1) fun x (oo0:(Int⊕Unit)) _ kk0=>sel oo0 (fun bb0=>kk0 (.rt) ⟨[(2,.cs I64 bb0)],[]⟩) (fun cc0=>kk0 (.ex 0) ⟨[],[]⟩)
theorem ok:Ya5 PR 43 1 (.loop c) fr:=
 Ysy Xe Xd ⟨[1],[],[],0⟩ .no (G:=Xbf.G) Xbf.Gok (L:=mkL []) (l:=[]) hT [(0,([],[]))] ([2],[]) (fun x s=>((x.1.1,x.1.2.1,x.1.2.2.1,s,x.1.2.2.2.2),x.2))
  (fun x s=>by simp only[B,mC,mB,mS,mO,mN];kernel_rfl)
end Xbe
namespace Xbf
def pts:List PT:=[.cs Xc]
def FS:FS:=Yef [.sh] pts (fun x=>Xbf x.1) fun t=>⟨[.cs I64 t],[]⟩
theorem ok:Ydh PR 150 FS:=
 Ywf Xe Xd Proofs.Tryz.f150 ⟨[1],[],[],0⟩ (.R (.R (.L (.R (.one (.fr 0)))))) (G:=G) Gok (L:=mkL [(0,Xbe.fr)]) (l:=[(0,.loop Xbe.c)]) ⟨Lam.cons Xbe.ok,trivial⟩
  (fun x=>by simp only[Xbf,mC,mB,mS,mO,mN];kernel_rfl)
end Xbf
def Xd5 (v:Xb):Option Int:=
 (some (cond (cond (v.2.1 == 0) (v.2.2.1 == 0) false) ((v.2.2.2.1.length:Int) == 0) false)).bind fun v2=>(Xba v.1 0 2).bind fun v3=>cond (!v3) (some 1) (cond (cond (v.1 != 1) (!v2) false) (some 1) ((some (cond (v.1 != 2) (!((v.2.2.2.2.1.length:Int) == 0)) false)).bind fun v4=>cond v4 (some 1) (cond (v.1 == 1) ((Xbd v).bind fun v5=>some v5) ((Xbf v).bind fun v6=>some v6))))
namespace Xd5
def G:Gam:=mkG [(104,Xba.FS),(149,Xbd.FS),(150,Xbf.FS)]
def pts:List PT:=[.cs Xc]
def FS:FS:=Yef [.sh] pts (fun x=>Xd5 x.1) fun t=>⟨[.cs I64 t],[]⟩
theorem ok:Ydh PR 140 FS:=
 Ywf Xe Xd Proofs.Tryz.f140 ⟨[1],[],[],0⟩ .no (G:=G) (show GOk PR G from .cons Xba.ok (.cons Xbd.ok (.cons Xbf.ok .nil))) (L:=mkL []) (l:=[]) hT
  (fun x=>by simp only[Xd5,mC,mB,mS,mO,mN];kernel_rfl)
end Xd5
def Xcp.B (v:List Xb) (v2:Int) (v3:Int):Option (Int⊕((Int⊕Unit))):=
 cond (decide (v3<v2)) (cond (inB v3 v.length) ((Xd5 (v.getD v3.toNat Xa)).bind fun v4=>cond (v4 != 0) (some (.inr (.inl v4))) (some (.inl (w64 (v3+1))))) none) (some (.inr (.inr ())))
def Xcp (v:List Xb) (v2:Int):Int→Option ((Int⊕Unit)):=
 Yam fun s=>Xcp.B v v2 s
def Xbg (v:List Xb):Option Int:=
 cond (decide ((v.length:Int)>10)) (some 2) ((Xcp v (v.length:Int) 0).bind fun v5=>sel v5 (fun v6=>some v6) (fun v7=>some 0))
namespace Xbg
def G:Gam:=mkG [(140,Xd5.FS)]
theorem Gok:GOk PR G:=.cons Xd5.ok .nil
end Xbg
namespace Xcp
noncomputable def c:=Yaq (Yal Proofs.Tryz.f123) [1,1,0,1,0,0]
def sp:SP:=⟨[(9,.cs (.sl Xc)),(10,.cs I64),(11,.cs I64)],[]⟩
def fr:=Yix sp (fun x s=>Xcp.B x.1.1 x.1.2.1 s) (fun x=>x.1.2.2.1) fun x (oo0:(Int⊕Unit)) _ kk0=>sel oo0 (fun bb0=>kk0 (.rt) ⟨[(2,.cs I64 bb0)],[]⟩) (fun cc0=>kk0 (.ex 0) ⟨[],[]⟩)
theorem ok:Ya5 PR 21 1 (.loop c) fr:=
 Ysy Xe Xd h0 .no (G:=Xbg.G) Xbg.Gok (L:=mkL []) (l:=[]) hT [(0,([],[]))] ([2],[]) (fun x s=>((x.1.1,x.1.2.1,s,x.1.2.2.2),x.2))
  (fun x s=>by simp only[B,mC,mB,mS,mO,mN];kernel_rfl)
end Xcp
namespace Xbg
def pts:List PT:=[.cs (.sl Xc)]
def FS:FS:=Yef [.sh] pts (fun x=>Xbg x.1) fun t=>⟨[.cs I64 t],[]⟩
theorem ok:Ydh PR 123 FS:=
 Ywf Xe Xd Proofs.Tryz.f123 h0 (.R (.R (.L (.R (.one (.fr 0)))))) (G:=G) Gok (L:=mkL [(0,Xcp.fr)]) (l:=[(0,.loop Xcp.c)]) ⟨Lam.cons Xcp.ok,trivial⟩
  (fun x=>by simp only[Xbg,mC,mB,mS,mO,mN];kernel_rfl)
end Xbg
def Xd6 (v:Fs_):Option Int:=
 (Xbg v.1).bind fun v2=>cond (v2 != 0) (some v2) (cond (cond (!((v.1.length:Int) == 0)) (inB 0 v.1.length) true) ((some (cond ((v.1.length:Int) == 0) true ((v.1.getD (0:Int).toNat Xa).1 != 2))).bind fun v3=>cond (cond v3 true ((v.2.1.length:Int) != 20)) (some 1) (some 0)) none)
namespace Xd6
def G:Gam:=mkG [(123,Xbg.FS)]
def pts:List PT:=[.cs Xl]
def FS:FS:=Yef [.sh] pts (fun x=>Xd6 x.1) fun t=>⟨[.cs I64 t],[]⟩
theorem ok:Ydh PR 93 FS:=
 Ywf Xe Xd Proofs.Tryz.f93 ⟨[1],[],[],0⟩ .no (G:=G) (show GOk PR G from .cons Xbg.ok .nil) (L:=mkL []) (l:=[]) hT
  (fun x=>by simp only[Xd6,mC,mB,mS,mO,mN];kernel_rfl)
end Xd6
def Xfx (v:List Int):Option Bool:=
 some (decide ((v.length:Int)>8))
namespace Xfx
def pts:List PT:=[.cs SB]
def FS:FS:=Yef [.sh] pts (fun x=>Xfx x.1) fun t=>⟨[.cs .bool t],[]⟩
theorem ok:Ydh PR 95 FS:=
 Ywf Xe Xd Proofs.Tryz.f95 h0 .no (G:=(mkG [])) .nil (L:=mkL []) (l:=[]) hT
  (fun x=>by simp only[Xfx,mC,mB,mS,mO,mN];kernel_rfl)
end Xfx
def Xcq.B (v:List (List Int)) (v2:Unit) (v3:Int) (v4:Int):Option (Int⊕((Int⊕Unit))):=
 cond (decide (v4<v3)) (cond (inB v4 v.length) ((Xfx (v.getD v4.toNat [])).bind fun v5=>cond v5 (some (.inr (.inl v4))) (some (.inl (w64 (v4+1))))) none) (some (.inr (.inr ())))
def Xcq (v:List (List Int)) (v2:Unit) (v3:Int):Int→Option ((Int⊕Unit)):=
 Yam fun s=>Xcq.B v v2 v3 s
def Xcr (v:List (List Int)) (v2:Unit):Option Int:=
 (Xcq v v2 (v.length:Int) 0).bind fun v6=>sel v6 (fun v7=>some v7) (fun v8=>some (-1))
namespace Xcr
def G:Gam:=mkG [(95,Xfx.FS)]
theorem Gok:GOk PR G:=.cons Xfx.ok .nil
end Xcr
namespace Xcq
noncomputable def c:=Yaq (Yal Proofs.Tryz.f124) [1,0,1,0,0]
def sp:SP:=⟨[(0,.cs (.sl SB)),(1,.clo 95 (.cs .unit)),(7,.cs I64),(8,.cs I64)],[]⟩
def fr:=Yix sp (fun x s=>Xcq.B x.1.1 x.1.2.1 x.1.2.2.1 s) (fun x=>x.1.2.2.2.1) fun x (oo0:(Int⊕Unit)) _ kk0=>sel oo0 (fun bb0=>kk0 (.rt) ⟨[(4,.cs I64 bb0)],[]⟩) (fun cc0=>kk0 (.ex 0) ⟨[],[]⟩)
theorem ok:Ya5 PR 19 2 (.loop c) fr:=
 Ysy Xe Xd h0 .no (G:=Xcr.G) Xcr.Gok (L:=mkL []) (l:=[]) hT [(0,([],[]))] ([4],[]) (fun x s=>((x.1.1,x.1.2.1,x.1.2.2.1,s,x.1.2.2.2.2),x.2))
  (fun x s=>by simp only[B,mC,mB,mS,mO,mN];kernel_rfl)
end Xcq
namespace Xcr
def pts:List PT:=[.cs (.sl SB),.clo 95 (.cs .unit)]
def FS:FS:=Yef [.sh,.sh] pts (fun x=>Xcr x.1 x.2.1) fun t=>⟨[.cs I64 t],[]⟩
theorem ok:Ydh PR 124 FS:=
 Ywf Xe Xd Proofs.Tryz.f124 h0 (.R (.L (.R (.one (.fr 0))))) (G:=G) Gok (L:=mkL [(0,Xcq.fr)]) (l:=[(0,.loop Xcq.c)]) ⟨Lam.cons Xcq.ok,trivial⟩
  (fun x=>by simp only[Xcr,mC,mB,mS,mO,mN];kernel_rfl)
end Xcr
def Xd7 (v:List (List Int)) (v2:Unit):Option Bool:=
 (Xcr v v2).bind fun v3=>some (decide (v3≥0))
namespace Xd7
def G:Gam:=mkG [(124,Xcr.FS)]
def pts:List PT:=[.cs (.sl SB),.clo 95 (.cs .unit)]
def FS:FS:=Yef [.sh,.sh] pts (fun x=>Xd7 x.1 x.2.1) fun t=>⟨[.cs .bool t],[]⟩
theorem ok:Ydh PR 94 FS:=
 Ywf Xe Xd Proofs.Tryz.f94 h0 .no (G:=G) (show GOk PR G from .cons Xcr.ok .nil) (L:=mkL []) (l:=[]) hT
  (fun x=>by simp only[Xd7,mC,mB,mS,mO,mN];kernel_rfl)
end Xd7
noncomputable def Xfy (s:List Int):Option (List Int):=Ytu s
def Xfy.FS:FS:=Yef [.mu] [.cl .deep (.sl (.int .i64))] (fun x=>Xfy x.1) fun y=>⟨[],[.cl .deep (.sl (.int .i64)) y]⟩
theorem Xfy.ok:Ydh Go.Proofs.Tryz.prog 125 Xfy.FS:=
 Yv0 ⟨Go.Proofs.Tryz.f125,by kernel_rfl,by kernel_rfl,by kernel_rfl⟩ (fun blk off cap zs w h1 h2 h3=>Go.Proofs.AnyM.slices_Sort_int Go.Proofs.Tryz.Xi2 blk off cap zs w h1 h2 h3) (fun p cap w=>Go.Proofs.AnyM.slices_Sort_int_none Go.Proofs.Tryz.Xi2 p cap w)
noncomputable def Xcs (s:List Int):Option (List Int):=Yqv s
noncomputable def Xcs.FS:FS:=Yef [.sh] [.cl .sh (.sl (.int .i64))] (fun x=>Xcs x.1) fun y=>⟨[.cl .deep (.sl (.int .i64)) y],[]⟩
theorem Xcs.ok:Ydh Go.Proofs.Tryz.prog 55 Xcs.FS:=
 Yu4 (hn:=⟨[],[],[],0⟩) Xe Xd (fn:=Go.Proofs.Tryz.f55) (by kernel_rfl) (Yj5 (by kernel_rfl)) (by kernel_rfl) (by kernel_rfl) .deep (.int .i64) 59 59 2 (by kernel_rfl) (by kernel_rfl) (by kernel_rfl) (by kernel_rfl) (by kernel_rfl) (by kernel_rfl) (by kernel_rfl) (by kernel_rfl) (fun xs=>by kernel_rfl) (fun xs=>by kernel_rfl) (fun xs=>by kernel_rfl) (fun xs=>by kernel_rfl)
def Xaj.B (v5:Nat) (v6:Nat) (v4:Int) (v7:Int) (v8:List Int):Option ((Int×Int×List Int)⊕(Int×List Int)):=
 cond (decide (v7<(v6:Int))) (cond (inB v7 v6) (cond (inB (w64 (v7-1)) v6) ((some ((v8.getD (v5+v7.toNat) 0) != (v8.getD (v5+(w64 (v7-1)).toNat) 0))).bind fun v9=>cond v9 (cond (inB v7 v6) (cond (inB v4 v8.length) (some (.inl (w64 (v4+1),w64 (v7+1),v8.set v4.toNat (v8.getD (v5+v7.toNat) 0)))) none) none) (some (.inl (v4,w64 (v7+1),v8)))) none) none) (some (.inr (v4,v8)))
def Xaj (v5:Nat) (v6:Nat):(Int×Int×List Int)→Option (Int×List Int):=
 Yam fun s=>Xaj.B v5 v6 s.1 s.2.1 s.2.2
def X8.B (v:List Int) (v2:Int):Option (Int⊕(((Nat×Nat×List Int)⊕Unit))):=
 cond (decide (v2<(v.length:Int))) (cond (inB v2 v.length) (cond (inB (w64 (v2-1)) v.length) ((some ((v.getD v2.toNat 0) == (v.getD ((w64 (v2-1)).toNat) 0))).bind fun v3=>cond v3 (cond (decide ((0:Int)≤v2)&&decide (v2≤(v.length:Int))) ((Xaj v2.toNat (v.length-v2.toNat) (v2,1,v)).bind fun v10=>cond (decide ((0:Int)≤v10.1)&&decide (v10.1≤(v10.2.length:Int))) ((some (splice v10.2 v10.1.toNat (List.replicate (v10.2.length-v10.1.toNat) 0))).bind fun v11=>cond (decide ((0:Int)≤v10.1)&&decide (v10.1≤(v11.length:Int))) (some (.inr (.inl (0,v10.1.toNat-0,v11)))) none) none) none) (some (.inl (w64 (v2+1))))) none) none) (some (.inr (.inr ())))
def X8 (v:List Int):Int→Option (((Nat×Nat×List Int)⊕Unit)):=
 Yam fun s=>X8.B v s
def Xd8 (v:List Int):Option (List Int):=
 cond (decide ((v.length:Int)<2)) (some v) ((X8 v 1).bind fun v12=>sel v12 (fun v13=>some ((v13.2.2.drop v13.1).take v13.2.1)) (fun v14=>some v))
namespace Xaj
noncomputable def c:=Yaq (Yal Proofs.Tryz.f126) [1,1,0,1,0,0,1,0,0,1,0,1,0,1,0,0]
def sp:SP:=⟨[(0,.seg 0 []),(3,.cs I64),(4,.sub 0 []),(5,.cs I64)],[(0,.reg,.cd SI)]⟩
def fr:=Yix sp (fun x s=>Xaj.B x.1.2.2.1.2.1 x.1.2.2.1.2.2 s.1 s.2.1 s.2.2) (fun x=>(x.1.2.1,x.1.2.2.2.1,x.2.1)) fun x (bb0:Int×List Int) _ kk0=>kk0 (.ex 2) ⟨[(0,.seg 0 []),(3,.cs I64 bb0.1)],[sr 0 (.cd SI bb0.2)]⟩
theorem ok:Ya5 PR 61 1 (.loop c) fr:=
 Yv9 Xe Xd h0 [(2,([0,3],[0]))] (fun x s=>((x.1.1,s.1,x.1.2.2.1,s.2.1,x.1.2.2.2.2),(s.2.2,x.2.2)))
  (fun x s=>by simp only[B,mC,mB,mS,mO,mN];kernel_rfl)
end Xaj
namespace X8
noncomputable def c:=Yaq (Yal Proofs.Tryz.f126) [1,1,0,1,0,0]
def sp:SP:=⟨[(0,.seg 0 []),(3,.cs I64)],[(0,.reg,.cd SI)]⟩
def fr:=Yix sp (fun x s=>X8.B x.2.1 s) (fun x=>x.1.2.1) fun x (oo0:((Nat×Nat×List Int)⊕Unit)) _ kk0=>sel oo0 (fun bb0=>kk0 (.rt) ⟨[(2,.sub 0 [] bb0.1 bb0.2.1)],[sr 0 (.cd SI bb0.2.2)]⟩) (fun cc0=>kk0 (.ex 0) ⟨[(0,.seg 0 [])],[sr 0 (.cd SI x.2.1)]⟩)
theorem ok:Ya5 PR 61 1 (.loop c) fr:=
 Ysy Xe Xd h0 (.R (.L (.one (.R (.L (.R (.L (.R (.one (.fr 1)))))))))) (G:=(mkG [])) .nil (L:=mkL [(1,Xaj.fr)]) (l:=[(1,.loop Xaj.c)]) ⟨Lam.cons Xaj.ok,trivial⟩ [(0,([0],[0]))] ([2],[0]) (fun x s=>((x.1.1,s,x.1.2.2),x.2))
  (fun x s=>by simp only[B,mC,mB,mS,mO,mN];kernel_rfl)
end X8
namespace Xd8
def pts:List PT:=[.cd SI]
def FS:FS:=Yef [.mv] pts (fun x=>Xd8 x.1) fun t=>⟨[.cd SI t],[]⟩
theorem ok:Ydh PR 126 FS:=
 Ywf Xe Xd Proofs.Tryz.f126 h0 (.R (.R (.L (.R (.one (.fr 0)))))) (G:=(mkG [])) .nil (L:=mkL [(1,Xaj.fr),(0,X8.fr)]) (l:=[(0,.loop X8.c)]) ⟨Lam.skip rfl (Lam.cons X8.ok),trivial⟩
  (fun x=>by simp only[Xd8,mC,mB,mS,mO,mN];kernel_rfl)
end Xd8
def Xbh.B (v:List Xb) (v2:Int) (v3:Int) (v4:List Int):Option ((Int×List Int)⊕(List Int)):=
 cond (decide (v3<v2)) (cond (inB v3 v.length) (cond (decide ((v4++(v.getD v3.toNat Xa).2.2.2.1).length≤2147483648)) (some (.inl (w64 (v3+1),v4++(v.getD v3.toNat Xa).2.2.2.1))) none) none) (some (.inr v4))
def Xbh (v:List Xb) (v2:Int):(Int×List Int)→Option (List Int):=
 Yam fun s=>Xbh.B v v2 s.1 s.2
def Xbi (v:List Xb):Option ((List Int)×Bool):=
 (Xbh v (v.length:Int) (0,[])).bind fun v5=>(Xfy v5).bind fun v6=>(Xcs v6).bind fun v7=>(Xd8 v7).bind fun v8=>some (v6,(v8.length:Int) == (v6.length:Int))
namespace Xbi
def G:Gam:=mkG [(125,Xfy.FS),(55,Xcs.FS),(126,Xd8.FS)]
theorem Gok:GOk PR G:=.cons Xfy.ok (.cons Xcs.ok (.cons Xd8.ok .nil))
end Xbi
namespace Xbh
noncomputable def c:=Yaq (Yal Proofs.Tryz.f96) [1,1,0,1,0,0]
def sp:SP:=⟨[(4,.seg 4 []),(7,.cs (.sl Xc)),(8,.cs I64),(9,.cs I64)],[(4,.reg,.cd SI)]⟩
def fr:=Yix sp (fun x s=>Xbh.B x.1.2.1 x.1.2.2.1 s.1 s.2) (fun x=>(x.1.2.2.2.1,x.2.1)) fun x (bb0:List Int) _ kk0=>kk0 (.ex 0) ⟨[(4,.seg 4 [])],[sr 4 (.cd SI bb0)]⟩
theorem ok:Ya5 PR 28 1 (.loop c) fr:=
 Ywh Xe Xd h0 (G:=Xbi.G) Xbi.Gok [(0,([4],[4]))] (fun x s=>((x.1.1,x.1.2.1,x.1.2.2.1,s.1,x.1.2.2.2.2),(s.2,x.2.2)))
  (fun x s=>by simp only[B,mC,mB,mS,mO,mN];kernel_rfl)
end Xbh
namespace Xbi
def pts:List PT:=[.cs (.sl Xc)]
def FS:FS:=Yef [.sh] pts (fun x=>Xbi x.1) fun t=>⟨[.cd SI t.1,.cs .bool t.2],[]⟩
theorem ok:Ydh PR 96 FS:=
 Ywf Xe Xd Proofs.Tryz.f96 h0 (.R (.R (.L (.R (.one (.fr 0)))))) (G:=G) Gok (L:=mkL [(0,Xbh.fr)]) (l:=[(0,.loop Xbh.c)]) ⟨Lam.cons Xbh.ok,trivial⟩
  (fun x=>by simp only[Xbi,mC,mB,mS,mO,mN];kernel_rfl)
end Xbi
def Xct (v:List Xb):Option Int:=
 some (v.length:Int)
namespace Xct
def pts:List PT:=[.cs (.sl Xc)]
def FS:FS:=Yef [.sh] pts (fun x=>Xct x.1) fun t=>⟨[.cs I64 t],[]⟩
theorem ok:Ydh PR 97 FS:=
 Ywf Xe Xd Proofs.Tryz.f97 h0 .no (G:=(mkG [])) .nil (L:=mkL []) (l:=[]) hT
  (fun x=>by simp only[Xct,mC,mB,mS,mO,mN];kernel_rfl)
end Xct
def Xaq.B (v:Fs_) (v5:List Xb) (v6:Int) (v7:Int) (v9:List Xf) (v8:Int) (v10:Int):Option (Int⊕((Int⊕Unit))):=
 cond (decide (v10<v8)) (cond (inB v10 v9.length) ((Xct v.1).bind fun v11=>(some (decide ((v9.getD v10.toNat Xn).2.1≥v11))).bind fun v12=>cond (cond (!v12) (inB (v9.getD v10.toNat Xn).2.1 v.1.length) true) ((some (cond v12 true ((v.1.getD (v9.getD v10.toNat Xn).2.1.toNat Xa).1 == 0))).bind fun v13=>cond v13 (some (.inr (.inl 4))) (some (.inl (w64 (v10+1))))) none) none) (some (.inr (.inr ())))
def Xaq (v:Fs_) (v5:List Xb) (v6:Int) (v7:Int) (v9:List Xf) (v8:Int):Int→Option ((Int⊕Unit)):=
 Yam fun s=>Xaq.B v v5 v6 v7 v9 v8 s
def Xcu.B (v:Fs_) (v5:List Xb) (v6:Int) (v7:Int):Option (Int⊕((Int⊕Unit))):=
 cond (decide (v7<v6)) (cond (inB v7 v5.length) ((some ((v5.getD v7.toNat Xa).2.2.2.2.1.length:Int)).bind fun v8=>(Xaq v v5 v6 v7 (v5.getD v7.toNat Xa).2.2.2.2.1 v8 0).bind fun v14=>sel v14 (fun v15=>some (.inr (.inl v15))) (fun v16=>some (.inl (w64 (v7+1))))) none) (some (.inr (.inr ())))
def Xcu (v:Fs_) (v5:List Xb) (v6:Int):Int→Option ((Int⊕Unit)):=
 Yam fun s=>Xcu.B v v5 v6 s
def Xan (v:Fs_):Option Int:=
 (Xd6 v).bind fun v2=>cond (v2 != 0) (some v2) ((Xd7 v.2.1 ()).bind fun v3=>cond v3 (some 2) ((Xbi v.1).bind fun v4=>cond (!v4.2) (some 7) ((Xcu v v.1 (v.1.length:Int) 0).bind fun v17=>sel v17 (fun v18=>some v18) (fun v19=>some 0))))
namespace Xan
def G:Gam:=mkG [(93,Xd6.FS),(94,Xd7.FS),(96,Xbi.FS),(97,Xct.FS)]
theorem Gok:GOk PR G:=.cons Xd6.ok (.cons Xd7.ok (.cons Xbi.ok (.cons Xct.ok .nil)))
end Xan
namespace Xaq
noncomputable def c:=Yaq (Yal Proofs.Tryz.f51) [1,1,1,1,0,1,0,0,1,1,0,0,1,1,0,0]
def sp:SP:=⟨[(1,.pt Xl),(27,.cs (.sl Xc)),(28,.cs I64),(29,.cs I64),(34,.cs (.sl Xg)),(35,.cs I64),(36,.cs I64)],[]⟩
def fr:=Yix sp (fun x s=>Xaq.B x.1.1 x.1.2.1 x.1.2.2.1 x.1.2.2.2.1 x.1.2.2.2.2.1 x.1.2.2.2.2.2.1 s) (fun x=>x.1.2.2.2.2.2.2.1) fun x (oo0:(Int⊕Unit)) _ kk0=>sel oo0 (fun bb0=>kk0 (.rt) ⟨[(2,.cs I64 bb0)],[]⟩) (fun cc0=>kk0 (.ex 2) ⟨[(1,.pt Xl x.1.1),(27,.cs (.sl Xc) x.1.2.1),(28,.cs I64 x.1.2.2.1),(29,.cs I64 x.1.2.2.2.1)],[]⟩)
theorem ok:Ya5 PR 58 1 (.loop c) fr:=
 Ysy Xe Xd ⟨[1],[],[],0⟩ .no (G:=Xan.G) Xan.Gok (L:=mkL []) (l:=[]) hT [(2,([1,27,28,29],[]))] ([2],[]) (fun x s=>((x.1.1,x.1.2.1,x.1.2.2.1,x.1.2.2.2.1,x.1.2.2.2.2.1,x.1.2.2.2.2.2.1,s,x.1.2.2.2.2.2.2.2),x.2))
  (fun x s=>by simp only[B,mC,mB,mS,mO,mN];kernel_rfl)
end Xaq
namespace Xcu
noncomputable def c:=Yaq (Yal Proofs.Tryz.f51) [1,1,1,1,0,1,0,0]
def sp:SP:=⟨[(1,.pt Xl),(27,.cs (.sl Xc)),(28,.cs I64),(29,.cs I64)],[]⟩
def fr:=Yix sp (fun x s=>Xcu.B x.1.1 x.1.2.1 x.1.2.2.1 s) (fun x=>x.1.2.2.2.1) fun x (oo0:(Int⊕Unit)) _ kk0=>sel oo0 (fun bb0=>kk0 (.rt) ⟨[(2,.cs I64 bb0)],[]⟩) (fun cc0=>kk0 (.ex 0) ⟨[],[]⟩)
theorem ok:Ya5 PR 58 1 (.loop c) fr:=
 Ysy Xe Xd ⟨[1],[],[],0⟩ (.R (.R (.L (.one (.R (.R (.one (.fr 1)))))))) (G:=Xan.G) Xan.Gok (L:=mkL [(1,Xaq.fr)]) (l:=[(1,.loop Xaq.c)]) ⟨Lam.cons Xaq.ok,trivial⟩ [(0,([],[]))] ([2],[]) (fun x s=>((x.1.1,x.1.2.1,x.1.2.2.1,s,x.1.2.2.2.2),x.2))
  (fun x s=>by simp only[B,mC,mB,mS,mO,mN];kernel_rfl)
end Xcu
namespace Xan
def pts:List PT:=[.cs Xl]
def FS:FS:=Yef [.sh] pts (fun x=>Xan x.1) fun t=>⟨[.cs I64 t],[]⟩
theorem ok:Ydh PR 51 FS:=
 Ywf Xe Xd Proofs.Tryz.f51 ⟨[1],[],[],0⟩ (.R (.R (.R (.R (.L (.R (.one (.fr 0)))))))) (G:=G) Gok (L:=mkL [(1,Xaq.fr),(0,Xcu.fr)]) (l:=[(0,.loop Xcu.c)]) ⟨Lam.skip rfl (Lam.cons Xcu.ok),trivial⟩
  (fun x=>by simp only[Xan,mC,mB,mS,mO,mN];kernel_rfl)
end Xan
def Xar.B (v:List Xb) (v8:List Xf) (v9:Int) (v7:List Bool) (v10:Int) (v11:List Int):Option ((Int×List Int)⊕(List Int)):=
 cond (decide (v10<v9)) (cond (inB v10 v8.length) (cond (decide ((v11++([(v8.getD v10.toNat Xn).2.1])).length≤2147483648)) (some (.inl (w64 (v10+1),v11++([(v8.getD v10.toNat Xn).2.1])))) none) none) (some (.inr v11))
def Xar (v:List Xb) (v8:List Xf) (v9:Int) (v7:List Bool):(Int×List Int)→Option (List Int):=
 Yam fun s=>Xar.B v v8 v9 v7 s.1 s.2
def Xaf.B (v:List Xb) (v3:List Bool) (v4:List Int):Option (((List Bool)×List Int)⊕(List Bool)):=
 cond (decide ((v4.length:Int)>0)) (cond (inB (w64 ((v4.length:Int)-1)) v4.length) (cond (decide ((0:Int)≤(w64 ((v4.length:Int)-1)))&&decide ((w64 ((v4.length:Int)-1))≤(v4.length:Int))) ((some ((v4.drop 0).take (((w64 ((v4.length:Int)-1)).toNat)-0))).bind fun v5=>cond (inB (v4.getD ((w64 ((v4.length:Int)-1)).toNat) 0) v3.length) ((some (v3.getD ((v4.getD ((w64 ((v4.length:Int)-1)).toNat) 0).toNat) false)).bind fun v6=>cond v6 (some (.inl (v3,v5))) (cond (inB (v4.getD ((w64 ((v4.length:Int)-1)).toNat) 0) v3.length) ((some (v3.set ((v4.getD ((w64 ((v4.length:Int)-1)).toNat) 0).toNat) true)).bind fun v7=>cond (inB (v4.getD ((w64 ((v4.length:Int)-1)).toNat) 0) v.length) ((some (v.getD (v4.getD ((w64 ((v4.length:Int)-1)).toNat) 0).toNat Xa).2.2.2.2.1).bind fun v8=>(Xar v v8 (v8.length:Int) v7 (0,v5)).bind fun v12=>some (.inl (v7,v12))) none) none)) none) none) none) (some (.inr v3))
def Xaf (v:List Xb):((List Bool)×List Int)→Option (List Bool):=
 Yam fun s=>Xaf.B v s.1 s.2
def Xbj.B (v14:Int) (v13:List Bool) (v15:Int) (v16:List Int):Option ((Int×List Int)⊕(List Int)):=
 cond (decide (v15<v14)) (cond (inB v15 v13.length) (cond (v13.getD v15.toNat false) (cond (decide ((v16++([v15])).length≤2147483648)) (some (.inl (w64 (v15+1),v16++([v15])))) none) (some (.inl (w64 (v15+1),v16)))) none) (some (.inr v16))
def Xbj (v14:Int) (v13:List Bool):(Int×List Int)→Option (List Int):=
 Yam fun s=>Xbj.B v14 v13 s.1 s.2
def Xdt (v:List Xb) (v2:Int):Option (List Int):=
 cond (decide ((0:Int)≤(v.length:Int))&&(decide ((v.length:Int)≤(v.length:Int))&&decide ((v.length:Int)≤2147483648))) ((Xaf v (List.replicate (v.length:Int).toNat false,[v2])).bind fun v13=>(Xbj (v13.length:Int) v13 (0,[])).bind fun v17=>some v17) none
namespace Xar
noncomputable def c:=Yaq (Yal Proofs.Tryz.f74) [1,1,1,0,0,0,1,0,1,1,1,1,1,0,0]
def sp:SP:=⟨[(0,.cs (.sl Xc)),(5,.seg 5 []),(6,.seg 6 []),(43,.cs (.sl Xg)),(44,.cs I64),(45,.cs I64)],[(5,.reg,.cd (.sl .bool)),(6,.reg,.cd SI)]⟩
def fr:=Yix sp (fun x s=>Xar.B x.1.1 x.1.2.2.2.1 x.1.2.2.2.2.1 x.2.1 s.1 s.2) (fun x=>(x.1.2.2.2.2.2.1,x.2.2.1)) fun x (bb0:List Int) _ kk0=>kk0 (.ex 2) ⟨[(0,.cs (.sl Xc) x.1.1),(5,.seg 5 []),(6,.seg 6 [])],[sr 5 (.cd (.sl .bool) x.2.1),sr 6 (.cd SI bb0)]⟩
theorem ok:Ya5 PR 69 2 (.loop c) fr:=
 Yv9 Xe Xd h0 [(2,([0,5,6],[5,6]))] (fun x s=>((x.1.1,x.1.2.1,x.1.2.2.1,x.1.2.2.2.1,x.1.2.2.2.2.1,s.1,x.1.2.2.2.2.2.2),(x.2.1,s.2,x.2.2.2)))
  (fun x s=>by simp only[B,mC,mB,mS,mO,mN];kernel_rfl)
end Xar
namespace Xaf
noncomputable def c:=Yaq (Yal Proofs.Tryz.f74) [1,1,1,0,0,0]
def sp:SP:=⟨[(0,.cs (.sl Xc)),(5,.seg 5 []),(6,.seg 6 [])],[(5,.reg,.cd (.sl .bool)),(6,.reg,.cd SI)]⟩
def fr:=Yix sp (fun x s=>Xaf.B x.1.1 s.1 s.2) (fun x=>(x.2.1,x.2.2.1)) fun x (bb0:List Bool) _ kk0=>kk0 (.ex 0) ⟨[(5,.seg 5 [])],[sr 5 (.cd (.sl .bool) bb0)]⟩
theorem ok:Ya5 PR 69 2 (.loop c) fr:=
 Ywg Xe Xd h0 (.R (.one (.R (.R (.R (.R (.R (.one (.fr 1))))))))) (L:=mkL [(1,Xar.fr)]) (l:=[(1,.loop Xar.c)]) ⟨Lam.cons Xar.ok,trivial⟩ [(0,([5],[5]))] (fun x s=>(x.1,(s.1,s.2,x.2.2.2)))
  (fun x s=>by simp only[B,mC,mB,mS,mO,mN];kernel_rfl)
end Xaf
namespace Xbj
noncomputable def c:=Yaq (Yal Proofs.Tryz.f74) [1,1,1,1,1,0,1,0,0]
def sp:SP:=⟨[(10,.seg 10 []),(55,.seg 5 []),(56,.cs I64),(57,.cs I64)],[(5,.reg,.cd (.sl .bool)),(10,.reg,.cd SI)]⟩
def fr:=Yix sp (fun x s=>Xbj.B x.1.2.2.1 x.2.1 s.1 s.2) (fun x=>(x.1.2.2.2.1,x.2.2.1)) fun x (bb0:List Int) _ kk0=>kk0 (.ex 4) ⟨[(10,.seg 10 [])],[sr 10 (.cd SI bb0)]⟩
theorem ok:Ya5 PR 69 2 (.loop c) fr:=
 Yv9 Xe Xd h0 [(4,([10],[10]))] (fun x s=>((x.1.1,x.1.2.1,x.1.2.2.1,s.1,x.1.2.2.2.2),(x.2.1,s.2,x.2.2.2)))
  (fun x s=>by simp only[B,mC,mB,mS,mO,mN];kernel_rfl)
end Xbj
namespace Xdt
def pts:List PT:=[.cs (.sl Xc),.cs I64]
def FS:FS:=Yef [.sh,.sh] pts (fun x=>Xdt x.1 x.2.1) fun t=>⟨[.cd SI t],[]⟩
theorem ok:Ydh PR 74 FS:=
 Ywf Xe Xd Proofs.Tryz.f74 h0 (.R (.R (.R (.two (.one (.fr 0)) (.R (.L (.R (.one (.fr 2))))))))) (G:=(mkG [])) .nil (L:=mkL [(1,Xar.fr),(0,Xaf.fr),(2,Xbj.fr)]) (l:=[(0,.loop Xaf.c),(2,.loop Xbj.c)]) ⟨Lam.skip rfl (Lam.cons Xaf.ok),Lam.skip rfl (Lam.skip rfl (Lam.cons Xbj.ok)),trivial⟩
  (fun x=>by simp only[Xdt,mC,mB,mS,mO,mN];kernel_rfl)
end Xdt
def Xas.B (v2:Int) (v:List Xb) (v4:Int) (v5:Int) (v8:List Xf) (v6:Int) (v7:Int) (v9:Int):Option ((Int×Int)⊕Int):=
 cond (decide (v9<v6)) (cond (inB v9 v8.length) (cond ((v8.getD v9.toNat Xn).2.1 == v2) (some (.inl (w64 (v7+1),w64 (v9+1)))) (some (.inl (v7,w64 (v9+1))))) none) (some (.inr v7))
def Xas (v2:Int) (v:List Xb) (v4:Int) (v5:Int) (v8:List Xf) (v6:Int):(Int×Int)→Option Int:=
 Yam fun s=>Xas.B v2 v v4 v5 v8 v6 s.1 s.2
def Xbk.B (v2:Int) (v:List Xb) (v4:Int) (v3:Int) (v5:Int):Option ((Int×Int)⊕Int):=
 cond (decide (v5<v4)) (cond (inB v5 v.length) ((some ((v.getD v5.toNat Xa).2.2.2.2.1.length:Int)).bind fun v6=>(Xas v2 v v4 v5 (v.getD v5.toNat Xa).2.2.2.2.1 v6 (v3,0)).bind fun v10=>some (.inl (v10,w64 (v5+1)))) none) (some (.inr v3))
def Xbk (v2:Int) (v:List Xb) (v4:Int):(Int×Int)→Option Int:=
 Yam fun s=>Xbk.B v2 v v4 s.1 s.2
def Xd9 (v:List Xb) (v2:Int):Option Int:=
 (Xbk v2 v (v.length:Int) (0,0)).bind fun v11=>some v11
namespace Xas
noncomputable def c:=Yaq (Yal Proofs.Tryz.f98) [1,1,0,1,0,0,1,1,0,0,1,1,0,0]
def sp:SP:=⟨[(1,.cs I64),(5,.cs I64),(10,.cs (.sl Xc)),(11,.cs I64),(12,.cs I64),(17,.cs (.sl Xg)),(18,.cs I64),(19,.cs I64)],[]⟩
def fr:=Yix sp (fun x s=>Xas.B x.1.1 x.1.2.2.1 x.1.2.2.2.1 x.1.2.2.2.2.1 x.1.2.2.2.2.2.1 x.1.2.2.2.2.2.2.1 s.1 s.2) (fun x=>(x.1.2.1,x.1.2.2.2.2.2.2.2.1)) fun x (bb0:Int) _ kk0=>kk0 (.ex 2) ⟨[(1,.cs I64 x.1.1),(5,.cs I64 bb0),(10,.cs (.sl Xc) x.1.2.2.1),(11,.cs I64 x.1.2.2.2.1),(12,.cs I64 x.1.2.2.2.2.1)],[]⟩
theorem ok:Ya5 PR 32 2 (.loop c) fr:=
 Yv9 Xe Xd h0 [(2,([1,5,10,11,12],[]))] (fun x s=>((x.1.1,s.1,x.1.2.2.1,x.1.2.2.2.1,x.1.2.2.2.2.1,x.1.2.2.2.2.2.1,x.1.2.2.2.2.2.2.1,s.2,x.1.2.2.2.2.2.2.2.2),x.2))
  (fun x s=>by simp only[B,mC,mB,mS,mO,mN];kernel_rfl)
end Xas
namespace Xbk
noncomputable def c:=Yaq (Yal Proofs.Tryz.f98) [1,1,0,1,0,0]
def sp:SP:=⟨[(1,.cs I64),(5,.cs I64),(10,.cs (.sl Xc)),(11,.cs I64),(12,.cs I64)],[]⟩
def fr:=Yix sp (fun x s=>Xbk.B x.1.1 x.1.2.2.1 x.1.2.2.2.1 s.1 s.2) (fun x=>(x.1.2.1,x.1.2.2.2.2.1)) fun x (bb0:Int) _ kk0=>kk0 (.ex 0) ⟨[(5,.cs I64 bb0)],[]⟩
theorem ok:Ya5 PR 32 2 (.loop c) fr:=
 Ywg Xe Xd h0 (.R (.R (.L (.one (.R (.R (.one (.fr 1)))))))) (L:=mkL [(1,Xas.fr)]) (l:=[(1,.loop Xas.c)]) ⟨Lam.cons Xas.ok,trivial⟩ [(0,([5],[]))] (fun x s=>((x.1.1,s.1,x.1.2.2.1,x.1.2.2.2.1,s.2,x.1.2.2.2.2.2),x.2))
  (fun x s=>by simp only[B,mC,mB,mS,mO,mN];kernel_rfl)
end Xbk
namespace Xd9
def pts:List PT:=[.cs (.sl Xc),.cs I64]
def FS:FS:=Yef [.sh,.sh] pts (fun x=>Xd9 x.1 x.2.1) fun t=>⟨[.cs I64 t],[]⟩
theorem ok:Ydh PR 98 FS:=
 Ywf Xe Xd Proofs.Tryz.f98 h0 (.R (.R (.L (.R (.one (.fr 0)))))) (G:=(mkG [])) .nil (L:=mkL [(1,Xas.fr),(0,Xbk.fr)]) (l:=[(0,.loop Xbk.c)]) ⟨Lam.skip rfl (Lam.cons Xbk.ok),trivial⟩
  (fun x=>by simp only[Xd9,mC,mB,mS,mO,mN];kernel_rfl)
end Xd9
def Xcv.B (v:Fs_) (v3:List Xb) (v4:Int) (v2:List Int) (v5:Int):Option (Int⊕((Int⊕Unit))):=
 cond (decide (v5<v4)) (cond (inB v5 v3.length) ((Xd9 v.1 v5).bind fun v6=>(some (cond ((v3.getD v5.toNat Xa).1 == 1) ((v3.getD v5.toNat Xa).2.1 != v6) false)).bind fun v7=>cond v7 (some (.inr (.inl 1))) ((some (cond ((v3.getD v5.toNat Xa).1 == 2) (v5 == 0) false)).bind fun v8=>cond (cond v8 (v6 != 0) false) (some (.inr (.inl 1))) ((some (cond ((v3.getD v5.toNat Xa).1 == 2) (decide (v5>0)) false)).bind fun v9=>cond (cond v9 (v6 != 1) false) (some (.inr (.inl 1))) (cond ((v3.getD v5.toNat Xa).1 != 0) ((Xgp v2 v5).bind fun v10=>cond (!v10) (some (.inr (.inl 1))) (some (.inl (w64 (v5+1))))) (some (.inl (w64 (v5+1)))))))) none) (some (.inr (.inr ())))
def Xcv (v:Fs_) (v3:List Xb) (v4:Int) (v2:List Int):Int→Option ((Int⊕Unit)):=
 Yam fun s=>Xcv.B v v3 v4 v2 s
def Xbl (v:Fs_):Option Int:=
 (Xdt v.1 0).bind fun v2=>(Xcv v v.1 (v.1.length:Int) v2 0).bind fun v11=>sel v11 (fun v12=>some v12) (fun v13=>some 0)
namespace Xbl
def G:Gam:=mkG [(74,Xdt.FS),(98,Xd9.FS),(73,Xgp.FS)]
theorem Gok:GOk PR G:=.cons Xdt.ok (.cons Xd9.ok (.cons Xgp.ok .nil))
end Xbl
namespace Xcv
noncomputable def c:=Yaq (Yal Proofs.Tryz.f52) [1,1,0,1,0,0]
def sp:SP:=⟨[(1,.pt Xl),(3,.seg 3 []),(12,.cs (.sl Xc)),(13,.cs I64),(14,.cs I64)],[(3,.reg,.cd SI)]⟩
def fr:=Yix sp (fun x s=>Xcv.B x.1.1 x.1.2.2.1 x.1.2.2.2.1 x.2.1 s) (fun x=>x.1.2.2.2.2.1) fun x (oo0:(Int⊕Unit)) _ kk0=>sel oo0 (fun bb0=>kk0 (.rt) ⟨[(2,.cs I64 bb0)],[]⟩) (fun cc0=>kk0 (.ex 0) ⟨[],[]⟩)
theorem ok:Ya5 PR 66 1 (.loop c) fr:=
 Ysy Xe Xd ⟨[1],[],[],0⟩ .no (G:=Xbl.G) Xbl.Gok (L:=mkL []) (l:=[]) hT [(0,([],[]))] ([2],[]) (fun x s=>((x.1.1,x.1.2.1,x.1.2.2.1,x.1.2.2.2.1,s,x.1.2.2.2.2.2),x.2))
  (fun x s=>by simp only[B,mC,mB,mS,mO,mN];kernel_rfl)
end Xcv
namespace Xbl
def pts:List PT:=[.cs Xl]
def FS:FS:=Yef [.sh] pts (fun x=>Xbl x.1) fun t=>⟨[.cs I64 t],[]⟩
theorem ok:Ydh PR 52 FS:=
 Ywf Xe Xd Proofs.Tryz.f52 ⟨[1],[],[],0⟩ (.R (.R (.L (.R (.one (.fr 0)))))) (G:=G) Gok (L:=mkL [(0,Xcv.fr)]) (l:=[(0,.loop Xcv.c)]) ⟨Lam.cons Xcv.ok,trivial⟩
  (fun x=>by simp only[Xbl,mC,mB,mS,mO,mN];kernel_rfl)
end Xbl
def Xat.B (v:List Xb) (v2:Int) (v3:Int) (v7:List Int) (v6:Int) (v4:List Int) (v10:Xb) (v8:Int) (v9:List Int):Option ((Int×List Int)⊕(List Int)):=
 cond (decide (v8<v6)) (cond (inB v8 v7.length) ((some (cond (decide ((w64 (v10.2.2.1-(w64 (v8*8))))<8)) (w64 (v10.2.2.1-(w64 (v8*8)))) 8)).bind fun v11=>cond (inB (v7.getD v8.toNat 0) 20) (some (.inl (w64 (v8+1),v9.set ((v7.getD v8.toNat 0).toNat) v11))) none) none) (some (.inr v9))
def Xat (v:List Xb) (v2:Int) (v3:Int) (v7:List Int) (v6:Int) (v4:List Int) (v10:Xb):(Int×List Int)→Option (List Int):=
 Yam fun s=>Xat.B v v2 v3 v7 v6 v4 v10 s.1 s.2
def Xbm.B (v:List Xb) (v2:Int) (v4:List Int) (v3:Int) (v5:List Int):Option ((Int×List Int)⊕(List Int)):=
 cond (decide (v3<v2)) (cond (inB v3 v.length) ((some ((v.getD v3.toNat Xa).2.2.2.1.length:Int)).bind fun v6=>(Xat v v2 v3 (v.getD v3.toNat Xa).2.2.2.1 v6 v4 (v.getD v3.toNat Xa) (0,v5)).bind fun v12=>some (.inl (w64 (v3+1),v12))) none) (some (.inr v5))
def Xbm (v:List Xb) (v2:Int) (v4:List Int):(Int×List Int)→Option (List Int):=
 Yam fun s=>Xbm.B v v2 v4 s.1 s.2
def Xea (v:List Xb):Option (List Int):=
 (Xbm v (v.length:Int) (List.replicate 20 0) (0,(List.replicate 20 0))).bind fun v13=>some v13
namespace Xat
noncomputable def c:=Yaq (Yal Proofs.Tryz.f99) [1,1,0,1,0,0,1,1,0,0,1,1,0,0]
def sp:SP:=⟨[(2,.loc 2 []),(3,.loc 3 []),(5,.loc 5 []),(8,.cs (.sl Xc)),(9,.cs I64),(10,.cs I64),(15,.cs SI),(16,.cs I64),(17,.cs I64)],[(2,.mem,.cd (.arr 20 I64)),(3,.mem,.cd (.arr 20 I64)),(5,.mem,.cs Xc)]⟩
def fr:=Yix sp (fun x s=>Xat.B x.1.2.2.2.1 x.1.2.2.2.2.1 x.1.2.2.2.2.2.1 x.1.2.2.2.2.2.2.1 x.1.2.2.2.2.2.2.2.1 x.2.1 x.2.2.2.1 s.1 s.2) (fun x=>(x.1.2.2.2.2.2.2.2.2.1,x.2.2.1)) fun x (bb0:List Int) _ kk0=>kk0 (.ex 2) ⟨[(2,.loc 2 []),(3,.loc 3 []),(8,.cs (.sl Xc) x.1.2.2.2.1),(9,.cs I64 x.1.2.2.2.2.1),(10,.cs I64 x.1.2.2.2.2.2.1)],[(2,some ⟨.mem,.cd (.arr 20 I64) x.2.1⟩),(3,some ⟨.mem,.cd (.arr 20 I64) bb0⟩)]⟩
theorem ok:Ya5 PR 33 1 (.loop c) fr:=
 Yv9 Xe Xd h0 [(2,([2,3,8,9,10],[2,3]))] (fun x s=>((x.1.1,x.1.2.1,x.1.2.2.1,x.1.2.2.2.1,x.1.2.2.2.2.1,x.1.2.2.2.2.2.1,x.1.2.2.2.2.2.2.1,x.1.2.2.2.2.2.2.2.1,s.1,x.1.2.2.2.2.2.2.2.2.2),(x.2.1,s.2,x.2.2.2)))
  (fun x s=>by simp only[B,mC,mB,mS,mO,mN];kernel_rfl)
end Xat
namespace Xbm
noncomputable def c:=Yaq (Yal Proofs.Tryz.f99) [1,1,0,1,0,0]
def sp:SP:=⟨[(2,.loc 2 []),(3,.loc 3 []),(8,.cs (.sl Xc)),(9,.cs I64),(10,.cs I64)],[(2,.mem,.cd (.arr 20 I64)),(3,.mem,.cd (.arr 20 I64))]⟩
def fr:=Yix sp (fun x s=>Xbm.B x.1.2.2.1 x.1.2.2.2.1 x.2.1 s.1 s.2) (fun x=>(x.1.2.2.2.2.1,x.2.2.1)) fun x (bb0:List Int) _ kk0=>kk0 (.ex 0) ⟨[(2,.loc 2 []),(3,.loc 3 [])],[(2,some ⟨.mem,.cd (.arr 20 I64) x.2.1⟩),(3,some ⟨.mem,.cd (.arr 20 I64) bb0⟩)]⟩
theorem ok:Ya5 PR 33 1 (.loop c) fr:=
 Ywg Xe Xd h0 (.R (.R (.L (.one (.R (.R (.one (.fr 1)))))))) (L:=mkL [(1,Xat.fr)]) (l:=[(1,.loop Xat.c)]) ⟨Lam.cons Xat.ok,trivial⟩ [(0,([2,3],[2,3]))] (fun x s=>((x.1.1,x.1.2.1,x.1.2.2.1,x.1.2.2.2.1,s.1,x.1.2.2.2.2.2),(x.2.1,s.2,x.2.2.2)))
  (fun x s=>by simp only[B,mC,mB,mS,mO,mN];kernel_rfl)
end Xbm
namespace Xea
def pts:List PT:=[.cs (.sl Xc)]
def FS:FS:=Yef [.sh] pts (fun x=>Xea x.1) fun t=>⟨[.cs (.arr 20 I64) t],[]⟩
theorem ok:Ydh PR 99 FS:=
 Ywf Xe Xd Proofs.Tryz.f99 h0 (.R (.R (.L (.R (.one (.fr 0)))))) (G:=(mkG [])) .nil (L:=mkL [(1,Xat.fr),(0,Xbm.fr)]) (l:=[(0,.loop Xbm.c)]) ⟨Lam.skip rfl (Lam.cons Xbm.ok),trivial⟩
  (fun x=>by simp only[Xea,mC,mB,mS,mO,mN];kernel_rfl)
end Xea
def Xfz (v:List Int):Option Int:=
 some (v.length:Int)
namespace Xfz
def pts:List PT:=[.cs SB]
def FS:FS:=Yef [.sh] pts (fun x=>Xfz x.1) fun t=>⟨[.cs I64 t],[]⟩
theorem ok:Ydh PR 100 FS:=
 Ywf Xe Xd Proofs.Tryz.f100 h0 .no (G:=(mkG [])) .nil (L:=mkL []) (l:=[]) hT
  (fun x=>by simp only[Xfz,mC,mB,mS,mO,mN];kernel_rfl)
end Xfz
def Xda.B (v:Fs_) (v2:List Int) (v3:Int):Option (Int⊕((Int⊕Unit))):=
 cond (decide (v3<20)) (cond (inB v3 20) (cond (inB v3 v.2.1.length) ((Xfz (v.2.1.getD v3.toNat [])).bind fun v4=>cond (v4 != (v2.getD v3.toNat 0)) (some (.inr (.inl 1))) (some (.inl (w64 (v3+1))))) none) none) (some (.inr (.inr ())))
def Xda (v:Fs_) (v2:List Int):Int→Option ((Int⊕Unit)):=
 Yam fun s=>Xda.B v v2 s
def Xbn (v:Fs_):Option Int:=
 (Xea v.1).bind fun v2=>(Xda v v2 0).bind fun v5=>sel v5 (fun v6=>some v6) (fun v7=>some 0)
namespace Xbn
def G:Gam:=mkG [(99,Xea.FS),(100,Xfz.FS)]
theorem Gok:GOk PR G:=.cons Xea.ok (.cons Xfz.ok .nil)
end Xbn
namespace Xda
noncomputable def c:=Yaq (Yal Proofs.Tryz.f53) [1,0,1,0,0]
def sp:SP:=⟨[(1,.pt Xl),(7,.cs (.arr 20 I64)),(8,.cs I64)],[]⟩
def fr:=Yix sp (fun x s=>Xda.B x.1.1 x.1.2.1 s) (fun x=>x.1.2.2.1) fun x (oo0:(Int⊕Unit)) _ kk0=>sel oo0 (fun bb0=>kk0 (.rt) ⟨[(2,.cs I64 bb0)],[]⟩) (fun cc0=>kk0 (.ex 0) ⟨[],[]⟩)
theorem ok:Ya5 PR 21 1 (.loop c) fr:=
 Ysy Xe Xd ⟨[1],[],[],0⟩ .no (G:=Xbn.G) Xbn.Gok (L:=mkL []) (l:=[]) hT [(0,([],[]))] ([2],[]) (fun x s=>((x.1.1,x.1.2.1,s,x.1.2.2.2),x.2))
  (fun x s=>by simp only[B,mC,mB,mS,mO,mN];kernel_rfl)
end Xda
namespace Xbn
def pts:List PT:=[.cs Xl]
def FS:FS:=Yef [.sh] pts (fun x=>Xbn x.1) fun t=>⟨[.cs I64 t],[]⟩
theorem ok:Ydh PR 53 FS:=
 Ywf Xe Xd Proofs.Tryz.f53 ⟨[1],[],[],0⟩ (.R (.L (.R (.one (.fr 0))))) (G:=G) Gok (L:=mkL [(0,Xda.fr)]) (l:=[(0,.loop Xda.c)]) ⟨Lam.cons Xda.ok,trivial⟩
  (fun x=>by simp only[Xbn,mC,mB,mS,mO,mN];kernel_rfl)
end Xbn
def Xeb (v:Fs_):Option Int:=
 (Xan v).bind fun v2=>cond (v2 != 0) (some v2) ((Xbl v).bind fun v3=>cond (v3 != 0) (some v3) ((Xbn v).bind fun v4=>some v4))
namespace Xeb
def G:Gam:=mkG [(51,Xan.FS),(52,Xbl.FS),(53,Xbn.FS)]
def pts:List PT:=[.cs Xl]
def FS:FS:=Yef [.sh] pts (fun x=>Xeb x.1) fun t=>⟨[.cs I64 t],[]⟩
theorem ok:Ydh PR 22 FS:=
 Ywf Xe Xd Proofs.Tryz.f22 ⟨[1],[],[],0⟩ .no (G:=G) (show GOk PR G from .cons Xan.ok (.cons Xbl.ok (.cons Xbn.ok .nil))) (L:=mkL []) (l:=[]) hT
  (fun x=>by simp only[Xeb,mC,mB,mS,mO,mN];kernel_rfl)
end Xeb
noncomputable def Xf0 (s:List Int):Option (List Int):=Yqv s
noncomputable def Xf0.FS:FS:=Yef [.sh] [.cl .sh (.sl (.int .u8))] (fun x=>Xf0 x.1) fun y=>⟨[.cl .deep (.sl (.int .u8)) y],[]⟩
theorem Xf0.ok:Ydh Go.Proofs.Tryz.prog 101 Xf0.FS:=
 Yu4 (hn:=⟨[],[],[],0⟩) Xe Xd (fn:=Go.Proofs.Tryz.f101) (by kernel_rfl) (Yj5 (by kernel_rfl)) (by kernel_rfl) (by kernel_rfl) .deep (.int .u8) 27 27 5 (by kernel_rfl) (by kernel_rfl) (by kernel_rfl) (by kernel_rfl) (by kernel_rfl) (by kernel_rfl) (by kernel_rfl) (by kernel_rfl) (fun xs=>by kernel_rfl) (fun xs=>by kernel_rfl) (fun xs=>by kernel_rfl) (fun xs=>by kernel_rfl)
def Xbo.B (v:List (List Int)) (v2:Int) (v3:Int) (v4:List (List Int)):Option ((Int×List (List Int))⊕(List (List Int))):=
 cond (decide (v3<v2)) (cond (inB v3 v.length) ((Xf0 (v.getD v3.toNat [])).bind fun v5=>cond (decide ((v4++([v5])).length≤2147483648)) (some (.inl (w64 (v3+1),v4++([v5])))) none) none) (some (.inr v4))
def Xbo (v:List (List Int)) (v2:Int):(Int×List (List Int))→Option (List (List Int)):=
 Yam fun s=>Xbo.B v v2 s.1 s.2
def Xbp (v:List (List Int)):Option (List (List Int)):=
 (Xbo v (v.length:Int) (0,[])).bind fun v6=>some v6
namespace Xbp
def G:Gam:=mkG [(101,Xf0.FS)]
theorem Gok:GOk PR G:=.cons Xf0.ok .nil
end Xbp
namespace Xbo
noncomputable def c:=Yaq (Yal Proofs.Tryz.f54) [1,1,0,1,0,0]
def sp:SP:=⟨[(3,.seg 3 []),(6,.cs (.sl SB)),(7,.cs I64),(8,.cs I64)],[(3,.reg,.cd (.sl SB))]⟩
def fr:=Yix sp (fun x s=>Xbo.B x.1.2.1 x.1.2.2.1 s.1 s.2) (fun x=>(x.1.2.2.2.1,x.2.1)) fun x (bb0:List (List Int)) _ kk0=>kk0 (.ex 0) ⟨[(3,.seg 3 [])],[sr 3 (.cd (.sl SB) bb0)]⟩
theorem ok:Ya5 PR 19 1 (.loop c) fr:=
 Ywh Xe Xd h0 (G:=Xbp.G) Xbp.Gok [(0,([3],[3]))] (fun x s=>((x.1.1,x.1.2.1,x.1.2.2.1,s.1,x.1.2.2.2.2),(s.2,x.2.2)))
  (fun x s=>by simp only[B,mC,mB,mS,mO,mN];kernel_rfl)
end Xbo
namespace Xbp
def pts:List PT:=[.cs (.sl SB)]
def FS:FS:=Yef [.sh] pts (fun x=>Xbp x.1) fun t=>⟨[.cd (.sl SB) t],[]⟩
theorem ok:Ydh PR 54 FS:=
 Ywf Xe Xd Proofs.Tryz.f54 h0 (.R (.R (.L (.R (.one (.fr 0)))))) (G:=G) Gok (L:=mkL [(0,Xbo.fr)]) (l:=[(0,.loop Xbo.c)]) ⟨Lam.cons Xbo.ok,trivial⟩
  (fun x=>by simp only[Xbp,mC,mB,mS,mO,mN];kernel_rfl)
end Xbp
noncomputable def Xf1 (s:List Xf):Option (List Xf):=Yqv s
noncomputable def Xf1.FS:FS:=Yef [.sh] [.cl .sh (.sl Xg)] (fun x=>Xf1 x.1) fun y=>⟨[.cl .deep (.sl Xg) y],[]⟩
theorem Xf1.ok:Ydh Go.Proofs.Tryz.prog 56 Xf1.FS:=
 Yu4 (hn:=⟨[],[],[],0⟩) Xe Xd (fn:=Go.Proofs.Tryz.f56) (by kernel_rfl) (Yj5 (by kernel_rfl)) (by kernel_rfl) (by kernel_rfl) .deep Xg 67 67 78 (by kernel_rfl) (by kernel_rfl) (by kernel_rfl) (by kernel_rfl) (by kernel_rfl) (by kernel_rfl) (by kernel_rfl) (by kernel_rfl) (fun xs=>by kernel_rfl) (fun xs=>by kernel_rfl) (fun xs=>by kernel_rfl) (fun xs=>by kernel_rfl)
def Xbq.B (v3:List Xb) (v4:Int) (v6:Fs_) (v5:Int) (v7:Fs_):Option ((Int×Fs_)⊕Fs_):=
 cond (decide (v5<v4)) (cond (inB v5 v3.length) ((Xcs (v3.getD v5.toNat Xa).2.2.2.1).bind fun v8=>(Xf1 (v3.getD v5.toNat Xa).2.2.2.2.1).bind fun v9=>(some (v7.1++([((v3.getD v5.toNat Xa).1,(v3.getD v5.toNat Xa).2.1,(v3.getD v5.toNat Xa).2.2.1,v8,v9,(v3.getD v5.toNat Xa).2.2.2.2.2)]))).bind fun v10=>cond (decide (v10.length≤2147483648)) (some (.inl (w64 (v5+1),(v10,v7.2)))) none) none) (some (.inr v7))
def Xbq (v3:List Xb) (v4:Int) (v6:Fs_):(Int×Fs_)→Option Fs_:=
 Yam fun s=>Xbq.B v3 v4 v6 s.1 s.2
def Xbr (v:Fs_):Option Fs_:=
 (Xbp v.2.1).bind fun v2=>(Xbq v.1 (v.1.length:Int) ([],[],()) (0,([],v2,()))).bind fun v11=>some (v11.1,v11.2.1,v11.2.2)
namespace Xbr
def G:Gam:=mkG [(54,Xbp.FS),(55,Xcs.FS),(56,Xf1.FS)]
theorem Gok:GOk PR G:=.cons Xbp.ok (.cons Xcs.ok (.cons Xf1.ok .nil))
end Xbr
namespace Xbq
noncomputable def c:=Yaq (Yal Proofs.Tryz.f23) [1,1,0,1,0,0]
def sp:SP:=⟨[(2,.loc 2 []),(3,.loc 3 []),(11,.cs (.sl Xc)),(12,.cs I64),(13,.cs I64)],[(2,.mem,.cd Xl),(3,.mem,.cd Xl)]⟩
def fr:=Yix sp (fun x s=>Xbq.B x.1.2.2.1 x.1.2.2.2.1 x.2.1 s.1 s.2) (fun x=>(x.1.2.2.2.2.1,x.2.2.1)) fun x (bb0:Fs_) _ kk0=>kk0 (.ex 0) ⟨[(2,.loc 2 []),(3,.loc 3 [])],[(2,some ⟨.mem,.cd Xl x.2.1⟩),(3,some ⟨.mem,.cd Xl bb0⟩)]⟩
theorem ok:Ya5 PR 33 1 (.loop c) fr:=
 Ywh Xe Xd ⟨[1],[],[],0⟩ (G:=Xbr.G) Xbr.Gok [(0,([2,3],[2,3]))] (fun x s=>((x.1.1,x.1.2.1,x.1.2.2.1,x.1.2.2.2.1,s.1,x.1.2.2.2.2.2),(x.2.1,s.2,x.2.2.2)))
  (fun x s=>by simp only[B,mC,mB,mS,mO,mN];kernel_rfl)
end Xbq
namespace Xbr
def pts:List PT:=[.cs Xl]
def FS:FS:=Yef [.sh] pts (fun x=>Xbr x.1) fun t=>⟨[.cd Xl t],[]⟩
theorem ok:Ydh PR 23 FS:=
 Ywf Xe Xd Proofs.Tryz.f23 ⟨[1],[],[],0⟩ (.R (.R (.L (.R (.one (.fr 0)))))) (G:=G) Gok (L:=mkL [(0,Xbq.fr)]) (l:=[(0,.loop Xbq.c)]) ⟨Lam.cons Xbq.ok,trivial⟩
  (fun x=>by simp only[Xbr,mC,mB,mS,mO,mN];kernel_rfl)
end Xbr
def Xh (v:List UInt8) (v2:List UInt8):Option Bool:=
 cond (cond (decide ((v.length:Int)≥(v2.length:Int))) (decide ((0:Int)≤(v2.length:Int))&&decide ((v2.length:Int)≤(v.length:Int))) true) ((some (cond (decide ((v.length:Int)≥(v2.length:Int))) (((v.take ((v2.length:Int).toNat)).drop 0) == v2) false)).bind fun v3=>some v3) none
namespace Xh
def pts:List PT:=[.cs .str,.cs .str]
def FS:FS:=Yef [.sh,.sh] pts (fun x=>Xh x.1 x.2.1) fun t=>⟨[.cs .bool t],[]⟩
theorem ok:Ydh PR 143 FS:=
 Ywf Xe Xd Proofs.Tryz.f143 h0 .no (G:=(mkG [])) .nil (L:=mkL []) (l:=[]) hT
  (fun x=>by simp only[Xh,mC,mB,mS,mO,mN];kernel_rfl)
end Xh
def Xec (v:List UInt8) (v2:List UInt8):Option Bool:=
 (Xh v v2).bind fun v3=>some v3
namespace Xec
def G:Gam:=mkG [(143,Xh.FS)]
def pts:List PT:=[.cs .str,.cs .str]
def FS:FS:=Yef [.sh,.sh] pts (fun x=>Xec x.1 x.2.1) fun t=>⟨[.cs .bool t],[]⟩
theorem ok:Ydh PR 127 FS:=
 Ywf Xe Xd Proofs.Tryz.f127 h0 .no (G:=G) (show GOk PR G from .cons Xh.ok .nil) (L:=mkL []) (l:=[]) hT
  (fun x=>by simp only[Xec,mC,mB,mS,mO,mN];kernel_rfl)
end Xec
def Xi (v:List UInt8) (v2:List UInt8):Option Bool:=
 cond (cond (decide ((v.length:Int)≥(v2.length:Int))) (decide ((0:Int)≤(w64 ((v.length:Int)-(v2.length:Int))))&&decide ((w64 ((v.length:Int)-(v2.length:Int)))≤(v.length:Int))) true) ((some (cond (decide ((v.length:Int)≥(v2.length:Int))) (((v.take v.length).drop ((w64 ((v.length:Int)-(v2.length:Int))).toNat)) == v2) false)).bind fun v3=>some v3) none
namespace Xi
def pts:List PT:=[.cs .str,.cs .str]
def FS:FS:=Yef [.sh,.sh] pts (fun x=>Xi x.1 x.2.1) fun t=>⟨[.cs .bool t],[]⟩
theorem ok:Ydh PR 144 FS:=
 Ywf Xe Xd Proofs.Tryz.f144 h0 .no (G:=(mkG [])) .nil (L:=mkL []) (l:=[]) hT
  (fun x=>by simp only[Xi,mC,mB,mS,mO,mN];kernel_rfl)
end Xi
def Xed (v:List UInt8) (v2:List UInt8):Option Bool:=
 (Xi v v2).bind fun v3=>some v3
namespace Xed
def G:Gam:=mkG [(144,Xi.FS)]
def pts:List PT:=[.cs .str,.cs .str]
def FS:FS:=Yef [.sh,.sh] pts (fun x=>Xed x.1 x.2.1) fun t=>⟨[.cs .bool t],[]⟩
theorem ok:Ydh PR 128 FS:=
 Ywf Xe Xd Proofs.Tryz.f128 h0 .no (G:=G) (show GOk PR G from .cons Xi.ok .nil) (L:=mkL []) (l:=[]) hT
  (fun x=>by simp only[Xed,mC,mB,mS,mO,mN];kernel_rfl)
end Xed
def Xgr (s sub:List UInt8):Option Int:=countP s sub
def Xgr.FS:FS:=Yef [.sh,.sh] [.cl .sh .str,.cl .sh .str] (fun x=>countP x.1 x.2.1) fun y=>⟨[.cl .sh (.int .i64) y],[]⟩
theorem Xgr.ok:Ydh Go.Proofs.Tryz.prog 163 Xgr.FS:=
 Yu5 ⟨Go.Proofs.Tryz.f163,by kernel_rfl,by kernel_rfl,by kernel_rfl⟩ Go.Proofs.Ct.count_one
def Xk (s:List UInt8) (c:Int):Option Int:=Yiv s c
def Xk.FS:FS:=Yef [.sh,.sh] [.cl .sh .str,.cl .sh (.int .u8)] (fun x=>Yiv x.1 x.2.1) fun y=>⟨[.cl .sh (.int .i64) y],[]⟩
theorem Xk.ok:Ydh Go.Proofs.Tryz.prog 183 Xk.FS:=
 Ysr ⟨Go.Proofs.Tryz.f183,by kernel_rfl,by kernel_rfl,by kernel_rfl⟩ Go.Proofs.Ib.index_any
def Xm (v:List UInt8) (v2:List UInt8):Option Int:=
 cond (cond ((v2.length:Int) == 0) true (v2 == v)) (some 0) (cond ((v2.length:Int) == 1) (cond (inB 0 v2.length) ((Xk v ((v2.getD (0:Int).toNat 0).toNat:Int)).bind fun v3=>some v3) none) (cond (decide ((v2.length:Int)≥(v.length:Int))) (some (-1)) none))
namespace Xm
def G:Gam:=mkG [(183,Xk.FS)]
def pts:List PT:=[.cs .str,.cs .str]
def FS:FS:=Yef [.sh,.sh] pts (fun x=>Xm x.1 x.2.1) fun t=>⟨[.cs I64 t],[]⟩
theorem ok:Ydh PR 179 FS:=
 Ywf Xe Xd Proofs.Tryz.f179 h0 .no (G:=G) (show GOk PR G from .cons Xk.ok .nil) (L:=mkL []) (l:=[]) hT
  (fun x=>by simp only[Xm,mC,mB,mS,mO,mN];kernel_rfl)
end Xm
def Xee (v:List UInt8) (v2:List UInt8):Option Int:=
 (Xm v v2).bind fun v3=>some v3
namespace Xee
def G:Gam:=mkG [(179,Xm.FS)]
def pts:List PT:=[.cs .str,.cs .str]
def FS:FS:=Yef [.sh,.sh] pts (fun x=>Xee x.1 x.2.1) fun t=>⟨[.cs I64 t],[]⟩
theorem ok:Ydh PR 164 FS:=
 Ywf Xe Xd Proofs.Tryz.f164 h0 .no (G:=G) (show GOk PR G from .cons Xm.ok .nil) (L:=mkL []) (l:=[]) hT
  (fun x=>by simp only[Xee,mC,mB,mS,mO,mN];kernel_rfl)
end Xee
def Xbs.B (v2:List UInt8) (v3:Int) (v8:Int) (v7:List UInt8) (v9:Int) (v10:List (List UInt8)):Option (((List UInt8)×Int×List (List UInt8))⊕((List UInt8)×Int×List (List UInt8))):=
 cond (decide (v9<v8)) ((Xee v7 v2).bind fun v11=>cond (decide (v11<0)) (some (.inr (v7,v9,v10))) (cond (decide ((0:Int)≤(w64 (v11+v3)))&&decide ((w64 (v11+v3))≤(v7.length:Int))) (cond (inB v9 v10.length) ((some (v10.set v9.toNat ((v7.take ((w64 (v11+v3)).toNat)).drop 0))).bind fun v12=>cond (decide ((0:Int)≤(w64 (v11+(v2.length:Int))))&&decide ((w64 (v11+(v2.length:Int)))≤(v7.length:Int))) ((some ((v7.take v7.length).drop ((w64 (v11+(v2.length:Int))).toNat))).bind fun v13=>some (.inl (v13,w64 (v9+1),v12))) none) none) none)) (some (.inr (v7,v9,v10)))
def Xbs (v2:List UInt8) (v3:Int) (v8:Int):((List UInt8)×Int×List (List UInt8))→Option ((List UInt8)×Int×List (List UInt8)):=
 Yam fun s=>Xbs.B v2 v3 v8 s.1 s.2.1 s.2.2
def Xcw (v:List UInt8) (v2:List UInt8) (v3:Int) (v4:Int):Option (List (List UInt8)):=
 cond (v4 == 0) (some []) (cond (v2 == ([]:List UInt8)) none (cond (decide (v4<0)) ((Xgr v v2).bind fun v5=>(some (cond (decide ((w64 ((v.length:Int)+1))<(w64 (v5+1)))) (w64 ((v.length:Int)+1)) (w64 (v5+1)))).bind fun v6=>cond (decide ((0:Int)≤v6)&&(decide (v6≤v6)&&decide (v6≤2147483648))) ((Xbs v2 v3 (w64 (v6-1)) (v,0,List.replicate v6.toNat ([]:List UInt8))).bind fun v14=>cond (inB v14.2.1 v14.2.2.length) (cond (decide ((0:Int)≤(w64 (v14.2.1+1)))&&decide ((w64 (v14.2.1+1))≤((v14.2.2.set v14.2.1.toNat v14.1).length:Int))) ((some (((v14.2.2.set v14.2.1.toNat v14.1).drop 0).take (((w64 (v14.2.1+1)).toNat)-0))).bind fun v15=>some v15) none) none) none) ((some (cond (decide ((w64 ((v.length:Int)+1))<v4)) (w64 ((v.length:Int)+1)) v4)).bind fun v16=>cond (decide ((0:Int)≤v16)&&(decide (v16≤v16)&&decide (v16≤2147483648))) ((Xbs v2 v3 (w64 (v16-1)) (v,0,List.replicate v16.toNat ([]:List UInt8))).bind fun v17=>cond (inB v17.2.1 v17.2.2.length) (cond (decide ((0:Int)≤(w64 (v17.2.1+1)))&&decide ((w64 (v17.2.1+1))≤((v17.2.2.set v17.2.1.toNat v17.1).length:Int))) ((some (((v17.2.2.set v17.2.1.toNat v17.1).drop 0).take (((w64 (v17.2.1+1)).toNat)-0))).bind fun v18=>some v18) none) none) none)))
namespace Xcw
def G:Gam:=mkG [(163,Xgr.FS),(164,Xee.FS)]
theorem Gok:GOk PR G:=.cons Xgr.ok (.cons Xee.ok .nil)
end Xcw
namespace Xbs
noncomputable def c:=Yaq (Yal Proofs.Tryz.f145) [1,1,1,1,1,1,1,1,0,0,0]
def sp:SP:=⟨[(0,.cs .str),(1,.cs .str),(2,.cs I64),(3,.cs I64),(9,.seg 9 []),(10,.cs I64)],[(9,.reg,.cd (.sl .str))]⟩
def fr:=Yix sp (fun x s=>Xbs.B x.1.2.1 x.1.2.2.1 x.1.2.2.2.1 s.1 s.2.1 s.2.2) (fun x=>(x.1.1,x.1.2.2.2.2.2.1,x.2.1)) fun x (bb0:(List UInt8)×Int×List (List UInt8)) _ kk0=>kk0 (.ex 0) ⟨[(0,.cs .str bb0.1),(9,.seg 9 []),(10,.cs I64 bb0.2.1)],[sr 9 (.cd (.sl .str) bb0.2.2)]⟩
theorem ok:Ya5 PR 66 4 (.loop c) fr:=
 Ywh Xe Xd h0 (G:=Xcw.G) Xcw.Gok [(0,([0,9,10],[9]))] (fun x s=>((s.1,x.1.2.1,x.1.2.2.1,x.1.2.2.2.1,x.1.2.2.2.2.1,s.2.1,x.1.2.2.2.2.2.2),(s.2.2,x.2.2)))
  (fun x s=>by simp only[B,mC,mB,mS,mO,mN];kernel_rfl)
end Xbs
namespace Xcw
def pts:List PT:=[.cs .str,.cs .str,.cs I64,.cs I64]
def FS:FS:=Yef [.sh,.sh,.sh,.sh] pts (fun x=>Xcw x.1 x.2.1 x.2.2.1 x.2.2.2.1) fun t=>⟨[.cd (.sl .str) t],[]⟩
theorem ok:Ydh PR 145 FS:=
 Ywf Xe Xd Proofs.Tryz.f145 h0 (.R (.R (.R (.R (.R (.R (.R (.R (.L (.one (.fr 0))))))))))) (G:=G) Gok (L:=mkL [(0,Xbs.fr)]) (l:=[(0,.loop Xbs.c)]) ⟨Lam.cons Xbs.ok,trivial⟩
  (fun x=>by simp only[Xcw,mC,mB,mS,mO,mN];kernel_rfl)
end Xcw
def Xef (v:List UInt8) (v2:List UInt8):Option (List (List UInt8)):=
 (Xcw v v2 0 (-1)).bind fun v3=>some v3
namespace Xef
def G:Gam:=mkG [(145,Xcw.FS)]
def pts:List PT:=[.cs .str,.cs .str]
def FS:FS:=Yef [.sh,.sh] pts (fun x=>Xef x.1 x.2.1) fun t=>⟨[.cd (.sl .str) t],[]⟩
theorem ok:Ydh PR 129 FS:=
 Ywf Xe Xd Proofs.Tryz.f129 h0 .no (G:=G) (show GOk PR G from .cons Xcw.ok .nil) (L:=mkL []) (l:=[]) hT
  (fun x=>by simp only[Xef,mC,mB,mS,mO,mN];kernel_rfl)
end Xef
def Xbt.B (v5:Int) (v4:List (List UInt8)) (v6:Int):Option (Int⊕(((Int×List (List UInt8))⊕Unit))):=
 cond (decide (v6<v5)) (cond (inB v6 v4.length) ((Xco (v4.getD v6.toNat [])).bind fun v7=>cond (v7 != 0) (some (.inr (.inl (v7,[])))) (some (.inl (w64 (v6+1))))) none) (some (.inr (.inr ())))
def Xbt (v5:Int) (v4:List (List UInt8)):Int→Option (((Int×List (List UInt8))⊕Unit)):=
 Yam fun s=>Xbt.B v5 v4 s
def Xak (v:List UInt8):Option ((List (List UInt8))×Int):=
 cond (decide ((v.length:Int)>30)) (some ([],2)) (cond (v == ([47]:List UInt8)) (some ([],0)) ((Xec v ([47]:List UInt8)).bind fun v2=>cond (!v2) (some ([],5)) ((Xed v ([47]:List UInt8)).bind fun v3=>cond v3 (some ([],5)) (cond (decide ((0:Int)≤(1:Int))&&decide ((1:Int)≤(v.length:Int))) ((Xef ((v.take v.length).drop ((1:Int).toNat)) ([47]:List UInt8)).bind fun v4=>cond (decide ((v4.length:Int)>6)) (some ([],2)) ((Xbt (v4.length:Int) v4 0).bind fun v8=>sel v8 (fun v9=>some (v9.2,v9.1)) (fun v10=>some (v4,0)))) none))))
namespace Xak
def G:Gam:=mkG [(127,Xec.FS),(128,Xed.FS),(129,Xef.FS),(130,Xco.FS)]
theorem Gok:GOk PR G:=.cons Xec.ok (.cons Xed.ok (.cons Xef.ok (.cons Xco.ok .nil)))
end Xak
namespace Xbt
noncomputable def c:=Yaq (Yal Proofs.Tryz.f102) [1,1,1,1,1,1,0,1,0,0]
def sp:SP:=⟨[(4,.seg 4 []),(26,.seg 4 []),(27,.cs I64),(28,.cs I64)],[(4,.reg,.cd (.sl .str))]⟩
def fr:=Yix sp (fun x s=>Xbt.B x.1.2.2.1 x.2.1 s) (fun x=>x.1.2.2.2.1) fun x (oo0:((Int×List (List UInt8))⊕Unit)) _ kk0=>sel oo0 (fun bb0=>kk0 (.rt) ⟨[(2,.seg 2 []),(3,.cs I64 bb0.1)],[sr 2 (.cd (.sl .str) bb0.2)]⟩) (fun cc0=>kk0 (.ex 0) ⟨[(4,.seg 4 [])],[sr 4 (.cd (.sl .str) x.2.1)]⟩)
theorem ok:Ya5 PR 39 1 (.loop c) fr:=
 Ysy Xe Xd h0 .no (G:=Xak.G) Xak.Gok (L:=mkL []) (l:=[]) hT [(0,([4],[4]))] ([2,3],[2]) (fun x s=>((x.1.1,x.1.2.1,x.1.2.2.1,s,x.1.2.2.2.2),x.2))
  (fun x s=>by simp only[B,mC,mB,mS,mO,mN];kernel_rfl)
end Xbt
namespace Xak
def pts:List PT:=[.cs .str]
def FS:FS:=Yef [.sh] pts (fun x=>Xak x.1) fun t=>⟨[.cd (.sl .str) t.1,.cs I64 t.2],[]⟩
theorem ok:Ydh PR 102 FS:=
 Ywf Xe Xd Proofs.Tryz.f102 h0 (.R (.R (.R (.R (.R (.R (.L (.R (.one (.fr 0)))))))))) (G:=G) Gok (L:=mkL [(0,Xbt.fr)]) (l:=[(0,.loop Xbt.c)]) ⟨Lam.cons Xbt.ok,trivial⟩
  (fun x=>by simp only[Xak,mC,mB,mS,mO,mN];kernel_rfl)
end Xak
def Xcx.B (v3:List UInt8) (v5:List Xf) (v4:Int) (v6:Int):Option (Int⊕((Int⊕Unit))):=
 cond (decide (v6<v4)) (cond (inB v6 v5.length) (cond ((v5.getD v6.toNat Xn).1 == v3) (some (.inr (.inl (v5.getD v6.toNat Xn).2.1))) (some (.inl (w64 (v6+1))))) none) (some (.inr (.inr ())))
def Xcx (v3:List UInt8) (v5:List Xf) (v4:Int):Int→Option ((Int⊕Unit)):=
 Yam fun s=>Xcx.B v3 v5 v4 s
def Xcy (v:Fs_) (v2:Int) (v3:List UInt8):Option Int:=
 cond (inB v2 v.1.length) ((some ((v.1.getD v2.toNat Xa).2.2.2.2.1.length:Int)).bind fun v4=>(Xcx v3 (v.1.getD v2.toNat Xa).2.2.2.2.1 v4 0).bind fun v7=>sel v7 (fun v8=>some v8) (fun v9=>some (-1))) none
namespace Xcx
noncomputable def c:=Yaq (Yal Proofs.Tryz.f72) [1,0,1,0,0]
def sp:SP:=⟨[(2,.cs .str),(16,.cs (.sl Xg)),(17,.cs I64),(18,.cs I64)],[]⟩
def fr:=Yix sp (fun x s=>Xcx.B x.1.1 x.1.2.1 x.1.2.2.1 s) (fun x=>x.1.2.2.2.1) fun x (oo0:(Int⊕Unit)) _ kk0=>sel oo0 (fun bb0=>kk0 (.rt) ⟨[(6,.cs I64 bb0)],[]⟩) (fun cc0=>kk0 (.ex 0) ⟨[],[]⟩)
theorem ok:Ya5 PR 29 3 (.loop c) fr:=
 Ysy Xe Xd h0 .no (G:=(mkG [])) .nil (L:=mkL []) (l:=[]) hT [(0,([],[]))] ([6],[]) (fun x s=>((x.1.1,x.1.2.1,x.1.2.2.1,s,x.1.2.2.2.2),x.2))
  (fun x s=>by simp only[B,mC,mB,mS,mO,mN];kernel_rfl)
end Xcx
namespace Xcy
def pts:List PT:=[.pt Xl,.cs I64,.cs .str]
def FS:FS:=Yef [.sh,.sh,.sh] pts (fun x=>Xcy x.1 x.2.1 x.2.2.1) fun t=>⟨[.cs I64 t],[]⟩
theorem ok:Ydh PR 72 FS:=
 Ywf Xe Xd Proofs.Tryz.f72 h0 (.R (.L (.R (.one (.fr 0))))) (G:=(mkG [])) .nil (L:=mkL [(0,Xcx.fr)]) (l:=[(0,.loop Xcx.c)]) ⟨Lam.cons Xcx.ok,trivial⟩
  (fun x=>by simp only[Xcy,mC,mB,mS,mO,mN];kernel_rfl)
end Xcy
def Xbu.B (v:Fs_) (v2:List (List UInt8)) (v4:Int) (v3:Int) (v5:Int):Option ((Int×Int)⊕(((Int×Int)⊕Int))):=
 cond (decide (v5<v4)) (cond (inB v5 v2.length) (cond (inB v3 v.1.length) (cond ((v.1.getD v3.toNat Xa).1 != 2) (some (.inr (.inl (0,9)))) ((Xcy v v3 (v2.getD v5.toNat [])).bind fun v6=>cond (decide (v6<0)) (some (.inr (.inl (0,4)))) (some (.inl (v6,w64 (v5+1)))))) none) none) (some (.inr (.inr v3)))
def Xbu (v:Fs_) (v2:List (List UInt8)) (v4:Int):(Int×Int)→Option (((Int×Int)⊕Int)):=
 Yam fun s=>Xbu.B v v2 v4 s.1 s.2
def Xal (v:Fs_) (v2:List (List UInt8)):Option (Int×Int):=
 (Xbu v v2 (v2.length:Int) (0,0)).bind fun v7=>sel v7 (fun v8=>some (v8.1,v8.2)) (fun v9=>some (v9,0))
namespace Xal
def G:Gam:=mkG [(72,Xcy.FS)]
theorem Gok:GOk PR G:=.cons Xcy.ok .nil
end Xal
namespace Xbu
noncomputable def c:=Yaq (Yal Proofs.Tryz.f103) [1,1,0,1,0,0]
def sp:SP:=⟨[(0,.pt Xl),(6,.cs I64),(9,.cs (.sl .str)),(10,.cs I64),(11,.cs I64)],[]⟩
def fr:=Yix sp (fun x s=>Xbu.B x.1.1 x.1.2.2.1 x.1.2.2.2.1 s.1 s.2) (fun x=>(x.1.2.1,x.1.2.2.2.2.1)) fun x (oo0:((Int×Int)⊕Int)) _ kk0=>sel oo0 (fun bb0=>kk0 (.rt) ⟨[(4,.cs I64 bb0.1),(5,.cs I64 bb0.2)],[]⟩) (fun cc0=>kk0 (.ex 0) ⟨[(6,.cs I64 cc0)],[]⟩)
theorem ok:Ya5 PR 32 2 (.loop c) fr:=
 Ysy Xe Xd h0 .no (G:=Xal.G) Xal.Gok (L:=mkL []) (l:=[]) hT [(0,([6],[]))] ([4,5],[]) (fun x s=>((x.1.1,s.1,x.1.2.2.1,x.1.2.2.2.1,s.2,x.1.2.2.2.2.2),x.2))
  (fun x s=>by simp only[B,mC,mB,mS,mO,mN];kernel_rfl)
end Xbu
namespace Xal
def pts:List PT:=[.pt Xl,.cs (.sl .str)]
def FS:FS:=Yef [.sh,.sh] pts (fun x=>Xal x.1 x.2.1) fun t=>⟨[.cs I64 t.1,.cs I64 t.2],[]⟩
theorem ok:Ydh PR 103 FS:=
 Ywf Xe Xd Proofs.Tryz.f103 h0 (.R (.R (.L (.R (.one (.fr 0)))))) (G:=G) Gok (L:=mkL [(0,Xbu.fr)]) (l:=[(0,.loop Xbu.c)]) ⟨Lam.cons Xbu.ok,trivial⟩
  (fun x=>by simp only[Xal,mC,mB,mS,mO,mN];kernel_rfl)
end Xal
def Xeg (v:Fs_) (v2:List UInt8):Option (Int×Int):=
 (Xak v2).bind fun v3=>cond (v3.2 != 0) (some (0,v3.2)) ((Xal v v3.1).bind fun v4=>some (v4.1,v4.2))
namespace Xeg
def G:Gam:=mkG [(102,Xak.FS),(103,Xal.FS)]
def pts:List PT:=[.pt Xl,.cs .str]
def FS:FS:=Yef [.sh,.sh] pts (fun x=>Xeg x.1 x.2.1) fun t=>⟨[.cs I64 t.1,.cs I64 t.2],[]⟩
theorem ok:Ydh PR 57 FS:=
 Ywf Xe Xd Proofs.Tryz.f57 h0 .no (G:=G) (show GOk PR G from .cons Xak.ok (.cons Xal.ok .nil)) (L:=mkL []) (l:=[]) hT
  (fun x=>by simp only[Xeg,mC,mB,mS,mO,mN];kernel_rfl)
end Xeg
def Xeh (v:Fs_) (v2:List UInt8):Option (Int×(List UInt8)×Int):=
 (Xak v2).bind fun v3=>cond (v3.2 != 0) (some (0,([]:List UInt8),v3.2)) (cond ((v3.1.length:Int) == 0) (some (0,([]:List UInt8),4)) (cond (decide ((0:Int)≤(w64 ((v3.1.length:Int)-1)))&&decide ((w64 ((v3.1.length:Int)-1))≤(v3.1.length:Int))) ((Xal v ((v3.1.drop 0).take (((w64 ((v3.1.length:Int)-1)).toNat)-0))).bind fun v4=>cond (v4.2 != 0) (some (0,([]:List UInt8),v4.2)) (cond (inB v4.1 v.1.length) (cond ((v.1.getD v4.1.toNat Xa).1 != 2) (some (0,([]:List UInt8),9)) (cond (inB (w64 ((v3.1.length:Int)-1)) v3.1.length) ((some (v3.1.getD ((w64 ((v3.1.length:Int)-1)).toNat) [])).bind fun v5=>some (v4.1,v5,0)) none)) none)) none))
namespace Xeh
def G:Gam:=mkG [(102,Xak.FS),(103,Xal.FS)]
def pts:List PT:=[.pt Xl,.cs .str]
def FS:FS:=Yef [.sh,.sh] pts (fun x=>Xeh x.1 x.2.1) fun t=>⟨[.cs I64 t.1,.cs .str t.2.1,.cs I64 t.2.2],[]⟩
theorem ok:Ydh PR 58 FS:=
 Ywf Xe Xd Proofs.Tryz.f58 h0 .no (G:=G) (show GOk PR G from .cons Xak.ok (.cons Xal.ok .nil)) (L:=mkL []) (l:=[]) hT
  (fun x=>by simp only[Xeh,mC,mB,mS,mO,mN];kernel_rfl)
end Xeh
noncomputable def Xf2 (f:Fs_) (dir:Int) (name:List UInt8) (at_:Int):Option Fs_:=cond (decide (List.length f.1≤1152921504606846976)) (Yet f dir name at_) none
noncomputable def Xf2.FS:FS:=Yef [.mu,.sh,.sh,.sh] [.op (.cl .deep Yjl),.cl .sh (.int .i64),.cl .sh .str,.cl .sh (.int .i64)] (fun x=>cond (decide (List.length x.1.1≤1152921504606846976)) (Yet x.1 x.2.1 x.2.2.1 x.2.2.2.1) none) fun y=>⟨[],[.op (.cl .deep Yjl y)]⟩
theorem Xf2.ok:Ydh Go.Proofs.Tryz.prog 77 Xf2.FS:=
 Ytt ⟨Go.Proofs.Tryz.f77,by kernel_rfl,by kernel_rfl,by kernel_rfl⟩ Go.Proofs.Pe.put
def Xei (v:Fs_) (v2:Int) (v3:List UInt8) (v4:Int):Option (Int×Fs_):=
 (Xcy v v2 v3).bind fun v5=>cond (decide (v5≥0)) (some (7,v)) ((Xct v.1).bind fun v6=>(Xba v4 0 (w64 (v6-1))).bind fun v7=>cond (cond (!(!v7)) (inB v4 v.1.length) true) ((some (cond (!v7) true ((v.1.getD v4.toNat Xa).1 == 0))).bind fun v8=>cond v8 (some (4,v)) (cond (inB v2 v.1.length) ((some ((v.1.getD v2.toNat Xa).2.2.2.2.1.length:Int)).bind fun v9=>cond (cond (!(v9 == 6)) (inB v4 v.1.length) true) ((some (cond (v9 == 6) true ((v.1.getD v4.toNat Xa).2.1 == 60))).bind fun v10=>cond v10 (some (2,v)) ((Xf2 v v2 v3 v4).bind fun v11=>cond (inB v4 v11.1.length) (cond ((v11.1.getD v4.toNat Xa).1 == 1) (cond (inB v4 v11.1.length) (cond (inB v4 v11.1.length) ((some (v11.1.set v4.toNat ((v11.1.getD v4.toNat Xa).1,w64 ((v11.1.getD v4.toNat Xa).2.1+1),(v11.1.getD v4.toNat Xa).2.2))).bind fun v12=>some (0,(v12,v11.2))) none) none) (some (0,v11))) none)) none) none)) none)
namespace Xei
def G:Gam:=mkG [(72,Xcy.FS),(97,Xct.FS),(104,Xba.FS),(77,Xf2.FS)]
def pts:List PT:=[.op (.cd Xl),.cs I64,.cs .str,.cs I64]
def FS:FS:=Yef [.mu,.sh,.sh,.sh] pts (fun x=>Xei x.1 x.2.1 x.2.2.1 x.2.2.2.1) fun t=>⟨[.cs I64 t.1],[.op (.cd Xl t.2)]⟩
theorem ok:Ydh PR 59 FS:=
 Ywf Xe Xd Proofs.Tryz.f59 h0 .no (G:=G) (show GOk PR G from .cons Xcy.ok (.cons Xct.ok (.cons Xba.ok (.cons Xf2.ok .nil)))) (L:=mkL []) (l:=[]) hT
  (fun x=>by simp only[Xei,mC,mB,mS,mO,mN];kernel_rfl)
end Xei
def Xf3 (v:Fs_) (v2:List UInt8) (v3:List UInt8):Option (Int×Fs_):=
 (Xeg v v2).bind fun v4=>cond (v4.2 != 0) (some (v4.2,v)) (cond (inB v4.1 v.1.length) (cond ((v.1.getD v4.1.toNat Xa).1 == 2) (some (9,v)) ((Xeh v v3).bind fun v5=>cond (v5.2.2 != 0) (some (v5.2.2,v)) ((Xei v v5.1 v5.2.1 v4.1).bind fun v6=>some (v6.1,v6.2)))) none)
namespace Xf3
def G:Gam:=mkG [(57,Xeg.FS),(58,Xeh.FS),(59,Xei.FS)]
def pts:List PT:=[.op (.cd Xl),.cs .str,.cs .str]
def FS:FS:=Yef [.mu,.sh,.sh] pts (fun x=>Xf3 x.1 x.2.1 x.2.2.1) fun t=>⟨[.cs I64 t.1],[.op (.cd Xl t.2)]⟩
theorem ok:Ydh PR 25 FS:=
 Ywf Xe Xd Proofs.Tryz.f25 h0 .no (G:=G) (show GOk PR G from .cons Xeg.ok (.cons Xeh.ok (.cons Xei.ok .nil))) (L:=mkL []) (l:=[]) hT
  (fun x=>by simp only[Xf3,mC,mB,mS,mO,mN];kernel_rfl)
end Xf3
def Xgs (v:Fs_) (v2:Xq):Option (Xq×Unit×Unit×Unit):=
 some ((v2.1,v2.2.1,v2.2.2.1,v2.2.2.2.1,v2.2.2.2.2.1,(v.1,v.2.1,v.2.2),v2.2.2.2.2.2.2),(),(),())
namespace Xgs
def pts:List PT:=[.op (.cd Xl),.cd Xo]
def FS:FS:=Yef [.mu,.mu] pts (fun x=>Xgs x.1 x.2.1) fun t=>⟨[.cd Xo t.1],[.op (.pr (.dead 1) (.pr (.dead 1) (.cs .unit t.2.1))),.pr (.dead 1) (.pr (.dead 1) (.pr (.dead 1) (.pr (.dead 1) (.pr (.dead 1) (.pr (.pr (.dead 1) (.pr (.dead 1) (.cs .unit t.2.2.1))) (.cs .unit t.2.2.2))))))]⟩
theorem ok:Ydh PR 24 FS:=
 Yv3 Xe Xd Proofs.Tryz.f24 h0 .no (G:=(mkG [])) .nil (L:=mkL []) (l:=[]) hT
  (fun x=>by simp only[Xgs,mC,mB,mS,mO,mN];kernel_rfl)
end Xgs
def Xcz (v:Fs_) (v2:List UInt8) (v3:List UInt8):Option Xq:=
 (Xeb v).bind fun v4=>cond (v4 != 0) (some (v4,0,0,[],[],([],[],()),())) ((Xbr v).bind fun v5=>(Xf3 (v5.1,v5.2.1,v5.2.2) v2 v3).bind fun v6=>(Xgs v6.2 (0,v6.1,0,[],[],([],[],()),())).bind fun v7=>some (v7.1.1,v7.1.2.1,v7.1.2.2.1,v7.1.2.2.2.1,v7.1.2.2.2.2.1,(v7.1.2.2.2.2.2.1.1,v7.1.2.2.2.2.2.1.2.1,v7.1.2.2.2.2.2.1.2.2),v7.1.2.2.2.2.2.2))
namespace Xcz
def G:Gam:=mkG [(22,Xeb.FS),(23,Xbr.FS),(25,Xf3.FS),(24,Xgs.FS)]
def pts:List PT:=[.cs Xl,.cs .str,.cs .str]
def FS:FS:=Yef [.sh,.sh,.sh] pts (fun x=>Xcz x.1 x.2.1 x.2.2.1) fun t=>⟨[.cd Xo t],[]⟩
theorem ok:Ydh PR 8 FS:=
 Ywf Xe Xd Proofs.Tryz.f8 ⟨[3],[],[],0⟩ .no (G:=G) (show GOk PR G from .cons Xeb.ok (.cons Xbr.ok (.cons Xf3.ok (.cons Xgs.ok .nil)))) (L:=mkL []) (l:=[]) hT
  (fun x=>by simp only[Xcz,mC,mB,mS,mO,mN];kernel_rfl)
end Xcz
def Xbv.B (a:List Int) (b:List Int) (i_:Int):Option (Int⊕((Bool⊕Unit))):=
 cond (decide (i_<(a.length:Int))) (cond (inB i_ a.length) (cond (inB i_ b.length) (cond ((a.getD i_.toNat 0) != (b.getD i_.toNat 0)) (some (.inr (.inl false))) (some (.inl (w64 (i_+1))))) none) none) (some (.inr (.inr ())))
def Xbv (a:List Int) (b:List Int):Int→Option ((Bool⊕Unit)):=
 Yam fun s=>Xbv.B a b s
def Xc0 (a:List Int) (b:List Int):Option Bool:=
 cond ((a.length:Int) != (b.length:Int)) (some false) ((Xbv a b 0).bind fun o=>sel o (fun b2=>some b2) (fun c=>some true))
namespace Xbv
noncomputable def c:=Yaq (Yal Proofs.Tryz.f26) [1,1,0,1,0,0]
def sp:SP:=⟨[(0,.cs SB),(1,.cs SB),(5,.cs I64)],[]⟩
def fr:=Yix sp (fun x s=>Xbv.B x.1.1 x.1.2.1 s) (fun x=>x.1.2.2.1) fun x (oo0:(Bool⊕Unit)) _ kk0=>sel oo0 (fun bb0=>kk0 (.rt) ⟨[(4,.cs .bool bb0)],[]⟩) (fun cc0=>kk0 (.ex 0) ⟨[],[]⟩)
theorem ok:Ya5 PR 26 2 (.loop c) fr:=
 Ysy Xe Xd h0 .no (G:=(mkG [])) .nil (L:=mkL []) (l:=[]) hT [(0,([],[]))] ([4],[]) (fun x s=>((x.1.1,x.1.2.1,s,x.1.2.2.2),x.2))
  (fun x s=>by simp only[B,mC,mB,mS,mO,mN];kernel_rfl)
end Xbv
namespace Xc0
def pts:List PT:=[.cs SB,.cs SB]
def FS:FS:=Yef [.sh,.sh] pts (fun x=>Xc0 x.1 x.2.1) fun t=>⟨[.cs .bool t],[]⟩
theorem ok:Ydh PR 26 FS:=
 Ywf Xe Xd Proofs.Tryz.f26 h0 (.R (.R (.L (.R (.one (.fr 0)))))) (G:=(mkG [])) .nil (L:=mkL [(0,Xbv.fr)]) (l:=[(0,.loop Xbv.c)]) ⟨Lam.cons Xbv.ok,trivial⟩
  (fun x=>by simp only[Xc0,mC,mB,mS,mO,mN];kernel_rfl)
end Xc0
def Xbw.B (a:List (List UInt8)) (b:List (List UInt8)) (i_:Int):Option (Int⊕((Bool⊕Unit))):=
 cond (decide (i_<(a.length:Int))) (cond (inB i_ a.length) (cond (inB i_ b.length) (cond (!((a.getD i_.toNat []) == (b.getD i_.toNat []))) (some (.inr (.inl false))) (some (.inl (w64 (i_+1))))) none) none) (some (.inr (.inr ())))
def Xbw (a:List (List UInt8)) (b:List (List UInt8)):Int→Option ((Bool⊕Unit)):=
 Yam fun s=>Xbw.B a b s
def Xej (a:List (List UInt8)) (b:List (List UInt8)):Option Bool:=
 cond ((a.length:Int) != (b.length:Int)) (some false) ((Xbw a b 0).bind fun o=>sel o (fun b2=>some b2) (fun c=>some true))
namespace Xbw
noncomputable def c:=Yaq (Yal Proofs.Tryz.f27) [1,1,0,1,0,0]
def sp:SP:=⟨[(0,.cs (.sl .str)),(1,.cs (.sl .str)),(5,.cs I64)],[]⟩
def fr:=Yix sp (fun x s=>Xbw.B x.1.1 x.1.2.1 s) (fun x=>x.1.2.2.1) fun x (oo0:(Bool⊕Unit)) _ kk0=>sel oo0 (fun bb0=>kk0 (.rt) ⟨[(4,.cs .bool bb0)],[]⟩) (fun cc0=>kk0 (.ex 0) ⟨[],[]⟩)
theorem ok:Ya5 PR 26 2 (.loop c) fr:=
 Ysy Xe Xd h0 .no (G:=(mkG [])) .nil (L:=mkL []) (l:=[]) hT [(0,([],[]))] ([4],[]) (fun x s=>((x.1.1,x.1.2.1,s,x.1.2.2.2),x.2))
  (fun x s=>by simp only[B,mC,mB,mS,mO,mN];kernel_rfl)
end Xbw
namespace Xej
def pts:List PT:=[.cs (.sl .str),.cs (.sl .str)]
def FS:FS:=Yef [.sh,.sh] pts (fun x=>Xej x.1 x.2.1) fun t=>⟨[.cs .bool t],[]⟩
theorem ok:Ydh PR 27 FS:=
 Ywf Xe Xd Proofs.Tryz.f27 h0 (.R (.R (.L (.R (.one (.fr 0)))))) (G:=(mkG [])) .nil (L:=mkL [(0,Xbw.fr)]) (l:=[(0,.loop Xbw.c)]) ⟨Lam.cons Xbw.ok,trivial⟩
  (fun x=>by simp only[Xej,mC,mB,mS,mO,mN];kernel_rfl)
end Xej
def Xbx.B (a:List Int) (b:List Int) (i_:Int):Option (Int⊕((Bool⊕Unit))):=
 cond (decide (i_<(a.length:Int))) (cond (inB i_ a.length) (cond (inB i_ b.length) (cond ((a.getD i_.toNat 0) != (b.getD i_.toNat 0)) (some (.inr (.inl false))) (some (.inl (w64 (i_+1))))) none) none) (some (.inr (.inr ())))
def Xbx (a:List Int) (b:List Int):Int→Option ((Bool⊕Unit)):=
 Yam fun s=>Xbx.B a b s
def Xek (a:List Int) (b:List Int):Option Bool:=
 cond ((a.length:Int) != (b.length:Int)) (some false) ((Xbx a b 0).bind fun o=>sel o (fun b2=>some b2) (fun c=>some true))
namespace Xbx
noncomputable def c:=Yaq (Yal Proofs.Tryz.f105) [1,1,0,1,0,0]
def sp:SP:=⟨[(0,.cs SI),(1,.cs SI),(5,.cs I64)],[]⟩
def fr:=Yix sp (fun x s=>Xbx.B x.1.1 x.1.2.1 s) (fun x=>x.1.2.2.1) fun x (oo0:(Bool⊕Unit)) _ kk0=>sel oo0 (fun bb0=>kk0 (.rt) ⟨[(4,.cs .bool bb0)],[]⟩) (fun cc0=>kk0 (.ex 0) ⟨[],[]⟩)
theorem ok:Ya5 PR 26 2 (.loop c) fr:=
 Ysy Xe Xd h0 .no (G:=(mkG [])) .nil (L:=mkL []) (l:=[]) hT [(0,([],[]))] ([4],[]) (fun x s=>((x.1.1,x.1.2.1,s,x.1.2.2.2),x.2))
  (fun x s=>by simp only[B,mC,mB,mS,mO,mN];kernel_rfl)
end Xbx
namespace Xek
def pts:List PT:=[.cs SI,.cs SI]
def FS:FS:=Yef [.sh,.sh] pts (fun x=>Xek x.1 x.2.1) fun t=>⟨[.cs .bool t],[]⟩
theorem ok:Ydh PR 105 FS:=
 Ywf Xe Xd Proofs.Tryz.f105 h0 (.R (.R (.L (.R (.one (.fr 0)))))) (G:=(mkG [])) .nil (L:=mkL [(0,Xbx.fr)]) (l:=[(0,.loop Xbx.c)]) ⟨Lam.cons Xbx.ok,trivial⟩
  (fun x=>by simp only[Xek,mC,mB,mS,mO,mN];kernel_rfl)
end Xek
def Xel (a:Xf) (b:Xf):Option Bool:=
 cond (!(a.1 == b.1)) (some false) (cond (a.2.1 != b.2.1) (some false) (some true))
namespace Xel
def pts:List PT:=[.cs Xg,.cs Xg]
def FS:FS:=Yef [.sh,.sh] pts (fun x=>Xel x.1 x.2.1) fun t=>⟨[.cs .bool t],[]⟩
theorem ok:Ydh PR 131 FS:=
 Ywf Xe Xd Proofs.Tryz.f131 ⟨[2,3],[],[],0⟩ .no (G:=(mkG [])) .nil (L:=mkL []) (l:=[]) hT
  (fun x=>by simp only[Xel,mC,mB,mS,mO,mN];kernel_rfl)
end Xel
def Xby.B (a:List Xf) (b:List Xf) (i_:Int):Option (Int⊕((Bool⊕Unit))):=
 cond (decide (i_<(a.length:Int))) (cond (inB i_ a.length) (cond (inB i_ b.length) ((Xel (a.getD i_.toNat Xn) (b.getD i_.toNat Xn)).bind fun r=>cond (!r) (some (.inr (.inl false))) (some (.inl (w64 (i_+1))))) none) none) (some (.inr (.inr ())))
def Xby (a:List Xf) (b:List Xf):Int→Option ((Bool⊕Unit)):=
 Yam fun s=>Xby.B a b s
def Xbz (a:List Xf) (b:List Xf):Option Bool:=
 cond ((a.length:Int) != (b.length:Int)) (some false) ((Xby a b 0).bind fun o=>sel o (fun b2=>some b2) (fun c=>some true))
namespace Xbz
def G:Gam:=mkG [(131,Xel.FS)]
theorem Gok:GOk PR G:=.cons Xel.ok .nil
end Xbz
namespace Xby
noncomputable def c:=Yaq (Yal Proofs.Tryz.f106) [1,1,0,1,0,0]
def sp:SP:=⟨[(0,.cs (.sl Xg)),(1,.cs (.sl Xg)),(5,.cs I64)],[]⟩
def fr:=Yix sp (fun x s=>Xby.B x.1.1 x.1.2.1 s) (fun x=>x.1.2.2.1) fun x (oo0:(Bool⊕Unit)) _ kk0=>sel oo0 (fun bb0=>kk0 (.rt) ⟨[(4,.cs .bool bb0)],[]⟩) (fun cc0=>kk0 (.ex 0) ⟨[],[]⟩)
theorem ok:Ya5 PR 27 2 (.loop c) fr:=
 Ysy Xe Xd h0 .no (G:=Xbz.G) Xbz.Gok (L:=mkL []) (l:=[]) hT [(0,([],[]))] ([4],[]) (fun x s=>((x.1.1,x.1.2.1,s,x.1.2.2.2),x.2))
  (fun x s=>by simp only[B,mC,mB,mS,mO,mN];kernel_rfl)
end Xby
namespace Xbz
def pts:List PT:=[.cs (.sl Xg),.cs (.sl Xg)]
def FS:FS:=Yef [.sh,.sh] pts (fun x=>Xbz x.1 x.2.1) fun t=>⟨[.cs .bool t],[]⟩
theorem ok:Ydh PR 106 FS:=
 Ywf Xe Xd Proofs.Tryz.f106 h0 (.R (.R (.L (.R (.one (.fr 0)))))) (G:=G) Gok (L:=mkL [(0,Xby.fr)]) (l:=[(0,.loop Xby.c)]) ⟨Lam.cons Xby.ok,trivial⟩
  (fun x=>by simp only[Xbz,mC,mB,mS,mO,mN];kernel_rfl)
end Xbz
def Xem (a:Xb) (b:Xb):Option Bool:=
 cond (a.1 != b.1) (some false) (cond (a.2.1 != b.2.1) (some false) (cond (a.2.2.1 != b.2.2.1) (some false) ((Xek a.2.2.2.1 b.2.2.2.1).bind fun r=>cond (!r) (some false) ((Xbz a.2.2.2.2.1 b.2.2.2.2.1).bind fun r2=>cond (!r2) (some false) (some true)))))
namespace Xem
def G:Gam:=mkG [(105,Xek.FS),(106,Xbz.FS)]
def pts:List PT:=[.cs Xc,.cs Xc]
def FS:FS:=Yef [.sh,.sh] pts (fun x=>Xem x.1 x.2.1) fun t=>⟨[.cs .bool t],[]⟩
theorem ok:Ydh PR 60 FS:=
 Ywf Xe Xd Proofs.Tryz.f60 ⟨[2,3],[],[],0⟩ .no (G:=G) (show GOk PR G from .cons Xek.ok (.cons Xbz.ok .nil)) (L:=mkL []) (l:=[]) hT
  (fun x=>by simp only[Xem,mC,mB,mS,mO,mN];kernel_rfl)
end Xem
def Xb0.B (a:List Xb) (b:List Xb) (i_:Int):Option (Int⊕((Bool⊕Unit))):=
 cond (decide (i_<(a.length:Int))) (cond (inB i_ a.length) (cond (inB i_ b.length) ((Xem (a.getD i_.toNat Xa) (b.getD i_.toNat Xa)).bind fun r=>cond (!r) (some (.inr (.inl false))) (some (.inl (w64 (i_+1))))) none) none) (some (.inr (.inr ())))
def Xb0 (a:List Xb) (b:List Xb):Int→Option ((Bool⊕Unit)):=
 Yam fun s=>Xb0.B a b s
def Xb1 (a:List Xb) (b:List Xb):Option Bool:=
 cond ((a.length:Int) != (b.length:Int)) (some false) ((Xb0 a b 0).bind fun o=>sel o (fun b2=>some b2) (fun c=>some true))
namespace Xb1
def G:Gam:=mkG [(60,Xem.FS)]
theorem Gok:GOk PR G:=.cons Xem.ok .nil
end Xb1
namespace Xb0
noncomputable def c:=Yaq (Yal Proofs.Tryz.f28) [1,1,0,1,0,0]
def sp:SP:=⟨[(0,.cs (.sl Xc)),(1,.cs (.sl Xc)),(5,.cs I64)],[]⟩
def fr:=Yix sp (fun x s=>Xb0.B x.1.1 x.1.2.1 s) (fun x=>x.1.2.2.1) fun x (oo0:(Bool⊕Unit)) _ kk0=>sel oo0 (fun bb0=>kk0 (.rt) ⟨[(4,.cs .bool bb0)],[]⟩) (fun cc0=>kk0 (.ex 0) ⟨[],[]⟩)
theorem ok:Ya5 PR 27 2 (.loop c) fr:=
 Ysy Xe Xd h0 .no (G:=Xb1.G) Xb1.Gok (L:=mkL []) (l:=[]) hT [(0,([],[]))] ([4],[]) (fun x s=>((x.1.1,x.1.2.1,s,x.1.2.2.2),x.2))
  (fun x s=>by simp only[B,mC,mB,mS,mO,mN];kernel_rfl)
end Xb0
namespace Xb1
def pts:List PT:=[.cs (.sl Xc),.cs (.sl Xc)]
def FS:FS:=Yef [.sh,.sh] pts (fun x=>Xb1 x.1 x.2.1) fun t=>⟨[.cs .bool t],[]⟩
theorem ok:Ydh PR 28 FS:=
 Ywf Xe Xd Proofs.Tryz.f28 h0 (.R (.R (.L (.R (.one (.fr 0)))))) (G:=G) Gok (L:=mkL [(0,Xb0.fr)]) (l:=[(0,.loop Xb0.c)]) ⟨Lam.cons Xb0.ok,trivial⟩
  (fun x=>by simp only[Xb1,mC,mB,mS,mO,mN];kernel_rfl)
end Xb1
def Xb2.B (a:List (List Int)) (b:List (List Int)) (i_:Int):Option (Int⊕((Bool⊕Unit))):=
 cond (decide (i_<(a.length:Int))) (cond (inB i_ a.length) (cond (inB i_ b.length) ((Xc0 (a.getD i_.toNat []) (b.getD i_.toNat [])).bind fun r=>cond (!r) (some (.inr (.inl false))) (some (.inl (w64 (i_+1))))) none) none) (some (.inr (.inr ())))
def Xb2 (a:List (List Int)) (b:List (List Int)):Int→Option ((Bool⊕Unit)):=
 Yam fun s=>Xb2.B a b s
def Xb3 (a:List (List Int)) (b:List (List Int)):Option Bool:=
 cond ((a.length:Int) != (b.length:Int)) (some false) ((Xb2 a b 0).bind fun o=>sel o (fun b2=>some b2) (fun c=>some true))
namespace Xb3
def G:Gam:=mkG [(26,Xc0.FS)]
theorem Gok:GOk PR G:=.cons Xc0.ok .nil
end Xb3
namespace Xb2
noncomputable def c:=Yaq (Yal Proofs.Tryz.f29) [1,1,0,1,0,0]
def sp:SP:=⟨[(0,.cs (.sl SB)),(1,.cs (.sl SB)),(5,.cs I64)],[]⟩
def fr:=Yix sp (fun x s=>Xb2.B x.1.1 x.1.2.1 s) (fun x=>x.1.2.2.1) fun x (oo0:(Bool⊕Unit)) _ kk0=>sel oo0 (fun bb0=>kk0 (.rt) ⟨[(4,.cs .bool bb0)],[]⟩) (fun cc0=>kk0 (.ex 0) ⟨[],[]⟩)
theorem ok:Ya5 PR 27 2 (.loop c) fr:=
 Ysy Xe Xd h0 .no (G:=Xb3.G) Xb3.Gok (L:=mkL []) (l:=[]) hT [(0,([],[]))] ([4],[]) (fun x s=>((x.1.1,x.1.2.1,s,x.1.2.2.2),x.2))
  (fun x s=>by simp only[B,mC,mB,mS,mO,mN];kernel_rfl)
end Xb2
namespace Xb3
def pts:List PT:=[.cs (.sl SB),.cs (.sl SB)]
def FS:FS:=Yef [.sh,.sh] pts (fun x=>Xb3 x.1 x.2.1) fun t=>⟨[.cs .bool t],[]⟩
theorem ok:Ydh PR 29 FS:=
 Ywf Xe Xd Proofs.Tryz.f29 h0 (.R (.R (.L (.R (.one (.fr 0)))))) (G:=G) Gok (L:=mkL [(0,Xb2.fr)]) (l:=[(0,.loop Xb2.c)]) ⟨Lam.cons Xb2.ok,trivial⟩
  (fun x=>by simp only[Xb3,mC,mB,mS,mO,mN];kernel_rfl)
end Xb3
def Xc1 (a:Fs_) (b:Fs_):Option Bool:=
 (Xb1 a.1 b.1).bind fun r=>cond (!r) (some false) ((Xb3 a.2.1 b.2.1).bind fun r2=>cond (!r2) (some false) (some true))
namespace Xc1
def G:Gam:=mkG [(28,Xb1.FS),(29,Xb3.FS)]
def pts:List PT:=[.cs Xl,.cs Xl]
def FS:FS:=Yef [.sh,.sh] pts (fun x=>Xc1 x.1 x.2.1) fun t=>⟨[.cs .bool t],[]⟩
theorem ok:Ydh PR 10 FS:=
 Ywf Xe Xd Proofs.Tryz.f10 ⟨[2,3],[],[],0⟩ .no (G:=G) (show GOk PR G from .cons Xb1.ok (.cons Xb3.ok .nil)) (L:=mkL []) (l:=[]) hT
  (fun x=>by simp only[Xc1,mC,mB,mS,mO,mN];kernel_rfl)
end Xc1
def Xdb (a:Xq) (b:Xq):Option Bool:=
 cond (a.1 != b.1) (some false) (cond (a.2.1 != b.2.1) (some false) (cond (a.2.2.1 != b.2.2.1) (some false) ((Xc0 a.2.2.2.1 b.2.2.2.1).bind fun r=>cond (!r) (some false) ((Xej a.2.2.2.2.1 b.2.2.2.2.1).bind fun r2=>cond (!r2) (some false) ((Xc1 a.2.2.2.2.2.1 b.2.2.2.2.2.1).bind fun r3=>cond (!r3) (some false) (some true))))))
namespace Xdb
def G:Gam:=mkG [(26,Xc0.FS),(27,Xej.FS),(10,Xc1.FS)]
def pts:List PT:=[.cs Xo,.cs Xo]
def FS:FS:=Yef [.sh,.sh] pts (fun x=>Xdb x.1 x.2.1) fun t=>⟨[.cs .bool t],[]⟩
theorem ok:Ydh PR 9 FS:=
 Ywf Xe Xd Proofs.Tryz.f9 ⟨[2,3],[],[],0⟩ .no (G:=G) (show GOk PR G from .cons Xc0.ok (.cons Xej.ok (.cons Xc1.ok .nil))) (L:=mkL []) (l:=[]) hT
  (fun x=>by simp only[Xdb,mC,mB,mS,mO,mN];kernel_rfl)
end Xdb
def Xau.B (k_:Int) (i_:Int) (a_:List Int):Option ((Int×Int×List Int)⊕(Int×List Int)):=
 cond (decide (i_<(a_.length:Int))) (cond (inB i_ a_.length) (some (.inl (w64 (k_+1),w64 (i_+1),a_.set i_.toNat k_))) none) (some (.inr (k_,a_)))
def Xau :(Int×Int×List Int)→Option (Int×List Int):=
 Yam fun s=>Xau.B s.1 s.2.1 s.2.2
def Xen (a:List Int) (k:Int):Option (Int×List Int):=
 (Xau (k,0,a)).bind fun o=>some (o.1,o.2)
namespace Xau
noncomputable def c:=Yaq (Yal Proofs.Tryz.f61) [1,0,1,0,0]
def sp:SP:=⟨[(0,.seg 0 []),(1,.cs I64),(5,.cs I64)],[(0,.reg,.cd SI)]⟩
def fr:=Yix sp (fun x s=>Xau.B  s.1 s.2.1 s.2.2) (fun x=>(x.1.2.1,x.1.2.2.1,x.2.1)) fun x (bb0:Int×List Int) _ kk0=>kk0 (.ex 0) ⟨[(1,.cs I64 bb0.1)],[sr 0 (.cd SI bb0.2)]⟩
theorem ok:Ya5 PR 19 2 (.loop c) fr:=
 Yv9 Xe Xd h0 [(0,([1],[0]))] (fun x s=>((x.1.1,s.1,s.2.1,x.1.2.2.2),(s.2.2,x.2.2)))
  (fun x s=>by simp only[B,mC,mB,mS,mO,mN];kernel_rfl)
end Xau
namespace Xen
def pts:List PT:=[.cd SI,.cs I64]
def FS:FS:=Yef [.mu,.sh] pts (fun x=>Xen x.1 x.2.1) fun t=>⟨[.cs I64 t.1],[.cd SI t.2]⟩
theorem ok:Ydh PR 61 FS:=
 Ywf Xe Xd Proofs.Tryz.f61 h0 (.R (.L (.R (.one (.fr 0))))) (G:=(mkG [])) .nil (L:=mkL [(0,Xau.fr)]) (l:=[(0,.loop Xau.c)]) ⟨Lam.cons Xau.ok,trivial⟩
  (fun x=>by simp only[Xen,mC,mB,mS,mO,mN];kernel_rfl)
end Xen
def Xb4.B (k_:Int) (out_:List UInt8):Option ((Int×List UInt8)⊕(List UInt8)):=
 cond (decide (k_>0)) (cond (!((10:Int) == 0)) ((some (IntKind.u8.wrap (w64 ((48:Int)+(k_.tmod 10))))).bind fun v=>cond (decide ((([v]).map fun n=>UInt8.ofNat n.toNat).length+out_.length≤2147483648)) (cond (!((10:Int) == 0)) (some (.inl (w64 (k_.tdiv 10),(([v]).map fun n=>UInt8.ofNat n.toNat)++out_))) none) none) none) (some (.inr out_))
def Xb4 :(Int×List UInt8)→Option (List UInt8):=
 Yam fun s=>Xb4.B s.1 s.2
def Xaa (k:Int):Option (List UInt8):=
 cond (decide (k≤0)) (some ([109,48]:List UInt8)) ((Xb4 (k,([]:List UInt8))).bind fun o=>cond (decide (([109]:List UInt8).length+o.length≤2147483648)) (some (([109]:List UInt8)++o)) none)
namespace Xb4
noncomputable def c:=Yaq (Yal Proofs.Tryz.f63) [1,1,1,0,0,0]
def sp:SP:=⟨[(0,.cs I64),(3,.cs .str)],[]⟩
def fr:=Yix sp (fun x s=>Xb4.B  s.1 s.2) (fun x=>(x.1.1,x.1.2.1)) fun x (bb0:List UInt8) _ kk0=>kk0 (.ex 0) ⟨[(3,.cs .str bb0)],[]⟩
theorem ok:Ya5 PR 20 1 (.loop c) fr:=
 Yv9 Xe Xd h0 [(0,([3],[]))] (fun x s=>((s.1,s.2,x.1.2.2),x.2))
  (fun x s=>by simp only[B,mC,mB,mS,mO,mN];kernel_rfl)
end Xb4
namespace Xaa
def pts:List PT:=[.cs I64]
def FS:FS:=Yef [.sh] pts (fun x=>Xaa x.1) fun t=>⟨[.cs .str t],[]⟩
theorem ok:Ydh PR 63 FS:=
 Ywf Xe Xd Proofs.Tryz.f63 h0 (.R (.R (.R (.L (.one (.fr 0)))))) (G:=(mkG [])) .nil (L:=mkL [(0,Xb4.fr)]) (l:=[(0,.loop Xb4.c)]) ⟨Lam.cons Xb4.ok,trivial⟩
  (fun x=>by simp only[Xaa,mC,mB,mS,mO,mN];kernel_rfl)
end Xaa
def Xav.B (k_:Int) (i_:Int) (a_:List Xf):Option ((Int×Int×List Xf)⊕(Int×List Xf)):=
 cond (decide (i_<(a_.length:Int))) ((Xaa k_).bind fun r=>cond (inB i_ a_.length) ((some (a_.set i_.toNat (r,(a_.getD i_.toNat Xn).2))).bind fun a_2=>cond (inB i_ a_2.length) ((some (a_2.set i_.toNat ((a_2.getD i_.toNat Xn).1,w64 (k_+1),(a_2.getD i_.toNat Xn).2.2))).bind fun a_3=>some (.inl (w64 ((w64 (k_+1))+1),w64 (i_+1),a_3))) none) none) (some (.inr (k_,a_)))
def Xav :(Int×Int×List Xf)→Option (Int×List Xf):=
 Yam fun s=>Xav.B s.1 s.2.1 s.2.2
def Xb5 (a:List Xf) (k:Int):Option (Int×List Xf):=
 (Xav (k,0,a)).bind fun o=>some (o.1,o.2)
namespace Xb5
def G:Gam:=mkG [(63,Xaa.FS)]
theorem Gok:GOk PR G:=.cons Xaa.ok .nil
end Xb5
namespace Xav
noncomputable def c:=Yaq (Yal Proofs.Tryz.f62) [1,0,1,0,0]
def sp:SP:=⟨[(0,.seg 0 []),(1,.cs I64),(5,.cs I64)],[(0,.reg,.cd (.sl Xg))]⟩
def fr:=Yix sp (fun x s=>Xav.B  s.1 s.2.1 s.2.2) (fun x=>(x.1.2.1,x.1.2.2.1,x.2.1)) fun x (bb0:Int×List Xf) _ kk0=>kk0 (.ex 0) ⟨[(1,.cs I64 bb0.1)],[sr 0 (.cd (.sl Xg) bb0.2)]⟩
theorem ok:Ya5 PR 28 2 (.loop c) fr:=
 Ywh Xe Xd h0 (G:=Xb5.G) Xb5.Gok [(0,([1],[0]))] (fun x s=>((x.1.1,s.1,s.2.1,x.1.2.2.2),(s.2.2,x.2.2)))
  (fun x s=>by simp only[B,mC,mB,mS,mO,mN];kernel_rfl)
end Xav
namespace Xb5
def pts:List PT:=[.cd (.sl Xg),.cs I64]
def FS:FS:=Yef [.mu,.sh] pts (fun x=>Xb5 x.1 x.2.1) fun t=>⟨[.cs I64 t.1],[.cd (.sl Xg) t.2]⟩
theorem ok:Ydh PR 62 FS:=
 Ywf Xe Xd Proofs.Tryz.f62 h0 (.R (.L (.R (.one (.fr 0))))) (G:=G) Gok (L:=mkL [(0,Xav.fr)]) (l:=[(0,.loop Xav.c)]) ⟨Lam.cons Xav.ok,trivial⟩
  (fun x=>by simp only[Xb5,mC,mB,mS,mO,mN];kernel_rfl)
end Xb5
def Xaw.B (k_:Int) (i_:Int) (a_:List Xb):Option ((Int×Int×List Xb)⊕(Int×List Xb)):=
 cond (decide (i_<(a_.length:Int))) (cond (inB i_ a_.length) ((some (a_.set i_.toNat (k_,(a_.getD i_.toNat Xa).2))).bind fun a_2=>cond (inB i_ a_2.length) ((some (a_2.set i_.toNat ((a_2.getD i_.toNat Xa).1,w64 (k_+1),(a_2.getD i_.toNat Xa).2.2))).bind fun a_3=>cond (inB i_ a_3.length) ((some (a_3.set i_.toNat ((a_3.getD i_.toNat Xa).1,(a_3.getD i_.toNat Xa).2.1,w64 ((w64 (k_+1))+1),(a_3.getD i_.toNat Xa).2.2.2))).bind fun a_4=>cond (inB i_ a_4.length) ((Xen (a_4.getD i_.toNat Xa).2.2.2.1 (w64 ((w64 ((w64 (k_+1))+1))+1))).bind fun r=>cond (inB i_ ((a_4.set i_.toNat ((a_4.getD i_.toNat Xa).1,(a_4.getD i_.toNat Xa).2.1,(a_4.getD i_.toNat Xa).2.2.1,r.2,(a_4.getD i_.toNat Xa).2.2.2.2)).length)) ((Xb5 ((a_4.set i_.toNat ((a_4.getD i_.toNat Xa).1,(a_4.getD i_.toNat Xa).2.1,(a_4.getD i_.toNat Xa).2.2.1,r.2,(a_4.getD i_.toNat Xa).2.2.2.2)).getD i_.toNat Xa).2.2.2.2.1 r.1).bind fun r2=>some (.inl (r2.1,w64 (i_+1),(a_4.set i_.toNat ((a_4.getD i_.toNat Xa).1,(a_4.getD i_.toNat Xa).2.1,(a_4.getD i_.toNat Xa).2.2.1,r.2,(a_4.getD i_.toNat Xa).2.2.2.2)).set i_.toNat (((a_4.set i_.toNat ((a_4.getD i_.toNat Xa).1,(a_4.getD i_.toNat Xa).2.1,(a_4.getD i_.toNat Xa).2.2.1,r.2,(a_4.getD i_.toNat Xa).2.2.2.2)).getD i_.toNat Xa).1,((a_4.set i_.toNat ((a_4.getD i_.toNat Xa).1,(a_4.getD i_.toNat Xa).2.1,(a_4.getD i_.toNat Xa).2.2.1,r.2,(a_4.getD i_.toNat Xa).2.2.2.2)).getD i_.toNat Xa).2.1,((a_4.set i_.toNat ((a_4.getD i_.toNat Xa).1,(a_4.getD i_.toNat Xa).2.1,(a_4.getD i_.toNat Xa).2.2.1,r.2,(a_4.getD i_.toNat Xa).2.2.2.2)).getD i_.toNat Xa).2.2.1,((a_4.set i_.toNat ((a_4.getD i_.toNat Xa).1,(a_4.getD i_.toNat Xa).2.1,(a_4.getD i_.toNat Xa).2.2.1,r.2,(a_4.getD i_.toNat Xa).2.2.2.2)).getD i_.toNat Xa).2.2.2.1,r2.2,((a_4.set i_.toNat ((a_4.getD i_.toNat Xa).1,(a_4.getD i_.toNat Xa).2.1,(a_4.getD i_.toNat Xa).2.2.1,r.2,(a_4.getD i_.toNat Xa).2.2.2.2)).getD i_.toNat Xa).2.2.2.2.2)))) none) none) none) none) none) (some (.inr (k_,a_)))
def Xaw :(Int×Int×List Xb)→Option (Int×List Xb):=
 Yam fun s=>Xaw.B s.1 s.2.1 s.2.2
def Xb6 (a:List Xb) (k:Int):Option (Int×List Xb):=
 (Xaw (k,0,a)).bind fun o=>some (o.1,o.2)
namespace Xb6
def G:Gam:=mkG [(61,Xen.FS),(62,Xb5.FS)]
theorem Gok:GOk PR G:=.cons Xen.ok (.cons Xb5.ok .nil)
end Xb6
namespace Xaw
noncomputable def c:=Yaq (Yal Proofs.Tryz.f30) [1,0,1,0,0]
def sp:SP:=⟨[(0,.seg 0 []),(1,.cs I64),(5,.cs I64)],[(0,.reg,.cd (.sl Xc))]⟩
def fr:=Yix sp (fun x s=>Xaw.B  s.1 s.2.1 s.2.2) (fun x=>(x.1.2.1,x.1.2.2.1,x.2.1)) fun x (bb0:Int×List Xb) _ kk0=>kk0 (.ex 0) ⟨[(1,.cs I64 bb0.1)],[sr 0 (.cd (.sl Xc) bb0.2)]⟩
theorem ok:Ya5 PR 48 2 (.loop c) fr:=
 Ywh Xe Xd h0 (G:=Xb6.G) Xb6.Gok [(0,([1],[0]))] (fun x s=>((x.1.1,s.1,s.2.1,x.1.2.2.2),(s.2.2,x.2.2)))
  (fun x s=>by simp only[B,mC,mB,mS,mO,mN];kernel_rfl)
end Xaw
namespace Xb6
def pts:List PT:=[.cd (.sl Xc),.cs I64]
def FS:FS:=Yef [.mu,.sh] pts (fun x=>Xb6 x.1 x.2.1) fun t=>⟨[.cs I64 t.1],[.cd (.sl Xc) t.2]⟩
theorem ok:Ydh PR 30 FS:=
 Ywf Xe Xd Proofs.Tryz.f30 h0 (.R (.L (.R (.one (.fr 0))))) (G:=G) Gok (L:=mkL [(0,Xaw.fr)]) (l:=[(0,.loop Xaw.c)]) ⟨Lam.cons Xaw.ok,trivial⟩
  (fun x=>by simp only[Xb6,mC,mB,mS,mO,mN];kernel_rfl)
end Xb6
def Xax.B (k_:Int) (i_:Int) (a_:List Int):Option ((Int×Int×List Int)⊕(Int×List Int)):=
 cond (decide (i_<(a_.length:Int))) (cond (inB i_ a_.length) (some (.inl (w64 (k_+1),w64 (i_+1),a_.set i_.toNat (IntKind.u8.wrap k_)))) none) (some (.inr (k_,a_)))
def Xax :(Int×Int×List Int)→Option (Int×List Int):=
 Yam fun s=>Xax.B s.1 s.2.1 s.2.2
def Xc2 (a:List Int) (k:Int):Option (Int×List Int):=
 (Xax (k,0,a)).bind fun o=>some (o.1,o.2)
namespace Xax
noncomputable def c:=Yaq (Yal Proofs.Tryz.f32) [1,0,1,0,0]
def sp:SP:=⟨[(0,.seg 0 []),(1,.cs I64),(5,.cs I64)],[(0,.reg,.cd SB)]⟩
def fr:=Yix sp (fun x s=>Xax.B  s.1 s.2.1 s.2.2) (fun x=>(x.1.2.1,x.1.2.2.1,x.2.1)) fun x (bb0:Int×List Int) _ kk0=>kk0 (.ex 0) ⟨[(1,.cs I64 bb0.1)],[sr 0 (.cd SB bb0.2)]⟩
theorem ok:Ya5 PR 20 2 (.loop c) fr:=
 Yv9 Xe Xd h0 [(0,([1],[0]))] (fun x s=>((x.1.1,s.1,s.2.1,x.1.2.2.2),(s.2.2,x.2.2)))
  (fun x s=>by simp only[B,mC,mB,mS,mO,mN];kernel_rfl)
end Xax
namespace Xc2
def pts:List PT:=[.cd SB,.cs I64]
def FS:FS:=Yef [.mu,.sh] pts (fun x=>Xc2 x.1 x.2.1) fun t=>⟨[.cs I64 t.1],[.cd SB t.2]⟩
theorem ok:Ydh PR 32 FS:=
 Ywf Xe Xd Proofs.Tryz.f32 h0 (.R (.L (.R (.one (.fr 0))))) (G:=(mkG [])) .nil (L:=mkL [(0,Xax.fr)]) (l:=[(0,.loop Xax.c)]) ⟨Lam.cons Xax.ok,trivial⟩
  (fun x=>by simp only[Xc2,mC,mB,mS,mO,mN];kernel_rfl)
end Xc2
def Xay.B (k_:Int) (i_:Int) (a_:List (List Int)):Option ((Int×Int×List (List Int))⊕(Int×List (List Int))):=
 cond (decide (i_<(a_.length:Int))) (cond (inB i_ a_.length) ((Xc2 (a_.getD i_.toNat []) k_).bind fun r=>some (.inl (r.1,w64 (i_+1),a_.set i_.toNat r.2))) none) (some (.inr (k_,a_)))
def Xay :(Int×Int×List (List Int))→Option (Int×List (List Int)):=
 Yam fun s=>Xay.B s.1 s.2.1 s.2.2
def Xb7 (a:List (List Int)) (k:Int):Option (Int×List (List Int)):=
 (Xay (k,0,a)).bind fun o=>some (o.1,o.2)
namespace Xb7
def G:Gam:=mkG [(32,Xc2.FS)]
theorem Gok:GOk PR G:=.cons Xc2.ok .nil
end Xb7
namespace Xay
noncomputable def c:=Yaq (Yal Proofs.Tryz.f31) [1,0,1,0,0]
def sp:SP:=⟨[(0,.seg 0 []),(1,.cs I64),(5,.cs I64)],[(0,.reg,.cd (.sl SB))]⟩
def fr:=Yix sp (fun x s=>Xay.B  s.1 s.2.1 s.2.2) (fun x=>(x.1.2.1,x.1.2.2.1,x.2.1)) fun x (bb0:Int×List (List Int)) _ kk0=>kk0 (.ex 0) ⟨[(1,.cs I64 bb0.1)],[sr 0 (.cd (.sl SB) bb0.2)]⟩
theorem ok:Ya5 PR 19 2 (.loop c) fr:=
 Ywh Xe Xd h0 (G:=Xb7.G) Xb7.Gok [(0,([1],[0]))] (fun x s=>((x.1.1,s.1,s.2.1,x.1.2.2.2),(s.2.2,x.2.2)))
  (fun x s=>by simp only[B,mC,mB,mS,mO,mN];kernel_rfl)
end Xay
namespace Xb7
def pts:List PT:=[.cd (.sl SB),.cs I64]
def FS:FS:=Yef [.mu,.sh] pts (fun x=>Xb7 x.1 x.2.1) fun t=>⟨[.cs I64 t.1],[.cd (.sl SB) t.2]⟩
theorem ok:Ydh PR 31 FS:=
 Ywf Xe Xd Proofs.Tryz.f31 h0 (.R (.L (.R (.one (.fr 0))))) (G:=G) Gok (L:=mkL [(0,Xay.fr)]) (l:=[(0,.loop Xay.c)]) ⟨Lam.cons Xay.ok,trivial⟩
  (fun x=>by simp only[Xb7,mC,mB,mS,mO,mN];kernel_rfl)
end Xb7
def Xb8 (a:Fs_) (k:Int):Option (Int×Fs_):=
 (Xb6 a.1 k).bind fun r=>(Xb7 a.2.1 r.1).bind fun r2=>some (r2.1,(r.2,r2.2,a.2.2))
namespace Xb8
def G:Gam:=mkG [(30,Xb6.FS),(31,Xb7.FS)]
def pts:List PT:=[.cd Xl,.cs I64]
def FS:FS:=Yef [.mu,.sh] pts (fun x=>Xb8 x.1 x.2.1) fun t=>⟨[.cs I64 t.1],[.cd Xl t.2]⟩
theorem ok:Ydh PR 11 FS:=
 Ywf Xe Xd Proofs.Tryz.f11 ⟨[2],[],[],0⟩ .no (G:=G) (show GOk PR G from .cons Xb6.ok (.cons Xb7.ok .nil)) (L:=mkL []) (l:=[]) hT
  (fun x=>by simp only[Xb8,mC,mB,mS,mO,mN];kernel_rfl)
end Xb8
def Xaz.B (k_:Int) (i_:Int) (a_:List (List UInt8)):Option ((Int×Int×List (List UInt8))⊕(Int×List (List UInt8))):=
 cond (decide (i_<(a_.length:Int))) ((Xaa k_).bind fun r=>cond (inB i_ a_.length) (some (.inl (w64 (k_+1),w64 (i_+1),a_.set i_.toNat r))) none) (some (.inr (k_,a_)))
def Xaz :(Int×Int×List (List UInt8))→Option (Int×List (List UInt8)):=
 Yam fun s=>Xaz.B s.1 s.2.1 s.2.2
def Xb9 (a:List (List UInt8)) (k:Int):Option (Int×List (List UInt8)):=
 (Xaz (k,0,a)).bind fun o=>some (o.1,o.2)
namespace Xb9
def G:Gam:=mkG [(63,Xaa.FS)]
theorem Gok:GOk PR G:=.cons Xaa.ok .nil
end Xb9
namespace Xaz
noncomputable def c:=Yaq (Yal Proofs.Tryz.f33) [1,0,1,0,0]
def sp:SP:=⟨[(0,.seg 0 []),(1,.cs I64),(5,.cs I64)],[(0,.reg,.cd (.sl .str))]⟩
def fr:=Yix sp (fun x s=>Xaz.B  s.1 s.2.1 s.2.2) (fun x=>(x.1.2.1,x.1.2.2.1,x.2.1)) fun x (bb0:Int×List (List UInt8)) _ kk0=>kk0 (.ex 0) ⟨[(1,.cs I64 bb0.1)],[sr 0 (.cd (.sl .str) bb0.2)]⟩
theorem ok:Ya5 PR 20 2 (.loop c) fr:=
 Ywh Xe Xd h0 (G:=Xb9.G) Xb9.Gok [(0,([1],[0]))] (fun x s=>((x.1.1,s.1,s.2.1,x.1.2.2.2),(s.2.2,x.2.2)))
  (fun x s=>by simp only[B,mC,mB,mS,mO,mN];kernel_rfl)
end Xaz
namespace Xb9
def pts:List PT:=[.cd (.sl .str),.cs I64]
def FS:FS:=Yef [.mu,.sh] pts (fun x=>Xb9 x.1 x.2.1) fun t=>⟨[.cs I64 t.1],[.cd (.sl .str) t.2]⟩
theorem ok:Ydh PR 33 FS:=
 Ywf Xe Xd Proofs.Tryz.f33 h0 (.R (.L (.R (.one (.fr 0))))) (G:=G) Gok (L:=mkL [(0,Xaz.fr)]) (l:=[(0,.loop Xaz.c)]) ⟨Lam.cons Xaz.ok,trivial⟩
  (fun x=>by simp only[Xb9,mC,mB,mS,mO,mN];kernel_rfl)
end Xb9
def Xeo (a:Xq) (k:Int):Option (Int×Xq):=
 (Xc2 a.2.2.2.1 k).bind fun r=>(Xb9 a.2.2.2.2.1 r.1).bind fun r2=>(Xb8 (a.2.2.2.2.2.1.1,a.2.2.2.2.2.1.2.1,a.2.2.2.2.2.1.2.2) r2.1).bind fun r3=>some (r3.1,(a.1,a.2.1,a.2.2.1,r.2,r2.2,(r3.2.1,r3.2.2.1,a.2.2.2.2.2.1.2.2),a.2.2.2.2.2.2))
namespace Xeo
def G:Gam:=mkG [(32,Xc2.FS),(33,Xb9.FS),(11,Xb8.FS)]
def pts:List PT:=[.cd Xo,.cs I64]
def FS:FS:=Yef [.mu,.sh] pts (fun x=>Xeo x.1 x.2.1) fun t=>⟨[.cs I64 t.1],[.cd Xo t.2]⟩
theorem ok:Ydh PR 12 FS:=
 Ywf Xe Xd Proofs.Tryz.f12 ⟨[2],[],[],0⟩ .no (G:=G) (show GOk PR G from .cons Xc2.ok (.cons Xb9.ok (.cons Xb8.ok .nil))) (L:=mkL []) (l:=[]) hT
  (fun x=>by simp only[Xeo,mC,mB,mS,mO,mN];kernel_rfl)
end Xeo
def Xa0.B (a:List Int) (k_:Int) (i_:Int):Option ((Int×Int)⊕((Int⊕Int))):=
 cond (decide (i_<(a.length:Int))) (cond (inB i_ a.length) (cond ((a.getD i_.toNat 0) != (IntKind.u8.wrap k_)) (some (.inr (.inl (-1)))) (some (.inl (w64 (k_+1),w64 (i_+1))))) none) (some (.inr (.inr k_)))
def Xa0 (a:List Int):(Int×Int)→Option ((Int⊕Int)):=
 Yam fun s=>Xa0.B a s.1 s.2
def Xc3 (a:List Int) (k:Int):Option Int:=
 (Xa0 a (k,0)).bind fun o=>sel o (fun b=>some b) (fun c=>some c)
namespace Xa0
noncomputable def c:=Yaq (Yal Proofs.Tryz.f34) [1,0,1,0,0]
def sp:SP:=⟨[(0,.cs SB),(1,.cs I64),(5,.cs I64)],[]⟩
def fr:=Yix sp (fun x s=>Xa0.B x.1.1 s.1 s.2) (fun x=>(x.1.2.1,x.1.2.2.1)) fun x (oo0:(Int⊕Int)) _ kk0=>sel oo0 (fun bb0=>kk0 (.rt) ⟨[(4,.cs I64 bb0)],[]⟩) (fun cc0=>kk0 (.ex 0) ⟨[(1,.cs I64 cc0)],[]⟩)
theorem ok:Ya5 PR 22 2 (.loop c) fr:=
 Ysy Xe Xd h0 .no (G:=(mkG [])) .nil (L:=mkL []) (l:=[]) hT [(0,([1],[]))] ([4],[]) (fun x s=>((x.1.1,s.1,s.2,x.1.2.2.2),x.2))
  (fun x s=>by simp only[B,mC,mB,mS,mO,mN];kernel_rfl)
end Xa0
namespace Xc3
def pts:List PT:=[.cs SB,.cs I64]
def FS:FS:=Yef [.sh,.sh] pts (fun x=>Xc3 x.1 x.2.1) fun t=>⟨[.cs I64 t],[]⟩
theorem ok:Ydh PR 34 FS:=
 Ywf Xe Xd Proofs.Tryz.f34 h0 (.R (.L (.R (.one (.fr 0))))) (G:=(mkG [])) .nil (L:=mkL [(0,Xa0.fr)]) (l:=[(0,.loop Xa0.c)]) ⟨Lam.cons Xa0.ok,trivial⟩
  (fun x=>by simp only[Xc3,mC,mB,mS,mO,mN];kernel_rfl)
end Xc3
def Xa1.B (a:List (List UInt8)) (k_:Int) (i_:Int):Option ((Int×Int)⊕((Int⊕Int))):=
 cond (decide (i_<(a.length:Int))) (cond (inB i_ a.length) ((Xaa k_).bind fun r=>cond (!((a.getD i_.toNat []) == r)) (some (.inr (.inl (-1)))) (some (.inl (w64 (k_+1),w64 (i_+1))))) none) (some (.inr (.inr k_)))
def Xa1 (a:List (List UInt8)):(Int×Int)→Option ((Int⊕Int)):=
 Yam fun s=>Xa1.B a s.1 s.2
def Xca (a:List (List UInt8)) (k:Int):Option Int:=
 (Xa1 a (k,0)).bind fun o=>sel o (fun b=>some b) (fun c=>some c)
namespace Xca
def G:Gam:=mkG [(63,Xaa.FS)]
theorem Gok:GOk PR G:=.cons Xaa.ok .nil
end Xca
namespace Xa1
noncomputable def c:=Yaq (Yal Proofs.Tryz.f35) [1,0,1,0,0]
def sp:SP:=⟨[(0,.cs (.sl .str)),(1,.cs I64),(5,.cs I64)],[]⟩
def fr:=Yix sp (fun x s=>Xa1.B x.1.1 s.1 s.2) (fun x=>(x.1.2.1,x.1.2.2.1)) fun x (oo0:(Int⊕Int)) _ kk0=>sel oo0 (fun bb0=>kk0 (.rt) ⟨[(4,.cs I64 bb0)],[]⟩) (fun cc0=>kk0 (.ex 0) ⟨[(1,.cs I64 cc0)],[]⟩)
theorem ok:Ya5 PR 22 2 (.loop c) fr:=
 Ysy Xe Xd h0 .no (G:=Xca.G) Xca.Gok (L:=mkL []) (l:=[]) hT [(0,([1],[]))] ([4],[]) (fun x s=>((x.1.1,s.1,s.2,x.1.2.2.2),x.2))
  (fun x s=>by simp only[B,mC,mB,mS,mO,mN];kernel_rfl)
end Xa1
namespace Xca
def pts:List PT:=[.cs (.sl .str),.cs I64]
def FS:FS:=Yef [.sh,.sh] pts (fun x=>Xca x.1 x.2.1) fun t=>⟨[.cs I64 t],[]⟩
theorem ok:Ydh PR 35 FS:=
 Ywf Xe Xd Proofs.Tryz.f35 h0 (.R (.L (.R (.one (.fr 0))))) (G:=G) Gok (L:=mkL [(0,Xa1.fr)]) (l:=[(0,.loop Xa1.c)]) ⟨Lam.cons Xa1.ok,trivial⟩
  (fun x=>by simp only[Xca,mC,mB,mS,mO,mN];kernel_rfl)
end Xca
def Xa2.B (a:List Int) (k_:Int) (i_:Int):Option ((Int×Int)⊕((Int⊕Int))):=
 cond (decide (i_<(a.length:Int))) (cond (inB i_ a.length) (cond ((a.getD i_.toNat 0) != k_) (some (.inr (.inl (-1)))) (some (.inl (w64 (k_+1),w64 (i_+1))))) none) (some (.inr (.inr k_)))
def Xa2 (a:List Int):(Int×Int)→Option ((Int⊕Int)):=
 Yam fun s=>Xa2.B a s.1 s.2
def Xep (a:List Int) (k:Int):Option Int:=
 (Xa2 a (k,0)).bind fun o=>sel o (fun b=>some b) (fun c=>some c)
namespace Xa2
noncomputable def c:=Yaq (Yal Proofs.Tryz.f107) [1,0,1,0,0]
def sp:SP:=⟨[(0,.cs SI),(1,.cs I64),(5,.cs I64)],[]⟩
def fr:=Yix sp (fun x s=>Xa2.B x.1.1 s.1 s.2) (fun x=>(x.1.2.1,x.1.2.2.1)) fun x (oo0:(Int⊕Int)) _ kk0=>sel oo0 (fun bb0=>kk0 (.rt) ⟨[(4,.cs I64 bb0)],[]⟩) (fun cc0=>kk0 (.ex 0) ⟨[(1,.cs I64 cc0)],[]⟩)
theorem ok:Ya5 PR 21 2 (.loop c) fr:=
 Ysy Xe Xd h0 .no (G:=(mkG [])) .nil (L:=mkL []) (l:=[]) hT [(0,([1],[]))] ([4],[]) (fun x s=>((x.1.1,s.1,s.2,x.1.2.2.2),x.2))
  (fun x s=>by simp only[B,mC,mB,mS,mO,mN];kernel_rfl)
end Xa2
namespace Xep
def pts:List PT:=[.cs SI,.cs I64]
def FS:FS:=Yef [.sh,.sh] pts (fun x=>Xep x.1 x.2.1) fun t=>⟨[.cs I64 t],[]⟩
theorem ok:Ydh PR 107 FS:=
 Ywf Xe Xd Proofs.Tryz.f107 h0 (.R (.L (.R (.one (.fr 0))))) (G:=(mkG [])) .nil (L:=mkL [(0,Xa2.fr)]) (l:=[(0,.loop Xa2.c)]) ⟨Lam.cons Xa2.ok,trivial⟩
  (fun x=>by simp only[Xep,mC,mB,mS,mO,mN];kernel_rfl)
end Xep
def Xa3.B (a:List Xf) (k_:Int) (i_:Int):Option ((Int×Int)⊕((Int⊕Int))):=
 cond (decide (i_<(a.length:Int))) (cond (inB i_ a.length) ((Xaa k_).bind fun r=>cond (!((a.getD i_.toNat Xn).1 == r)) (some (.inr (.inl (-1)))) (cond (inB i_ a.length) ((some ((a.getD i_.toNat Xn).2.1 != (w64 (k_+1)))).bind fun v=>cond v (some (.inr (.inl (-1)))) (some (.inl (w64 ((w64 (k_+1))+1),w64 (i_+1))))) none)) none) (some (.inr (.inr k_)))
def Xa3 (a:List Xf):(Int×Int)→Option ((Int⊕Int)):=
 Yam fun s=>Xa3.B a s.1 s.2
def Xcb (a:List Xf) (k:Int):Option Int:=
 (Xa3 a (k,0)).bind fun o=>sel o (fun b=>some b) (fun c=>some c)
namespace Xcb
def G:Gam:=mkG [(63,Xaa.FS)]
theorem Gok:GOk PR G:=.cons Xaa.ok .nil
end Xcb
namespace Xa3
noncomputable def c:=Yaq (Yal Proofs.Tryz.f108) [1,0,1,0,0]
def sp:SP:=⟨[(0,.cs (.sl Xg)),(1,.cs I64),(5,.cs I64)],[]⟩
def fr:=Yix sp (fun x s=>Xa3.B x.1.1 s.1 s.2) (fun x=>(x.1.2.1,x.1.2.2.1)) fun x (oo0:(Int⊕Int)) _ kk0=>sel oo0 (fun bb0=>kk0 (.rt) ⟨[(4,.cs I64 bb0)],[]⟩) (fun cc0=>kk0 (.ex 0) ⟨[(1,.cs I64 cc0)],[]⟩)
theorem ok:Ya5 PR 32 2 (.loop c) fr:=
 Ysy Xe Xd h0 .no (G:=Xcb.G) Xcb.Gok (L:=mkL []) (l:=[]) hT [(0,([1],[]))] ([4],[]) (fun x s=>((x.1.1,s.1,s.2,x.1.2.2.2),x.2))
  (fun x s=>by simp only[B,mC,mB,mS,mO,mN];kernel_rfl)
end Xa3
namespace Xcb
def pts:List PT:=[.cs (.sl Xg),.cs I64]
def FS:FS:=Yef [.sh,.sh] pts (fun x=>Xcb x.1 x.2.1) fun t=>⟨[.cs I64 t],[]⟩
theorem ok:Ydh PR 108 FS:=
 Ywf Xe Xd Proofs.Tryz.f108 h0 (.R (.L (.R (.one (.fr 0))))) (G:=G) Gok (L:=mkL [(0,Xa3.fr)]) (l:=[(0,.loop Xa3.c)]) ⟨Lam.cons Xa3.ok,trivial⟩
  (fun x=>by simp only[Xcb,mC,mB,mS,mO,mN];kernel_rfl)
end Xcb
def Xa4.B (a:List Xb) (k_:Int) (i_:Int):Option ((Int×Int)⊕((Int⊕Int))):=
 cond (decide (i_<(a.length:Int))) (cond (inB i_ a.length) (cond ((a.getD i_.toNat Xa).1 != k_) (some (.inr (.inl (-1)))) (cond (inB i_ a.length) ((some ((a.getD i_.toNat Xa).2.1 != (w64 (k_+1)))).bind fun v=>cond v (some (.inr (.inl (-1)))) (cond (inB i_ a.length) ((some ((a.getD i_.toNat Xa).2.2.1 != (w64 ((w64 (k_+1))+1)))).bind fun v2=>cond v2 (some (.inr (.inl (-1)))) (cond (inB i_ a.length) ((Xep (a.getD i_.toNat Xa).2.2.2.1 (w64 ((w64 ((w64 (k_+1))+1))+1))).bind fun r=>cond (decide (r<0)) (some (.inr (.inl (-1)))) (cond (inB i_ a.length) ((Xcb (a.getD i_.toNat Xa).2.2.2.2.1 r).bind fun r2=>cond (decide (r2<0)) (some (.inr (.inl (-1)))) (some (.inl (r2,w64 (i_+1))))) none)) none)) none)) none)) none) (some (.inr (.inr k_)))
def Xa4 (a:List Xb):(Int×Int)→Option ((Int⊕Int)):=
 Yam fun s=>Xa4.B a s.1 s.2
def Xcc (a:List Xb) (k:Int):Option Int:=
 (Xa4 a (k,0)).bind fun o=>sel o (fun b=>some b) (fun c=>some c)
namespace Xcc
def G:Gam:=mkG [(107,Xep.FS),(108,Xcb.FS)]
theorem Gok:GOk PR G:=.cons Xep.ok (.cons Xcb.ok .nil)
end Xcc
namespace Xa4
noncomputable def c:=Yaq (Yal Proofs.Tryz.f64) [1,0,1,0,0]
def sp:SP:=⟨[(0,.cs (.sl Xc)),(1,.cs I64),(5,.cs I64)],[]⟩
def fr:=Yix sp (fun x s=>Xa4.B x.1.1 s.1 s.2) (fun x=>(x.1.2.1,x.1.2.2.1)) fun x (oo0:(Int⊕Int)) _ kk0=>sel oo0 (fun bb0=>kk0 (.rt) ⟨[(4,.cs I64 bb0)],[]⟩) (fun cc0=>kk0 (.ex 0) ⟨[(1,.cs I64 cc0)],[]⟩)
theorem ok:Ya5 PR 58 2 (.loop c) fr:=
 Ysy Xe Xd h0 .no (G:=Xcc.G) Xcc.Gok (L:=mkL []) (l:=[]) hT [(0,([1],[]))] ([4],[]) (fun x s=>((x.1.1,s.1,s.2,x.1.2.2.2),x.2))
  (fun x s=>by simp only[B,mC,mB,mS,mO,mN];kernel_rfl)
end Xa4
namespace Xcc
def pts:List PT:=[.cs (.sl Xc),.cs I64]
def FS:FS:=Yef [.sh,.sh] pts (fun x=>Xcc x.1 x.2.1) fun t=>⟨[.cs I64 t],[]⟩
theorem ok:Ydh PR 64 FS:=
 Ywf Xe Xd Proofs.Tryz.f64 h0 (.R (.L (.R (.one (.fr 0))))) (G:=G) Gok (L:=mkL [(0,Xa4.fr)]) (l:=[(0,.loop Xa4.c)]) ⟨Lam.cons Xa4.ok,trivial⟩
  (fun x=>by simp only[Xcc,mC,mB,mS,mO,mN];kernel_rfl)
end Xcc
def Xa5.B (a:List (List Int)) (k_:Int) (i_:Int):Option ((Int×Int)⊕((Int⊕Int))):=
 cond (decide (i_<(a.length:Int))) (cond (inB i_ a.length) ((Xc3 (a.getD i_.toNat []) k_).bind fun r=>cond (decide (r<0)) (some (.inr (.inl (-1)))) (some (.inl (r,w64 (i_+1))))) none) (some (.inr (.inr k_)))
def Xa5 (a:List (List Int)):(Int×Int)→Option ((Int⊕Int)):=
 Yam fun s=>Xa5.B a s.1 s.2
def Xcd (a:List (List Int)) (k:Int):Option Int:=
 (Xa5 a (k,0)).bind fun o=>sel o (fun b=>some b) (fun c=>some c)
namespace Xcd
def G:Gam:=mkG [(34,Xc3.FS)]
theorem Gok:GOk PR G:=.cons Xc3.ok .nil
end Xcd
namespace Xa5
noncomputable def c:=Yaq (Yal Proofs.Tryz.f65) [1,0,1,0,0]
def sp:SP:=⟨[(0,.cs (.sl SB)),(1,.cs I64),(5,.cs I64)],[]⟩
def fr:=Yix sp (fun x s=>Xa5.B x.1.1 s.1 s.2) (fun x=>(x.1.2.1,x.1.2.2.1)) fun x (oo0:(Int⊕Int)) _ kk0=>sel oo0 (fun bb0=>kk0 (.rt) ⟨[(4,.cs I64 bb0)],[]⟩) (fun cc0=>kk0 (.ex 0) ⟨[(1,.cs I64 cc0)],[]⟩)
theorem ok:Ya5 PR 21 2 (.loop c) fr:=
 Ysy Xe Xd h0 .no (G:=Xcd.G) Xcd.Gok (L:=mkL []) (l:=[]) hT [(0,([1],[]))] ([4],[]) (fun x s=>((x.1.1,s.1,s.2,x.1.2.2.2),x.2))
  (fun x s=>by simp only[B,mC,mB,mS,mO,mN];kernel_rfl)
end Xa5
namespace Xcd
def pts:List PT:=[.cs (.sl SB),.cs I64]
def FS:FS:=Yef [.sh,.sh] pts (fun x=>Xcd x.1 x.2.1) fun t=>⟨[.cs I64 t],[]⟩
theorem ok:Ydh PR 65 FS:=
 Ywf Xe Xd Proofs.Tryz.f65 h0 (.R (.L (.R (.one (.fr 0))))) (G:=G) Gok (L:=mkL [(0,Xa5.fr)]) (l:=[(0,.loop Xa5.c)]) ⟨Lam.cons Xa5.ok,trivial⟩
  (fun x=>by simp only[Xcd,mC,mB,mS,mO,mN];kernel_rfl)
end Xcd
def Xdu (a:Fs_) (k:Int):Option Int:=
 (Xcc a.1 k).bind fun r=>cond (decide (r<0)) (some (-1)) ((Xcd a.2.1 r).bind fun r2=>cond (decide (r2<0)) (some (-1)) (some r2))
namespace Xdu
def G:Gam:=mkG [(64,Xcc.FS),(65,Xcd.FS)]
def pts:List PT:=[.cs Xl,.cs I64]
def FS:FS:=Yef [.sh,.sh] pts (fun x=>Xdu x.1 x.2.1) fun t=>⟨[.cs I64 t],[]⟩
theorem ok:Ydh PR 36 FS:=
 Ywf Xe Xd Proofs.Tryz.f36 ⟨[2],[],[],0⟩ .no (G:=G) (show GOk PR G from .cons Xcc.ok (.cons Xcd.ok .nil)) (L:=mkL []) (l:=[]) hT
  (fun x=>by simp only[Xdu,mC,mB,mS,mO,mN];kernel_rfl)
end Xdu
def Xdv (a:Xq) (k:Int):Option Int:=
 (Xc3 a.2.2.2.1 k).bind fun r=>cond (decide (r<0)) (some (-1)) ((Xca a.2.2.2.2.1 r).bind fun r2=>cond (decide (r2<0)) (some (-1)) ((Xdu a.2.2.2.2.2.1 r2).bind fun r3=>cond (decide (r3<0)) (some (-1)) (some r3)))
namespace Xdv
def G:Gam:=mkG [(34,Xc3.FS),(35,Xca.FS),(36,Xdu.FS)]
def pts:List PT:=[.cs Xo,.cs I64]
def FS:FS:=Yef [.sh,.sh] pts (fun x=>Xdv x.1 x.2.1) fun t=>⟨[.cs I64 t],[]⟩
theorem ok:Ydh PR 13 FS:=
 Ywf Xe Xd Proofs.Tryz.f13 ⟨[2],[],[],0⟩ .no (G:=G) (show GOk PR G from .cons Xc3.ok (.cons Xca.ok (.cons Xdu.ok .nil))) (L:=mkL []) (l:=[]) hT
  (fun x=>by simp only[Xdv,mC,mB,mS,mO,mN];kernel_rfl)
end Xdv
end Mf
