import Derived.Test.YtiflgjlpdhagnaaGreatDoorMf4
import Derived.Test.YtiflgjlpdhagnaaGreatDoorRenamePathJ
import Derived.Test.YtiflgjlpdhagnaaGreatDoorProg
import Derived.KernelRfl
import Derived.Shelf.SortM.Plain
import Derived.Shelf.SortM.SortNone
import Derived.Shelf.SlGeneric
import Derived.Ground.SlgmProg
set_option linter.unusedVariables false
set_option linter.unusedSimpArgs false
namespace Go.Proofs
open Go.Shelf
def Tryz.Xjl:Go.Shelf.Ren:=⟨fun | 5=>125 | 8=>142 | 7=>141 | 19=>160 | 20=>161 | 10=>151 | 11=>152 | 12=>153 | 13=>154 | 14=>155 | 15=>156 | 16=>157 | 17=>158 | 18=>159 | 30=>170 | 31=>171 | 32=>172 | 33=>173 | 34=>174 | 35=>175 | 40=>181 | n=>n,fun | 23=>59 | 25=>2 | 3=>3 | 32=>146 | 22=>59 | 0=>0 | 44=>160 | 46=>162 | 4=>4 | 36=>152 | 35=>151 | 41=>157 | 5=>5 | 9=>9 | 53=>168 | 57=>172 | 63=>179 | 64=>180 | n=>n,fun | n=>n⟩
theorem Tryz.Xj7:Go.Proofs.SlLaysM.n5 Tryz.prog Tryz.Xjl:={
 mixed:=by kernel_rfl
 f5:=⟨Tryz.f125.name,by decide,Tryz.func125.trans (congrArg some (by kernel_rfl))⟩
 f7:=⟨Tryz.f141.name,by decide,Tryz.func141.trans (congrArg some (by kernel_rfl))⟩
 f8:=Tryz.func142.trans (congrArg some (by kernel_rfl))
 f10:=⟨Tryz.f151.name,by decide,Tryz.func151.trans (congrArg some (by kernel_rfl))⟩
 f11:=⟨Tryz.f152.name,by decide,Tryz.func152.trans (congrArg some (by kernel_rfl))⟩
 f12:=⟨Tryz.f153.name,by decide,Tryz.func153.trans (congrArg some (by kernel_rfl))⟩
 f13:=⟨Tryz.f154.name,by decide,Tryz.func154.trans (congrArg some (by kernel_rfl))⟩
 f14:=⟨Tryz.f155.name,by decide,Tryz.func155.trans (congrArg some (by kernel_rfl))⟩
 f15:=⟨Tryz.f156.name,by decide,Tryz.func156.trans (congrArg some (by kernel_rfl))⟩
 f16:=⟨Tryz.f157.name,by decide,Tryz.func157.trans (congrArg some (by kernel_rfl))⟩
 f17:=⟨Tryz.f158.name,by decide,Tryz.func158.trans (congrArg some (by kernel_rfl))⟩
 f18:=⟨Tryz.f159.name,by decide,Tryz.func159.trans (congrArg some (by kernel_rfl))⟩
 f19:=Tryz.func160.trans (congrArg some (by kernel_rfl))
 f20:=Tryz.func161.trans (congrArg some (by kernel_rfl))
 f30:=⟨Tryz.f170.name,by decide,Tryz.func170.trans (congrArg some (by kernel_rfl))⟩
 f31:=Tryz.func171.trans (congrArg some (by kernel_rfl))
 f32:=Tryz.func172.trans (congrArg some (by kernel_rfl))
 f33:=⟨Tryz.f173.name,by decide,Tryz.func173.trans (congrArg some (by kernel_rfl))⟩
 f34:=⟨Tryz.f174.name,by decide,Tryz.func174.trans (congrArg some (by kernel_rfl))⟩
 f35:=⟨Tryz.f175.name,by decide,Tryz.func175.trans (congrArg some (by kernel_rfl))⟩
 f40:=⟨Tryz.f181.name,by decide,Tryz.func181.trans (congrArg some (by kernel_rfl))⟩
 t0:=Tryz.underlying0
 a0:=Tryz.isAgg0
 z0:=Tryz.sizeOf0
 v0:=Tryz.zeroValue0
 t3:=Tryz.underlying3
 a3:=Tryz.isAgg3
 z3:=Tryz.sizeOf3
 v3:=Tryz.zeroValue3
 t4:=Tryz.underlying4
 a4:=Tryz.isAgg4
 z4:=Tryz.sizeOf4
 v4:=Tryz.zeroValue4
 t5:=Tryz.underlying5
 a5:=Tryz.isAgg5
 z5:=Tryz.sizeOf5
 v5:=Tryz.zeroValue5
 t9:=Tryz.underlying9
 a9:=Tryz.isAgg9
 z9:=Tryz.sizeOf9
 v9:=Tryz.zeroValue9
 t22:=Tryz.underlying59
 a22:=Tryz.isAgg59
 z22:=Tryz.sizeOf59
 v22:=Tryz.zeroValue59
 t23:=Tryz.underlying59
 a23:=Tryz.isAgg59
 z23:=Tryz.sizeOf59
 v23:=Tryz.zeroValue59
 t25:=Tryz.underlying2
 a25:=Tryz.isAgg2
 z25:=Tryz.sizeOf2
 v25:=Tryz.zeroValue2
 t32:=Tryz.underlying146
 a32:=Tryz.isAgg146
 z32:=Tryz.sizeOf146
 v32:=Tryz.zeroValue146
 t35:=Tryz.underlying151
 a35:=Tryz.isAgg151
 z35:=Tryz.sizeOf151
 v35:=Tryz.zeroValue151
 t36:=Tryz.underlying152
 a36:=Tryz.isAgg152
 z36:=Tryz.sizeOf152
 v36:=Tryz.zeroValue152
 t41:=Tryz.underlying157
 a41:=Tryz.isAgg157
 z41:=Tryz.sizeOf157
 v41:=Tryz.zeroValue157
 t44:=Tryz.underlying160
 a44:=Tryz.isAgg160
 z44:=Tryz.sizeOf160
 v44:=Tryz.zeroValue160
 t46:=Tryz.underlying162
 a46:=Tryz.isAgg162
 z46:=Tryz.sizeOf162
 v46:=Tryz.zeroValue162
 t53:=Tryz.underlying168
 a53:=Tryz.isAgg168
 z53:=Tryz.sizeOf168
 v53:=Tryz.zeroValue168
 t57:=Tryz.underlying172
 a57:=Tryz.isAgg172
 z57:=Tryz.sizeOf172
 v57:=Tryz.zeroValue172
 t63:=Tryz.underlying179
 a63:=Tryz.isAgg179
 z63:=Tryz.sizeOf179
 v63:=Tryz.zeroValue179
 t64:=Tryz.underlying180
 a64:=Tryz.isAgg180
 z64:=Tryz.sizeOf180
 v64:=Tryz.zeroValue180 }
end Go.Proofs
noncomputable section
namespace Mf
open Go
set_option maxRecDepth 100000
abbrev Xh:Ty:=(.pair .str (.pair (.int .i64) .unit))
abbrev Xe:Type:=(List UInt8)×Int×Unit
def Xj:Xe:=([],0,())
abbrev Xd:Ty:=(.pair (.int .i64) (.pair (.int .i64) (.pair (.int .i64) (.pair (.sl (.int .i64)) (.pair (.sl Xh) .unit)))))
abbrev Xb:Type:=Int×Int×Int×(List Int)×(List Xe)×Unit
def Xa:Xb:=(0,0,0,[],[],())
abbrev Xk:Ty:=(.pair (.sl Xd) (.pair (.sl (.sl (.int .u8))) .unit))
abbrev Fs_:Type:=(List Xb)×(List (List Int))×Unit
def Xoa:Fs_:=([],[],())
abbrev Xi:Ty:=(.pair (.int .i64) (.pair (.int .i64) (.pair (.int .i64) (.pair (.sl (.int .u8)) (.pair (.sl .str) (.pair Xk .unit))))))
abbrev Xq:Type:=Int×Int×Int×(List Int)×(List (List UInt8))×Fs_×Unit
def Xk3:Xq:=(0,0,0,[],[],([],[],()),())
abbrev Xbl:Ty:=(.pair (.int .u8) (.pair (.int .u8) .unit))
abbrev Xh9:Type:=Int×Int×Unit
def Xky:Xh9:=(0,0,())
abbrev Xek:Ty:=(.pair (.int .i64) (.pair (.int .i64) (.pair .bool (.pair (.int .u8) .unit))))
abbrev Xia:Type:=Int×Int×Bool×Int×Unit
def Xkz:Xia:=(0,0,false,0,())
abbrev Xat:Ty:=(.pair .str (.pair (.int .u64) .unit))
abbrev Xeb:Type:=(List UInt8)×Int×Unit
def Xjp:Xeb:=([],0,())
noncomputable abbrev PR:Program:=Go.Proofs.Tryz.prog
def tb:Tb:=[(2,⟨.int .i64,(.int .i64),8⟩),(3,⟨.int .i64,(.int .i64),8⟩),(4,⟨.bool,.bool,1⟩),(5,⟨.int .u8,(.int .u8),1⟩),(6,⟨.int .u8,(.int .u8),1⟩),(7,⟨.st [0,1,2,3],Xek,24⟩),(8,⟨.st [0,1,2,3],Xek,24⟩),(9,⟨.str,.str,16⟩),(10,⟨.str,.str,16⟩),(11,⟨.str,.str,16⟩),(12,⟨.int .u64,(.int .u64),8⟩),(13,⟨.st [0,1],Xat,24⟩),(14,⟨.st [0,1],Xat,24⟩),(21,⟨.int .i32,(.int .i32),4⟩),(22,⟨.sl 62,(.sl Xd),24⟩),(23,⟨.sl 27,(.sl (.sl (.int .u8))),24⟩),(24,⟨.st [0,1],Xk,48⟩),(25,⟨.st [0,1],Xk,48⟩),(27,⟨.sl 5,(.sl (.int .u8)),24⟩),(28,⟨.sl 9,(.sl .str),24⟩),(29,⟨.sl 69,(.sl Xd),24⟩),(30,⟨.st [0,1],Xk,48⟩),(31,⟨.st [0,1],Xk,48⟩),(32,⟨.st [0,1,2,3,4,5],Xi,120⟩),(33,⟨.st [0,1,2,3,4,5],Xi,120⟩),(59,⟨.sl 2,(.sl (.int .i64)),24⟩),(60,⟨.sl 130,(.sl Xh),24⟩),(61,⟨.st [0,1,2,3,4],Xd,72⟩),(62,⟨.st [0,1,2,3,4],Xd,72⟩),(67,⟨.sl 78,(.sl Xh),24⟩),(68,⟨.st [0,1,2,3,4],Xd,72⟩),(69,⟨.st [0,1,2,3,4],Xd,72⟩),(77,⟨.st [0,1],Xh,24⟩),(78,⟨.st [0,1],Xh,24⟩),(115,⟨.arr 20 2,(.arr 20 (.int .i64)),160⟩),(124,⟨.sl 4,(.sl .bool),24⟩),(130,⟨.st [0,1],Xh,24⟩),(146,⟨.int .u64,(.int .u64),8⟩),(151,⟨.int .i64,(.int .i64),8⟩),(160,⟨.int .u32,(.int .u32),4⟩),(162,⟨.int .u64,(.int .u64),8⟩),(168,⟨.int .u64,(.int .u64),8⟩),(183,⟨.arr 256 5,(.arr 256 (.int .u8)),256⟩),(184,⟨.st [0,1],Xbl,2⟩),(185,⟨.st [0,1],Xbl,2⟩),(186,⟨.arr 16 185,(.arr 16 Xbl),32⟩),(196,⟨.int .u8,(.int .u8),1⟩),(197,⟨.int .u8,(.int .u8),1⟩),(200,⟨.int .i32,(.int .i32),4⟩),(201,⟨.int .i32,(.int .i32),4⟩)]
theorem Xg:Yaj Go.Proofs.Tryz.prog tb:=Ywl (by kernel_rfl)
theorem Xf:Go.Proofs.Tryz.prog.follows .mixedOrders=true:=by kernel_rfl
def Zq0 (a:List Int) (left:Int):Option Int:=
 cond (decide ((w64 (left-(a.length:Int)))<0)) (some (-1)) (some (w64 (left-(a.length:Int))))
namespace Zq0
def pts:List PT:=[.cs SI,.cs I64]
def FS:FS:=Yc8 [.sh,.sh] pts (fun x=>Zq0 x.1 x.2.1) fun t=>⟨[.cs I64 t],[]⟩
theorem ok:Ycs PR 78 FS:=
 Ywm Xg Xf Proofs.Tryz.f78 h0 .no (G:=(mkG [])) .nil (L:=mkL []) (l:=[]) hT
  (fun x=>by simp only[Zq0,mC,mB,mS,mO,mN];kernel_rfl)
end Zq0
def Zq1 (a:Xe) (left:Int):Option Int:=
 cond (decide ((w64 (left-(a.1.length:Int)))<0)) (some (-1)) (some (w64 (left-(a.1.length:Int))))
namespace Zq1
def pts:List PT:=[.cs Xh,.cs I64]
def FS:FS:=Yc8 [.sh,.sh] pts (fun x=>Zq1 x.1 x.2.1) fun t=>⟨[.cs I64 t],[]⟩
theorem ok:Ycs PR 115 FS:=
 Ywm Xg Xf Proofs.Tryz.f115 ⟨[2],[],[],0⟩ .no (G:=(mkG [])) .nil (L:=mkL []) (l:=[]) hT
  (fun x=>by simp only[Zq1,mC,mB,mS,mO,mN];kernel_rfl)
end Zq1
def Zq2.B (a:List Xe) (left_:Int) (i_:Int):Option ((Int×Int)⊕((Int⊕Int))):=
 cond (decide (i_<(a.length:Int))) (cond (inB i_ a.length) ((Zq1 (a.getD i_.toNat Xj) left_).bind fun r=>cond (decide (r<0)) (some (.inr (.inl (-1)))) (some (.inl (r,w64 (i_+1))))) none) (some (.inr (.inr left_)))
def Zq2 (a:List Xe):(Int×Int)→Option ((Int⊕Int)):=
 Yam fun s=>Zq2.B a s.1 s.2
def Zq3 (a:List Xe) (left:Int):Option Int:=
 cond (decide ((w64 (left-(a.length:Int)))<0)) (some (-1)) ((Zq2 a (w64 (left-(a.length:Int)),0)).bind fun o=>sel o (fun b=>some b) (fun c=>some c))
namespace Zq3
def G:Gam:=mkG [(115,Zq1.FS)]
theorem Gok:GOk PR G:=.cons Zq1.ok .nil
end Zq3
namespace Zq2
noncomputable def c:=Yaq (Yal Proofs.Tryz.f79) [1,1,1,0,1,0,0]
def sp:SP:=⟨[(0,.cs (.sl Xh)),(1,.cs I64),(5,.cs I64)],[]⟩
def fr:=Yi1 sp (fun x s=>Zq2.B x.1.1 s.1 s.2) (fun x=>(x.1.2.1,x.1.2.2.1)) fun x (oo0:(Int⊕Int)) _ kk0=>sel oo0 (fun bb0=>kk0 (.rt) ⟨[(4,.cs I64 bb0)],[]⟩) (fun cc0=>kk0 (.ex 0) ⟨[(1,.cs I64 cc0)],[]⟩)
theorem ok:Ya5 PR 27 2 (.loop c) fr:=
 Ys4 Xg Xf h0 .no (G:=Zq3.G) Zq3.Gok (L:=mkL []) (l:=[]) hT [(0,([1],[]))] ([4],[]) (fun x s=>((x.1.1,s.1,s.2,x.1.2.2.2),x.2))
  (fun x s=>by simp only[B,mC,mB,mS,mO,mN];kernel_rfl)
end Zq2
namespace Zq3
def pts:List PT:=[.cs (.sl Xh),.cs I64]
def FS:FS:=Yc8 [.sh,.sh] pts (fun x=>Zq3 x.1 x.2.1) fun t=>⟨[.cs I64 t],[]⟩
theorem ok:Ycs PR 79 FS:=
 Ywm Xg Xf Proofs.Tryz.f79 h0 (.R (.R (.R (.L (.R (.one (.fr 0))))))) (G:=G) Gok (L:=mkL [(0,Zq2.fr)]) (l:=[(0,.loop Zq2.c)]) ⟨Lam.cons Zq2.ok,trivial⟩
  (fun x=>by simp only[Zq3,mC,mB,mS,mO,mN];kernel_rfl)
end Zq3
def Zq4 (a:Xb) (left:Int):Option Int:=
 (Zq0 a.2.2.2.1 left).bind fun r=>cond (decide (r<0)) (some (-1)) ((Zq3 a.2.2.2.2.1 r).bind fun r2=>cond (decide (r2<0)) (some (-1)) (some r2))
namespace Zq4
def G:Gam:=mkG [(78,Zq0.FS),(79,Zq3.FS)]
def pts:List PT:=[.cs Xd,.cs I64]
def FS:FS:=Yc8 [.sh,.sh] pts (fun x=>Zq4 x.1 x.2.1) fun t=>⟨[.cs I64 t],[]⟩
theorem ok:Ycs PR 39 FS:=
 Ywm Xg Xf Proofs.Tryz.f39 ⟨[2],[],[],0⟩ .no (G:=G) (show GOk PR G from .cons Zq0.ok (.cons Zq3.ok .nil)) (L:=mkL []) (l:=[]) hT
  (fun x=>by simp only[Zq4,mC,mB,mS,mO,mN];kernel_rfl)
end Zq4
def Zq5.B (a:List Xb) (left_:Int) (i_:Int):Option ((Int×Int)⊕((Int⊕Int))):=
 cond (decide (i_<(a.length:Int))) (cond (inB i_ a.length) ((Zq4 (a.getD i_.toNat Xa) left_).bind fun r=>cond (decide (r<0)) (some (.inr (.inl (-1)))) (some (.inl (r,w64 (i_+1))))) none) (some (.inr (.inr left_)))
def Zq5 (a:List Xb):(Int×Int)→Option ((Int⊕Int)):=
 Yam fun s=>Zq5.B a s.1 s.2
def Zq6 (a:List Xb) (left:Int):Option Int:=
 cond (decide ((w64 (left-(a.length:Int)))<0)) (some (-1)) ((Zq5 a (w64 (left-(a.length:Int)),0)).bind fun o=>sel o (fun b=>some b) (fun c=>some c))
namespace Zq6
def G:Gam:=mkG [(39,Zq4.FS)]
theorem Gok:GOk PR G:=.cons Zq4.ok .nil
end Zq6
namespace Zq5
noncomputable def c:=Yaq (Yal Proofs.Tryz.f16) [1,1,1,0,1,0,0]
def sp:SP:=⟨[(0,.cs (.sl Xd)),(1,.cs I64),(5,.cs I64)],[]⟩
def fr:=Yi1 sp (fun x s=>Zq5.B x.1.1 s.1 s.2) (fun x=>(x.1.2.1,x.1.2.2.1)) fun x (oo0:(Int⊕Int)) _ kk0=>sel oo0 (fun bb0=>kk0 (.rt) ⟨[(4,.cs I64 bb0)],[]⟩) (fun cc0=>kk0 (.ex 0) ⟨[(1,.cs I64 cc0)],[]⟩)
theorem ok:Ya5 PR 27 2 (.loop c) fr:=
 Ys4 Xg Xf h0 .no (G:=Zq6.G) Zq6.Gok (L:=mkL []) (l:=[]) hT [(0,([1],[]))] ([4],[]) (fun x s=>((x.1.1,s.1,s.2,x.1.2.2.2),x.2))
  (fun x s=>by simp only[B,mC,mB,mS,mO,mN];kernel_rfl)
end Zq5
namespace Zq6
def pts:List PT:=[.cs (.sl Xd),.cs I64]
def FS:FS:=Yc8 [.sh,.sh] pts (fun x=>Zq6 x.1 x.2.1) fun t=>⟨[.cs I64 t],[]⟩
theorem ok:Ycs PR 16 FS:=
 Ywm Xg Xf Proofs.Tryz.f16 h0 (.R (.R (.R (.L (.R (.one (.fr 0))))))) (G:=G) Gok (L:=mkL [(0,Zq5.fr)]) (l:=[(0,.loop Zq5.c)]) ⟨Lam.cons Zq5.ok,trivial⟩
  (fun x=>by simp only[Zq6,mC,mB,mS,mO,mN];kernel_rfl)
end Zq6
def Zq7 (a:List Int) (left:Int):Option Int:=
 cond (decide ((w64 (left-(a.length:Int)))<0)) (some (-1)) (some (w64 (left-(a.length:Int))))
namespace Zq7
def pts:List PT:=[.cs SB,.cs I64]
def FS:FS:=Yc8 [.sh,.sh] pts (fun x=>Zq7 x.1 x.2.1) fun t=>⟨[.cs I64 t],[]⟩
theorem ok:Ycs PR 40 FS:=
 Ywm Xg Xf Proofs.Tryz.f40 h0 .no (G:=(mkG [])) .nil (L:=mkL []) (l:=[]) hT
  (fun x=>by simp only[Zq7,mC,mB,mS,mO,mN];kernel_rfl)
end Zq7
def Zq8.B (a:List (List Int)) (left_:Int) (i_:Int):Option ((Int×Int)⊕((Int⊕Int))):=
 cond (decide (i_<(a.length:Int))) (cond (inB i_ a.length) ((Zq7 (a.getD i_.toNat []) left_).bind fun r=>cond (decide (r<0)) (some (.inr (.inl (-1)))) (some (.inl (r,w64 (i_+1))))) none) (some (.inr (.inr left_)))
def Zq8 (a:List (List Int)):(Int×Int)→Option ((Int⊕Int)):=
 Yam fun s=>Zq8.B a s.1 s.2
def Zq9 (a:List (List Int)) (left:Int):Option Int:=
 cond (decide ((w64 (left-(a.length:Int)))<0)) (some (-1)) ((Zq8 a (w64 (left-(a.length:Int)),0)).bind fun o=>sel o (fun b=>some b) (fun c=>some c))
namespace Zq9
def G:Gam:=mkG [(40,Zq7.FS)]
theorem Gok:GOk PR G:=.cons Zq7.ok .nil
end Zq9
namespace Zq8
noncomputable def c:=Yaq (Yal Proofs.Tryz.f17) [1,1,1,0,1,0,0]
def sp:SP:=⟨[(0,.cs (.sl SB)),(1,.cs I64),(5,.cs I64)],[]⟩
def fr:=Yi1 sp (fun x s=>Zq8.B x.1.1 s.1 s.2) (fun x=>(x.1.2.1,x.1.2.2.1)) fun x (oo0:(Int⊕Int)) _ kk0=>sel oo0 (fun bb0=>kk0 (.rt) ⟨[(4,.cs I64 bb0)],[]⟩) (fun cc0=>kk0 (.ex 0) ⟨[(1,.cs I64 cc0)],[]⟩)
theorem ok:Ya5 PR 27 2 (.loop c) fr:=
 Ys4 Xg Xf h0 .no (G:=Zq9.G) Zq9.Gok (L:=mkL []) (l:=[]) hT [(0,([1],[]))] ([4],[]) (fun x s=>((x.1.1,s.1,s.2,x.1.2.2.2),x.2))
  (fun x s=>by simp only[B,mC,mB,mS,mO,mN];kernel_rfl)
end Zq8
namespace Zq9
def pts:List PT:=[.cs (.sl SB),.cs I64]
def FS:FS:=Yc8 [.sh,.sh] pts (fun x=>Zq9 x.1 x.2.1) fun t=>⟨[.cs I64 t],[]⟩
theorem ok:Ycs PR 17 FS:=
 Ywm Xg Xf Proofs.Tryz.f17 h0 (.R (.R (.R (.L (.R (.one (.fr 0))))))) (G:=G) Gok (L:=mkL [(0,Zq8.fr)]) (l:=[(0,.loop Zq8.c)]) ⟨Lam.cons Zq8.ok,trivial⟩
  (fun x=>by simp only[Zq9,mC,mB,mS,mO,mN];kernel_rfl)
end Zq9
def Xib (a:Fs_) (left:Int):Option Int:=
 (Zq6 a.1 left).bind fun r=>cond (decide (r<0)) (some (-1)) ((Zq9 a.2.1 r).bind fun r2=>cond (decide (r2<0)) (some (-1)) (some r2))
namespace Xib
def G:Gam:=mkG [(16,Zq6.FS),(17,Zq9.FS)]
def pts:List PT:=[.cs Xk,.cs I64]
def FS:FS:=Yc8 [.sh,.sh] pts (fun x=>Xib x.1 x.2.1) fun t=>⟨[.cs I64 t],[]⟩
theorem ok:Ycs PR 5 FS:=
 Ywm Xg Xf Proofs.Tryz.f5 ⟨[2],[],[],0⟩ .no (G:=G) (show GOk PR G from .cons Zq6.ok (.cons Zq9.ok .nil)) (L:=mkL []) (l:=[]) hT
  (fun x=>by simp only[Xib,mC,mB,mS,mO,mN];kernel_rfl)
end Xib
def Xfn.B (a:List Int) (i_:Int) (out_:List Int):Option ((Int×List Int)⊕(List Int)):=
 cond (decide (i_<(a.length:Int))) (cond (inB i_ a.length) (cond (inB i_ out_.length) (some (.inl (w64 (i_+1),out_.set i_.toNat (a.getD i_.toNat 0)))) none) none) (some (.inr out_))
def Xfn (a:List Int):(Int×List Int)→Option (List Int):=
 Yam fun s=>Xfn.B a s.1 s.2
def Xic (a:List Int):Option (List Int):=
 cond (decide ((0:Int)≤(a.length:Int))&&(decide ((a.length:Int)≤(a.length:Int))&&decide ((a.length:Int)≤2147483648))) ((Xfn a (0,List.replicate (a.length:Int).toNat 0)).bind fun o=>some o) none
namespace Xfn
noncomputable def c:=Yaq (Yal Proofs.Tryz.f91) [1,1,0,1,0,0]
def sp:SP:=⟨[(0,.cs SI),(3,.seg 3 []),(4,.cs I64)],[(3,.reg,.cd SI)]⟩
def fr:=Yi1 sp (fun x s=>Xfn.B x.1.1 s.1 s.2) (fun x=>(x.1.2.2.1,x.2.1)) fun x (bb0:List Int) _ kk0=>kk0 (.ex 0) ⟨[(3,.seg 3 [])],[sr 3 (.cd SI bb0)]⟩
theorem ok:Ya5 PR 22 1 (.loop c) fr:=
 Ywg Xg Xf h0 [(0,([3],[3]))] (fun x s=>((x.1.1,x.1.2.1,s.1,x.1.2.2.2),(s.2,x.2.2)))
  (fun x s=>by simp only[B,mC,mB,mS,mO,mN];kernel_rfl)
end Xfn
namespace Xic
def pts:List PT:=[.cs SI]
def FS:FS:=Yc8 [.sh] pts (fun x=>Xic x.1) fun t=>⟨[.cd SI t],[]⟩
theorem ok:Ycs PR 91 FS:=
 Ywm Xg Xf Proofs.Tryz.f91 h0 (.R (.R (.L (.R (.one (.fr 0)))))) (G:=(mkG [])) .nil (L:=mkL [(0,Xfn.fr)]) (l:=[(0,.loop Xfn.c)]) ⟨Lam.cons Xfn.ok,trivial⟩
  (fun x=>by simp only[Xic,mC,mB,mS,mO,mN];kernel_rfl)
end Xic
def Xid (a:Xe):Option Xe:=
 some (a.1,a.2.1,())
namespace Xid
def pts:List PT:=[.cs Xh]
def FS:FS:=Yc8 [.sh] pts (fun x=>Xid x.1) fun t=>⟨[.cs Xh t],[]⟩
theorem ok:Ycs PR 122 FS:=
 Ywm Xg Xf Proofs.Tryz.f122 ⟨[1],[],[],0⟩ .no (G:=(mkG [])) .nil (L:=mkL []) (l:=[]) hT
  (fun x=>by simp only[Xid,mC,mB,mS,mO,mN];kernel_rfl)
end Xid
def Xfo.B (a:List Xe) (i_:Int) (out_:List Xe):Option ((Int×List Xe)⊕(List Xe)):=
 cond (decide (i_<(a.length:Int))) (cond (inB i_ a.length) ((Xid (a.getD i_.toNat Xj)).bind fun r=>cond (inB i_ out_.length) (some (.inl (w64 (i_+1),out_.set i_.toNat r))) none) none) (some (.inr out_))
def Xfo (a:List Xe):(Int×List Xe)→Option (List Xe):=
 Yam fun s=>Xfo.B a s.1 s.2
def Xfp (a:List Xe):Option (List Xe):=
 cond (decide ((0:Int)≤(a.length:Int))&&(decide ((a.length:Int)≤(a.length:Int))&&decide ((a.length:Int)≤2147483648))) ((Xfo a (0,List.replicate (a.length:Int).toNat Xj)).bind fun o=>some o) none
namespace Xfp
def G:Gam:=mkG [(122,Xid.FS)]
theorem Gok:GOk PR G:=.cons Xid.ok .nil
end Xfp
namespace Xfo
noncomputable def c:=Yaq (Yal Proofs.Tryz.f92) [1,1,0,1,0,0]
def sp:SP:=⟨[(0,.cs (.sl Xh)),(3,.seg 3 []),(4,.cs I64)],[(3,.reg,.cd (.sl Xh))]⟩
def fr:=Yi1 sp (fun x s=>Xfo.B x.1.1 s.1 s.2) (fun x=>(x.1.2.2.1,x.2.1)) fun x (bb0:List Xe) _ kk0=>kk0 (.ex 0) ⟨[(3,.seg 3 [])],[sr 3 (.cd (.sl Xh) bb0)]⟩
theorem ok:Ya5 PR 23 1 (.loop c) fr:=
 Ywo Xg Xf h0 (G:=Xfp.G) Xfp.Gok [(0,([3],[3]))] (fun x s=>((x.1.1,x.1.2.1,s.1,x.1.2.2.2),(s.2,x.2.2)))
  (fun x s=>by simp only[B,mC,mB,mS,mO,mN];kernel_rfl)
end Xfo
namespace Xfp
def pts:List PT:=[.cs (.sl Xh)]
def FS:FS:=Yc8 [.sh] pts (fun x=>Xfp x.1) fun t=>⟨[.cd (.sl Xh) t],[]⟩
theorem ok:Ycs PR 92 FS:=
 Ywm Xg Xf Proofs.Tryz.f92 h0 (.R (.R (.L (.R (.one (.fr 0)))))) (G:=G) Gok (L:=mkL [(0,Xfo.fr)]) (l:=[(0,.loop Xfo.c)]) ⟨Lam.cons Xfo.ok,trivial⟩
  (fun x=>by simp only[Xfp,mC,mB,mS,mO,mN];kernel_rfl)
end Xfp
def Xie (a:Xb):Option Xb:=
 (Xic a.2.2.2.1).bind fun r=>(Xfp a.2.2.2.2.1).bind fun r2=>some (a.1,a.2.1,a.2.2.1,r,r2,())
namespace Xie
def G:Gam:=mkG [(91,Xic.FS),(92,Xfp.FS)]
def pts:List PT:=[.cs Xd]
def FS:FS:=Yc8 [.sh] pts (fun x=>Xie x.1) fun t=>⟨[.cd Xd t],[]⟩
theorem ok:Ycs PR 49 FS:=
 Ywm Xg Xf Proofs.Tryz.f49 ⟨[1],[],[],0⟩ .no (G:=G) (show GOk PR G from .cons Xic.ok (.cons Xfp.ok .nil)) (L:=mkL []) (l:=[]) hT
  (fun x=>by simp only[Xie,mC,mB,mS,mO,mN];kernel_rfl)
end Xie
def Xfq.B (a:List Xb) (i_:Int) (out_:List Xb):Option ((Int×List Xb)⊕(List Xb)):=
 cond (decide (i_<(a.length:Int))) (cond (inB i_ a.length) ((Xie (a.getD i_.toNat Xa)).bind fun r=>cond (inB i_ out_.length) ((some (out_.set i_.toNat (r.1,r.2.1,r.2.2.1,r.2.2.2.1,r.2.2.2.2.1,r.2.2.2.2.2))).bind fun out_2=>some (.inl (w64 (i_+1),out_2))) none) none) (some (.inr out_))
def Xfq (a:List Xb):(Int×List Xb)→Option (List Xb):=
 Yam fun s=>Xfq.B a s.1 s.2
def Xfr (a:List Xb):Option (List Xb):=
 cond (decide ((0:Int)≤(a.length:Int))&&(decide ((a.length:Int)≤(a.length:Int))&&decide ((a.length:Int)≤2147483648))) ((Xfq a (0,List.replicate (a.length:Int).toNat Xa)).bind fun o=>some o) none
namespace Xfr
def G:Gam:=mkG [(49,Xie.FS)]
theorem Gok:GOk PR G:=.cons Xie.ok .nil
end Xfr
namespace Xfq
noncomputable def c:=Yaq (Yal Proofs.Tryz.f20) [1,1,0,1,0,0]
def sp:SP:=⟨[(0,.cs (.sl Xd)),(3,.seg 3 []),(4,.cs I64)],[(3,.reg,.cd (.sl Xd))]⟩
def fr:=Yi1 sp (fun x s=>Xfq.B x.1.1 s.1 s.2) (fun x=>(x.1.2.2.1,x.2.1)) fun x (bb0:List Xb) _ kk0=>kk0 (.ex 0) ⟨[(3,.seg 3 [])],[sr 3 (.cd (.sl Xd) bb0)]⟩
theorem ok:Ya5 PR 23 1 (.loop c) fr:=
 Ywo Xg Xf h0 (G:=Xfr.G) Xfr.Gok [(0,([3],[3]))] (fun x s=>((x.1.1,x.1.2.1,s.1,x.1.2.2.2),(s.2,x.2.2)))
  (fun x s=>by simp only[B,mC,mB,mS,mO,mN];kernel_rfl)
end Xfq
namespace Xfr
def pts:List PT:=[.cs (.sl Xd)]
def FS:FS:=Yc8 [.sh] pts (fun x=>Xfr x.1) fun t=>⟨[.cd (.sl Xd) t],[]⟩
theorem ok:Ycs PR 20 FS:=
 Ywm Xg Xf Proofs.Tryz.f20 h0 (.R (.R (.L (.R (.one (.fr 0)))))) (G:=G) Gok (L:=mkL [(0,Xfq.fr)]) (l:=[(0,.loop Xfq.c)]) ⟨Lam.cons Xfq.ok,trivial⟩
  (fun x=>by simp only[Xfr,mC,mB,mS,mO,mN];kernel_rfl)
end Xfr
def Xfs.B (a:List Int) (i_:Int) (out_:List Int):Option ((Int×List Int)⊕(List Int)):=
 cond (decide (i_<(a.length:Int))) (cond (inB i_ a.length) (cond (inB i_ out_.length) (some (.inl (w64 (i_+1),out_.set i_.toNat (a.getD i_.toNat 0)))) none) none) (some (.inr out_))
def Xfs (a:List Int):(Int×List Int)→Option (List Int):=
 Yam fun s=>Xfs.B a s.1 s.2
def Xif (a:List Int):Option (List Int):=
 cond (decide ((0:Int)≤(a.length:Int))&&(decide ((a.length:Int)≤(a.length:Int))&&decide ((a.length:Int)≤2147483648))) ((Xfs a (0,List.replicate (a.length:Int).toNat 0)).bind fun o=>some o) none
namespace Xfs
noncomputable def c:=Yaq (Yal Proofs.Tryz.f50) [1,1,0,1,0,0]
def sp:SP:=⟨[(0,.cs SB),(3,.seg 3 []),(4,.cs I64)],[(3,.reg,.cd SB)]⟩
def fr:=Yi1 sp (fun x s=>Xfs.B x.1.1 s.1 s.2) (fun x=>(x.1.2.2.1,x.2.1)) fun x (bb0:List Int) _ kk0=>kk0 (.ex 0) ⟨[(3,.seg 3 [])],[sr 3 (.cd SB bb0)]⟩
theorem ok:Ya5 PR 22 1 (.loop c) fr:=
 Ywg Xg Xf h0 [(0,([3],[3]))] (fun x s=>((x.1.1,x.1.2.1,s.1,x.1.2.2.2),(s.2,x.2.2)))
  (fun x s=>by simp only[B,mC,mB,mS,mO,mN];kernel_rfl)
end Xfs
namespace Xif
def pts:List PT:=[.cs SB]
def FS:FS:=Yc8 [.sh] pts (fun x=>Xif x.1) fun t=>⟨[.cd SB t],[]⟩
theorem ok:Ycs PR 50 FS:=
 Ywm Xg Xf Proofs.Tryz.f50 h0 (.R (.R (.L (.R (.one (.fr 0)))))) (G:=(mkG [])) .nil (L:=mkL [(0,Xfs.fr)]) (l:=[(0,.loop Xfs.c)]) ⟨Lam.cons Xfs.ok,trivial⟩
  (fun x=>by simp only[Xif,mC,mB,mS,mO,mN];kernel_rfl)
end Xif
def Xft.B (a:List (List Int)) (i_:Int) (out_:List (List Int)):Option ((Int×List (List Int))⊕(List (List Int))):=
 cond (decide (i_<(a.length:Int))) (cond (inB i_ a.length) ((Xif (a.getD i_.toNat [])).bind fun r=>cond (inB i_ out_.length) (some (.inl (w64 (i_+1),out_.set i_.toNat r))) none) none) (some (.inr out_))
def Xft (a:List (List Int)):(Int×List (List Int))→Option (List (List Int)):=
 Yam fun s=>Xft.B a s.1 s.2
def Xfu (a:List (List Int)):Option (List (List Int)):=
 cond (decide ((0:Int)≤(a.length:Int))&&(decide ((a.length:Int)≤(a.length:Int))&&decide ((a.length:Int)≤2147483648))) ((some (List.replicate (a.length:Int).toNat ([]:List Int))).bind fun v=>(Xft a (0,v)).bind fun o=>some o) none
namespace Xfu
def G:Gam:=mkG [(50,Xif.FS)]
theorem Gok:GOk PR G:=.cons Xif.ok .nil
end Xfu
namespace Xft
noncomputable def c:=Yaq (Yal Proofs.Tryz.f21) [1,1,0,1,0,0]
def sp:SP:=⟨[(0,.cs (.sl SB)),(3,.seg 3 []),(4,.cs I64)],[(3,.reg,.cd (.sl SB))]⟩
def fr:=Yi1 sp (fun x s=>Xft.B x.1.1 s.1 s.2) (fun x=>(x.1.2.2.1,x.2.1)) fun x (bb0:List (List Int)) _ kk0=>kk0 (.ex 0) ⟨[(3,.seg 3 [])],[sr 3 (.cd (.sl SB) bb0)]⟩
theorem ok:Ya5 PR 23 1 (.loop c) fr:=
 Ywo Xg Xf h0 (G:=Xfu.G) Xfu.Gok [(0,([3],[3]))] (fun x s=>((x.1.1,x.1.2.1,s.1,x.1.2.2.2),(s.2,x.2.2)))
  (fun x s=>by simp only[B,mC,mB,mS,mO,mN];kernel_rfl)
end Xft
namespace Xfu
def pts:List PT:=[.cs (.sl SB)]
def FS:FS:=Yc8 [.sh] pts (fun x=>Xfu x.1) fun t=>⟨[.cd (.sl SB) t],[]⟩
theorem ok:Ycs PR 21 FS:=
 Ywm Xg Xf Proofs.Tryz.f21 h0 (.R (.R (.L (.R (.one (.fr 0)))))) (G:=G) Gok (L:=mkL [(0,Xft.fr)]) (l:=[(0,.loop Xft.c)]) ⟨Lam.cons Xft.ok,trivial⟩
  (fun x=>by simp only[Xfu,mC,mB,mS,mO,mN];kernel_rfl)
end Xfu
def Xg1 (a:Fs_):Option Fs_:=
 (Xfr a.1).bind fun r=>(Xfu a.2.1).bind fun r2=>some (r,r2,())
namespace Xg1
def G:Gam:=mkG [(20,Xfr.FS),(21,Xfu.FS)]
def pts:List PT:=[.cs Xk]
def FS:FS:=Yc8 [.sh] pts (fun x=>Xg1 x.1) fun t=>⟨[.cd Xk t],[]⟩
theorem ok:Ycs PR 7 FS:=
 Ywm Xg Xf Proofs.Tryz.f7 ⟨[1],[],[],0⟩ .no (G:=G) (show GOk PR G from .cons Xfr.ok (.cons Xfu.ok .nil)) (L:=mkL []) (l:=[]) hT
  (fun x=>by simp only[Xg1,mC,mB,mS,mO,mN];kernel_rfl)
end Xg1
def Xdp (v:Int) (v2:Int) (v3:Int):Option Bool:=
 some (cond (decide (v≥v2)) (decide (v≤v3)) false)
namespace Xdp
def pts:List PT:=[.cs I64,.cs I64,.cs I64]
def FS:FS:=Yc8 [.sh,.sh,.sh] pts (fun x=>Xdp x.1 x.2.1 x.2.2.1) fun t=>⟨[.cs .bool t],[]⟩
theorem ok:Ycs PR 121 FS:=
 Ywm Xg Xf Proofs.Tryz.f121 h0 .no (G:=(mkG [])) .nil (L:=mkL []) (l:=[]) hT
  (fun x=>by simp only[Xdp,mC,mB,mS,mO,mN];kernel_rfl)
end Xdp
def Xiv (v:Int):Option Bool:=
 (Xdp v 0 32).bind fun v2=>some v2
namespace Xiv
def G:Gam:=mkG [(121,Xdp.FS)]
def pts:List PT:=[.cs I64]
def FS:FS:=Yc8 [.sh] pts (fun x=>Xiv x.1) fun t=>⟨[.cs .bool t],[]⟩
theorem ok:Ycs PR 147 FS:=
 Ywm Xg Xf Proofs.Tryz.f147 h0 .no (G:=G) (show GOk PR G from .cons Xdp.ok .nil) (L:=mkL []) (l:=[]) hT
  (fun x=>by simp only[Xiv,mC,mB,mS,mO,mN];kernel_rfl)
end Xiv
def Xiw (v:Int):Option Int:=
 cond (!((8:Int) == 0)) (some (w64 ((w64 ((w64 (v+8))-1)).tdiv 8))) none
namespace Xiw
def pts:List PT:=[.cs I64]
def FS:FS:=Yc8 [.sh] pts (fun x=>Xiw x.1) fun t=>⟨[.cs I64 t],[]⟩
theorem ok:Ycs PR 148 FS:=
 Ywm Xg Xf Proofs.Tryz.f148 h0 .no (G:=(mkG [])) .nil (L:=mkL []) (l:=[]) hT
  (fun x=>by simp only[Xiw,mC,mB,mS,mO,mN];kernel_rfl)
end Xiw
def Xg2.B (v:Xb) (v5:Int):Option (Int⊕((Int⊕Unit))):=
 cond (decide (v5<(v.2.2.2.1.length:Int))) (cond (inB v5 v.2.2.2.1.length) ((Xdp (v.2.2.2.1.getD v5.toNat 0) 0 19).bind fun v6=>cond (!v6) (some (.inr (.inl 3))) (some (.inl (w64 (v5+1))))) none) (some (.inr (.inr ())))
def Xg2 (v:Xb):Int→Option ((Int⊕Unit)):=
 Yam fun s=>Xg2.B v s
def Xe9.B (v:Xb) (v10:Int) (v11:Int):Option (Int⊕((Int⊕Unit))):=
 cond (decide (v11<v10)) (cond (inB v11 v.2.2.2.1.length) (cond (inB v10 v.2.2.2.1.length) ((some ((v.2.2.2.1.getD v11.toNat 0) == (v.2.2.2.1.getD v10.toNat 0))).bind fun v12=>cond v12 (some (.inr (.inl 7))) (some (.inl (w64 (v11+1))))) none) none) (some (.inr (.inr ())))
def Xe9 (v:Xb) (v10:Int):Int→Option ((Int⊕Unit)):=
 Yam fun s=>Xe9.B v v10 s
def Xfv.B (v:Xb) (v10:Int):Option (Int⊕((Int⊕Unit))):=
 cond (decide (v10<(v.2.2.2.1.length:Int))) ((Xe9 v v10 0).bind fun v13=>sel v13 (fun v14=>some (.inr (.inl v14))) (fun v15=>some (.inl (w64 (v10+1))))) (some (.inr (.inr ())))
def Xfv (v:Xb):Int→Option ((Int⊕Unit)):=
 Yam fun s=>Xfv.B v s
def Xdw (v:Xb):Option Int:=
 (Xdp v.2.1 1 60).bind fun v2=>cond (!v2) (some 3) ((Xiv v.2.2.1).bind fun v3=>cond (!v3) (some 3) ((Xiw v.2.2.1).bind fun v4=>cond ((v.2.2.2.1.length:Int) != v4) (some 1) ((Xg2 v 0).bind fun v7=>sel v7 (fun v8=>some v8) (fun v9=>(Xfv v 0).bind fun v16=>sel v16 (fun v17=>some v17) (fun v18=>some 0)))))
namespace Xdw
def G:Gam:=mkG [(121,Xdp.FS),(147,Xiv.FS),(148,Xiw.FS)]
theorem Gok:GOk PR G:=.cons Xdp.ok (.cons Xiv.ok (.cons Xiw.ok .nil))
end Xdw
namespace Xg2
noncomputable def c:=Yaq (Yal Proofs.Tryz.f137) [1,1,1,0,1,0,0]
def sp:SP:=⟨[(0,.pt Xd),(3,.cs I64)],[]⟩
def fr:=Yi1 sp (fun x s=>Xg2.B x.1.1 s) (fun x=>x.1.2.1) fun x (oo0:(Int⊕Unit)) _ kk0=>sel oo0 (fun bb0=>kk0 (.rt) ⟨[(2,.cs I64 bb0)],[]⟩) (fun cc0=>kk0 (.ex 0) ⟨[(0,.pt Xd x.1.1)],[]⟩)
theorem ok:Ya5 PR 78 1 (.loop c) fr:=
 Ys4 Xg Xf h0 .no (G:=Xdw.G) Xdw.Gok (L:=mkL []) (l:=[]) hT [(0,([0],[]))] ([2],[]) (fun x s=>((x.1.1,s,x.1.2.2),x.2))
  (fun x s=>by simp only[B,mC,mB,mS,mO,mN];kernel_rfl)
end Xg2
namespace Xe9
noncomputable def c:=Yaq (Yal Proofs.Tryz.f137) [1,1,1,1,0,1,0,0,1,0,0,1,0,0]
def sp:SP:=⟨[(0,.pt Xd),(4,.cs I64),(5,.cs I64)],[]⟩
def fr:=Yi1 sp (fun x s=>Xe9.B x.1.1 x.1.2.1 s) (fun x=>x.1.2.2.1) fun x (oo0:(Int⊕Unit)) _ kk0=>sel oo0 (fun bb0=>kk0 (.rt) ⟨[(2,.cs I64 bb0)],[]⟩) (fun cc0=>kk0 (.ex 4) ⟨[(0,.pt Xd x.1.1),(4,.cs I64 x.1.2.1)],[]⟩)
theorem ok:Ya5 PR 78 1 (.loop c) fr:=
 Ys4 Xg Xf h0 .no (G:=Xdw.G) Xdw.Gok (L:=mkL []) (l:=[]) hT [(4,([0,4],[]))] ([2],[]) (fun x s=>((x.1.1,x.1.2.1,s,x.1.2.2.2),x.2))
  (fun x s=>by simp only[B,mC,mB,mS,mO,mN];kernel_rfl)
end Xe9
namespace Xfv
noncomputable def c:=Yaq (Yal Proofs.Tryz.f137) [1,1,1,1,0,1,0,0]
def sp:SP:=⟨[(0,.pt Xd),(4,.cs I64)],[]⟩
def fr:=Yi1 sp (fun x s=>Xfv.B x.1.1 s) (fun x=>x.1.2.1) fun x (oo0:(Int⊕Unit)) _ kk0=>sel oo0 (fun bb0=>kk0 (.rt) ⟨[(2,.cs I64 bb0)],[]⟩) (fun cc0=>kk0 (.ex 2) ⟨[],[]⟩)
theorem ok:Ya5 PR 78 1 (.loop c) fr:=
 Ys4 Xg Xf h0 (.R (.L (.one (.R (.one (.fr 2)))))) (G:=Xdw.G) Xdw.Gok (L:=mkL [(2,Xe9.fr)]) (l:=[(2,.loop Xe9.c)]) ⟨Lam.cons Xe9.ok,trivial⟩ [(2,([],[]))] ([2],[]) (fun x s=>((x.1.1,s,x.1.2.2),x.2))
  (fun x s=>by simp only[B,mC,mB,mS,mO,mN];kernel_rfl)
end Xfv
namespace Xdw
def pts:List PT:=[.pt Xd]
def FS:FS:=Yc8 [.sh] pts (fun x=>Xdw x.1) fun t=>⟨[.cs I64 t],[]⟩
theorem ok:Ycs PR 137 FS:=
 Ywm Xg Xf Proofs.Tryz.f137 h0 (.R (.R (.R (.two (.R (.one (.fr 0))) (.L (.R (.one (.fr 1)))))))) (G:=G) Gok (L:=mkL [(0,Xg2.fr),(2,Xe9.fr),(1,Xfv.fr)]) (l:=[(0,.loop Xg2.c),(1,.loop Xfv.c)]) ⟨Lam.cons Xg2.ok,Lam.skip rfl (Lam.skip rfl (Lam.cons Xfv.ok)),trivial⟩
  (fun x=>by simp only[Xdw,mC,mB,mS,mO,mN];kernel_rfl)
end Xdw
def Xg3.B (v:List UInt8) (v2:Int):Option (Int⊕((Int⊕Unit))):=
 cond (decide (v2<(v.length:Int))) (cond (inB v2 v.length) (cond (cond (!(decide (((v.getD v2.toNat 0).toNat:Int)<97))) (inB v2 v.length) true) ((some (cond (decide (((v.getD v2.toNat 0).toNat:Int)<97)) true (decide (((v.getD v2.toNat 0).toNat:Int)>122)))).bind fun v3=>cond v3 (some (.inr (.inl 5))) (some (.inl (w64 (v2+1))))) none) none) (some (.inr (.inr ())))
def Xg3 (v:List UInt8):Int→Option ((Int⊕Unit)):=
 Yam fun s=>Xg3.B v s
def Xg4 (v:List UInt8):Option Int:=
 (Xg3 v 0).bind fun v4=>sel v4 (fun v5=>some v5) (fun v6=>cond (v == ([]:List UInt8)) (some 5) (cond (decide ((v.length:Int)>4)) (some 2) (some 0)))
namespace Xg3
noncomputable def c:=Yaq (Yal Proofs.Tryz.f139) [1,0,1,0,0]
def sp:SP:=⟨[(0,.cs .str),(3,.cs I64)],[]⟩
def fr:=Yi1 sp (fun x s=>Xg3.B x.1.1 s) (fun x=>x.1.2.1) fun x (oo0:(Int⊕Unit)) _ kk0=>sel oo0 (fun bb0=>kk0 (.rt) ⟨[(2,.cs I64 bb0)],[]⟩) (fun cc0=>kk0 (.ex 0) ⟨[(0,.cs .str x.1.1)],[]⟩)
theorem ok:Ya5 PR 25 1 (.loop c) fr:=
 Ys4 Xg Xf h0 .no (G:=(mkG [])) .nil (L:=mkL []) (l:=[]) hT [(0,([0],[]))] ([2],[]) (fun x s=>((x.1.1,s,x.1.2.2),x.2))
  (fun x s=>by simp only[B,mC,mB,mS,mO,mN];kernel_rfl)
end Xg3
namespace Xg4
def pts:List PT:=[.cs .str]
def FS:FS:=Yc8 [.sh] pts (fun x=>Xg4 x.1) fun t=>⟨[.cs I64 t],[]⟩
theorem ok:Ycs PR 139 FS:=
 Ywm Xg Xf Proofs.Tryz.f139 h0 (.R (.L (.R (.one (.fr 0))))) (G:=(mkG [])) .nil (L:=mkL [(0,Xg3.fr)]) (l:=[(0,.loop Xg3.c)]) ⟨Lam.cons Xg3.ok,trivial⟩
  (fun x=>by simp only[Xg4,mC,mB,mS,mO,mN];kernel_rfl)
end Xg4
def Xfw.B (v:Xb) (v2:Int):Option (Int⊕((Int⊕Unit))):=
 cond (decide (v2<(v.2.2.2.2.1.length:Int))) (cond (inB v2 v.2.2.2.2.1.length) ((Xg4 (v.2.2.2.2.1.getD v2.toNat Xj).1).bind fun v3=>cond (v3 != 0) (some (.inr (.inl v3))) (cond (inB v2 v.2.2.2.2.1.length) ((Xdp (v.2.2.2.2.1.getD v2.toNat Xj).2.1 0 9).bind fun v4=>cond (!v4) (some (.inr (.inl 3))) (cond (cond (decide (v2>0)) (inB v2 v.2.2.2.2.1.length) true) (cond (cond (decide (v2>0)) (inB (w64 (v2-1)) v.2.2.2.2.1.length) true) ((some (cond (decide (v2>0)) (leB (v.2.2.2.2.1.getD v2.toNat Xj).1 (v.2.2.2.2.1.getD (w64 (v2-1)).toNat Xj).1 || (v.2.2.2.2.1.getD v2.toNat Xj).1 == (v.2.2.2.2.1.getD (w64 (v2-1)).toNat Xj).1) false)).bind fun v5=>cond v5 (some (.inr (.inl 1))) (some (.inl (w64 (v2+1))))) none) none)) none)) none) (some (.inr (.inr ())))
def Xfw (v:Xb):Int→Option ((Int⊕Unit)):=
 Yam fun s=>Xfw.B v s
def Xfx (v:Xb):Option Int:=
 cond (decide ((v.2.2.2.2.1.length:Int)>6)) (some 2) ((Xfw v 0).bind fun v6=>sel v6 (fun v7=>some v7) (fun v8=>some 0))
namespace Xfx
def G:Gam:=mkG [(139,Xg4.FS),(121,Xdp.FS)]
theorem Gok:GOk PR G:=.cons Xg4.ok (.cons Xdp.ok .nil)
end Xfx
namespace Xfw
noncomputable def c:=Yaq (Yal Proofs.Tryz.f138) [1,1,0,1,0,0]
def sp:SP:=⟨[(0,.pt Xd),(3,.cs I64)],[]⟩
def fr:=Yi1 sp (fun x s=>Xfw.B x.1.1 s) (fun x=>x.1.2.1) fun x (oo0:(Int⊕Unit)) _ kk0=>sel oo0 (fun bb0=>kk0 (.rt) ⟨[(2,.cs I64 bb0)],[]⟩) (fun cc0=>kk0 (.ex 0) ⟨[],[]⟩)
theorem ok:Ya5 PR 64 1 (.loop c) fr:=
 Ys4 Xg Xf h0 .no (G:=Xfx.G) Xfx.Gok (L:=mkL []) (l:=[]) hT [(0,([],[]))] ([2],[]) (fun x s=>((x.1.1,s,x.1.2.2),x.2))
  (fun x s=>by simp only[B,mC,mB,mS,mO,mN];kernel_rfl)
end Xfw
namespace Xfx
def pts:List PT:=[.pt Xd]
def FS:FS:=Yc8 [.sh] pts (fun x=>Xfx x.1) fun t=>⟨[.cs I64 t],[]⟩
theorem ok:Ycs PR 138 FS:=
 Ywm Xg Xf Proofs.Tryz.f138 h0 (.R (.R (.L (.R (.one (.fr 0)))))) (G:=G) Gok (L:=mkL [(0,Xfw.fr)]) (l:=[(0,.loop Xfw.c)]) ⟨Lam.cons Xfw.ok,trivial⟩
  (fun x=>by simp only[Xfx,mC,mB,mS,mO,mN];kernel_rfl)
end Xfx
def Xig (v:Xb):Option Int:=
 (Xdp v.1 0 2).bind fun v2=>cond (!v2) (some 1) ((some (cond (v.1 != 1) (cond (cond (v.2.1 != 0) true (v.2.2.1 != 0)) true (decide ((v.2.2.2.1.length:Int)>0))) false)).bind fun v3=>(some (cond v3 true (cond (v.1 != 2) (decide ((v.2.2.2.2.1.length:Int)>0)) false))).bind fun v4=>cond v4 (some 1) (cond (v.1 == 1) ((Xdw v).bind fun v5=>some v5) (cond (v.1 == 2) ((Xfx v).bind fun v6=>some v6) (some 0))))
namespace Xig
def G:Gam:=mkG [(121,Xdp.FS),(137,Xdw.FS),(138,Xfx.FS)]
def pts:List PT:=[.pt Xd]
def FS:FS:=Yc8 [.sh] pts (fun x=>Xig x.1) fun t=>⟨[.cs I64 t],[]⟩
theorem ok:Ycs PR 116 FS:=
 Ywm Xg Xf Proofs.Tryz.f116 h0 .no (G:=G) (show GOk PR G from .cons Xdp.ok (.cons Xdw.ok (.cons Xfx.ok .nil))) (L:=mkL []) (l:=[]) hT
  (fun x=>by simp only[Xig,mC,mB,mS,mO,mN];kernel_rfl)
end Xig
def Xg5.B (v:List Xb) (v2:Int):Option (Int⊕((Int⊕Unit))):=
 cond (decide (v2<(v.length:Int))) (cond (inB v2 v.length) ((Xig (v.getD v2.toNat Xa)).bind fun v3=>cond (v3 != 0) (some (.inr (.inl v3))) (some (.inl (w64 (v2+1))))) none) (some (.inr (.inr ())))
def Xg5 (v:List Xb):Int→Option ((Int⊕Unit)):=
 Yam fun s=>Xg5.B v s
def Xfy (v:List Xb):Option Int:=
 cond (decide ((v.length:Int)>10)) (some 2) ((Xg5 v 0).bind fun v4=>sel v4 (fun v5=>some v5) (fun v6=>some 0))
namespace Xfy
def G:Gam:=mkG [(116,Xig.FS)]
theorem Gok:GOk PR G:=.cons Xig.ok .nil
end Xfy
namespace Xg5
noncomputable def c:=Yaq (Yal Proofs.Tryz.f80) [1,1,0,1,0,0]
def sp:SP:=⟨[(0,.cs (.sl Xd)),(3,.cs I64)],[]⟩
def fr:=Yi1 sp (fun x s=>Xg5.B x.1.1 s) (fun x=>x.1.2.1) fun x (oo0:(Int⊕Unit)) _ kk0=>sel oo0 (fun bb0=>kk0 (.rt) ⟨[(2,.cs I64 bb0)],[]⟩) (fun cc0=>kk0 (.ex 0) ⟨[],[]⟩)
theorem ok:Ya5 PR 21 1 (.loop c) fr:=
 Ys4 Xg Xf h0 .no (G:=Xfy.G) Xfy.Gok (L:=mkL []) (l:=[]) hT [(0,([],[]))] ([2],[]) (fun x s=>((x.1.1,s,x.1.2.2),x.2))
  (fun x s=>by simp only[B,mC,mB,mS,mO,mN];kernel_rfl)
end Xg5
namespace Xfy
def pts:List PT:=[.cs (.sl Xd)]
def FS:FS:=Yc8 [.sh] pts (fun x=>Xfy x.1) fun t=>⟨[.cs I64 t],[]⟩
theorem ok:Ycs PR 80 FS:=
 Ywm Xg Xf Proofs.Tryz.f80 h0 (.R (.R (.L (.R (.one (.fr 0)))))) (G:=G) Gok (L:=mkL [(0,Xg5.fr)]) (l:=[(0,.loop Xg5.c)]) ⟨Lam.cons Xg5.ok,trivial⟩
  (fun x=>by simp only[Xfy,mC,mB,mS,mO,mN];kernel_rfl)
end Xfy
def Xfa.B (v:List Xb) (v2:Int) (v4:Int) (v5:Int) (v6:Int):Option ((Int×Int)⊕Int):=
 cond (inB v4 v.length) ((some ((v.getD v4.toNat Xa).2.2.2.1.length:Int)).bind fun v7=>cond (decide (v6<v7)) (cond (inB v4 v.length) (cond (inB v6 ((v.getD v4.toNat Xa).2.2.2.1.length)) ((some ((v.getD v4.toNat Xa).2.2.2.1.getD v6.toNat 0)).bind fun v8=>cond (v8 == v2) (some (.inl (w64 (v5+1),w64 (v6+1)))) (some (.inl (v5,w64 (v6+1))))) none) none) (some (.inr v5))) none
def Xfa (v:List Xb) (v2:Int) (v4:Int):(Int×Int)→Option Int:=
 Yam fun s=>Xfa.B v v2 v4 s.1 s.2
def Xfz.B (v:List Xb) (v2:Int) (v3:Int) (v4:Int):Option ((Int×Int)⊕Int):=
 cond (decide (v4<(v.length:Int))) ((Xfa v v2 v4 (v3,0)).bind fun v9=>some (.inl (v9,w64 (v4+1)))) (some (.inr v3))
def Xfz (v:List Xb) (v2:Int):(Int×Int)→Option Int:=
 Yam fun s=>Xfz.B v v2 s.1 s.2
def Xih (v:List Xb) (v2:Int):Option Int:=
 (Xfz v v2 (0,0)).bind fun v10=>some v10
namespace Xfa
noncomputable def c:=Yaq (Yal Proofs.Tryz.f117) [1,1,0,1,0,0,1,0,0,1,0,0]
def sp:SP:=⟨[(0,.cs (.sl Xd)),(1,.cs I64),(5,.cs I64),(6,.cs I64),(7,.cs I64)],[]⟩
def fr:=Yi1 sp (fun x s=>Xfa.B x.1.1 x.1.2.1 x.1.2.2.2.1 s.1 s.2) (fun x=>(x.1.2.2.1,x.1.2.2.2.2.1)) fun x (bb0:Int) _ kk0=>kk0 (.ex 2) ⟨[(0,.cs (.sl Xd) x.1.1),(1,.cs I64 x.1.2.1),(5,.cs I64 bb0),(6,.cs I64 x.1.2.2.2.1)],[]⟩
theorem ok:Ya5 PR 37 2 (.loop c) fr:=
 Ywg Xg Xf h0 [(2,([0,1,5,6],[]))] (fun x s=>((x.1.1,x.1.2.1,s.1,x.1.2.2.2.1,s.2,x.1.2.2.2.2.2),x.2))
  (fun x s=>by simp only[B,mC,mB,mS,mO,mN];kernel_rfl)
end Xfa
namespace Xfz
noncomputable def c:=Yaq (Yal Proofs.Tryz.f117) [1,1,0,1,0,0]
def sp:SP:=⟨[(0,.cs (.sl Xd)),(1,.cs I64),(5,.cs I64),(6,.cs I64)],[]⟩
def fr:=Yi1 sp (fun x s=>Xfz.B x.1.1 x.1.2.1 s.1 s.2) (fun x=>(x.1.2.2.1,x.1.2.2.2.1)) fun x (bb0:Int) _ kk0=>kk0 (.ex 0) ⟨[(5,.cs I64 bb0)],[]⟩
theorem ok:Ya5 PR 37 2 (.loop c) fr:=
 Ywn Xg Xf h0 (.R (.L (.one (.R (.one (.fr 1)))))) (L:=mkL [(1,Xfa.fr)]) (l:=[(1,.loop Xfa.c)]) ⟨Lam.cons Xfa.ok,trivial⟩ [(0,([5],[]))] (fun x s=>((x.1.1,x.1.2.1,s.1,s.2,x.1.2.2.2.2),x.2))
  (fun x s=>by simp only[B,mC,mB,mS,mO,mN];kernel_rfl)
end Xfz
namespace Xih
def pts:List PT:=[.cs (.sl Xd),.cs I64]
def FS:FS:=Yc8 [.sh,.sh] pts (fun x=>Xih x.1 x.2.1) fun t=>⟨[.cs I64 t],[]⟩
theorem ok:Ycs PR 117 FS:=
 Ywm Xg Xf Proofs.Tryz.f117 h0 (.R (.R (.L (.R (.one (.fr 0)))))) (G:=(mkG [])) .nil (L:=mkL [(1,Xfa.fr),(0,Xfz.fr)]) (l:=[(0,.loop Xfz.c)]) ⟨Lam.skip rfl (Lam.cons Xfz.ok),trivial⟩
  (fun x=>by simp only[Xih,mC,mB,mS,mO,mN];kernel_rfl)
end Xih
def Xg6.B (v:List Xb) (v2:Bool) (v3:Int) (v4:List Int):Option ((Bool×Int×List Int)⊕(Bool×List Int)):=
 cond (decide (v3<20)) ((Xih v v3).bind fun v5=>cond (decide (v5>0)) (cond (decide ((v4++([v3])).length≤2147483648)) (some (.inl (cond v2 (decide (v5≤1)) false,w64 (v3+1),v4++([v3])))) none) (some (.inl (cond v2 (decide (v5≤1)) false,w64 (v3+1),v4)))) (some (.inr (v2,v4)))
def Xg6 (v:List Xb):(Bool×Int×List Int)→Option (Bool×List Int):=
 Yam fun s=>Xg6.B v s.1 s.2.1 s.2.2
def Xf0 (v:List Xb):Option ((List Int)×Bool):=
 (Xg6 v (true,0,[])).bind fun v6=>some (v6.2,v6.1)
namespace Xf0
def G:Gam:=mkG [(117,Xih.FS)]
theorem Gok:GOk PR G:=.cons Xih.ok .nil
end Xf0
namespace Xg6
noncomputable def c:=Yaq (Yal Proofs.Tryz.f81) [1,1,1,0,1,0,0]
def sp:SP:=⟨[(0,.cs (.sl Xd)),(4,.seg 4 []),(5,.cs .bool),(6,.cs I64)],[(4,.reg,.cd SI)]⟩
def fr:=Yi1 sp (fun x s=>Xg6.B x.1.1 s.1 s.2.1 s.2.2) (fun x=>(x.1.2.2.1,x.1.2.2.2.1,x.2.1)) fun x (bb0:Bool×List Int) _ kk0=>kk0 (.ex 0) ⟨[(4,.seg 4 []),(5,.cs .bool bb0.1)],[sr 4 (.cd SI bb0.2)]⟩
theorem ok:Ya5 PR 29 1 (.loop c) fr:=
 Ywo Xg Xf h0 (G:=Xf0.G) Xf0.Gok [(0,([4,5],[4]))] (fun x s=>((x.1.1,x.1.2.1,s.1,s.2.1,x.1.2.2.2.2),(s.2.2,x.2.2)))
  (fun x s=>by simp only[B,mC,mB,mS,mO,mN];kernel_rfl)
end Xg6
namespace Xf0
def pts:List PT:=[.cs (.sl Xd)]
def FS:FS:=Yc8 [.sh] pts (fun x=>Xf0 x.1) fun t=>⟨[.cd SI t.1,.cs .bool t.2],[]⟩
theorem ok:Ycs PR 81 FS:=
 Ywm Xg Xf Proofs.Tryz.f81 h0 (.R (.R (.R (.L (.R (.one (.fr 0))))))) (G:=G) Gok (L:=mkL [(0,Xg6.fr)]) (l:=[(0,.loop Xg6.c)]) ⟨Lam.cons Xg6.ok,trivial⟩
  (fun x=>by simp only[Xf0,mC,mB,mS,mO,mN];kernel_rfl)
end Xf0
def Xg7.B (v:Fs_) (v4:Int):Option (Int⊕((Int⊕Unit))):=
 cond (decide (v4<(v.2.1.length:Int))) (cond (inB v4 v.2.1.length) ((some (decide (((v.2.1.getD v4.toNat []).length:Int)>8))).bind fun v5=>cond v5 (some (.inr (.inl 2))) (some (.inl (w64 (v4+1))))) none) (some (.inr (.inr ())))
def Xg7 (v:Fs_):Int→Option ((Int⊕Unit)):=
 Yam fun s=>Xg7.B v s
def Xfb.B (v:Fs_) (v10:Int) (v11:Int):Option (Int⊕((Int⊕Unit))):=
 cond (inB v10 v.1.length) ((some ((v.1.getD v10.toNat Xa).2.2.2.2.1.length:Int)).bind fun v12=>cond (decide (v11<v12)) (cond (inB v10 v.1.length) (cond (inB v11 ((v.1.getD v10.toNat Xa).2.2.2.2.1.length)) ((some ((v.1.getD v10.toNat Xa).2.2.2.2.1.getD v11.toNat Xj).2.1).bind fun v13=>cond (cond (!(decide (v13≥(v.1.length:Int)))) (inB v13 v.1.length) true) ((some (cond (decide (v13≥(v.1.length:Int))) true ((v.1.getD v13.toNat Xa).1 == 0))).bind fun v14=>cond v14 (some (.inr (.inl 4))) (some (.inl (w64 (v11+1))))) none) none) none) (some (.inr (.inr ())))) none
def Xfb (v:Fs_) (v10:Int):Int→Option ((Int⊕Unit)):=
 Yam fun s=>Xfb.B v v10 s
def Xg8.B (v:Fs_) (v10:Int):Option (Int⊕((Int⊕Unit))):=
 cond (decide (v10<(v.1.length:Int))) ((Xfb v v10 0).bind fun v15=>sel v15 (fun v16=>some (.inr (.inl v16))) (fun v17=>some (.inl (w64 (v10+1))))) (some (.inr (.inr ())))
def Xg8 (v:Fs_):Int→Option ((Int⊕Unit)):=
 Yam fun s=>Xg8.B v s
def Xdx (v:Fs_):Option Int:=
 (Xfy v.1).bind fun v2=>cond (v2 != 0) (some v2) (cond (cond (!((v.1.length:Int) == 0)) (inB 0 v.1.length) true) ((some (cond ((v.1.length:Int) == 0) true ((v.1.getD (0:Int).toNat Xa).1 != 2))).bind fun v3=>cond (cond v3 true ((v.2.1.length:Int) != 20)) (some 1) ((Xg7 v 0).bind fun v6=>sel v6 (fun v7=>some v7) (fun v8=>(Xf0 v.1).bind fun v9=>cond (!v9.2) (some 7) ((Xg8 v 0).bind fun v18=>sel v18 (fun v19=>some v19) (fun v20=>some 0))))) none)
namespace Xdx
def G:Gam:=mkG [(80,Xfy.FS),(81,Xf0.FS)]
theorem Gok:GOk PR G:=.cons Xfy.ok (.cons Xf0.ok .nil)
end Xdx
namespace Xg7
noncomputable def c:=Yaq (Yal Proofs.Tryz.f41) [1,1,1,0,1,0,0]
def sp:SP:=⟨[(0,.pt Xk),(4,.cs I64)],[]⟩
def fr:=Yi1 sp (fun x s=>Xg7.B x.1.1 s) (fun x=>x.1.2.1) fun x (oo0:(Int⊕Unit)) _ kk0=>sel oo0 (fun bb0=>kk0 (.rt) ⟨[(2,.cs I64 bb0)],[]⟩) (fun cc0=>kk0 (.ex 0) ⟨[(0,.pt Xk x.1.1)],[]⟩)
theorem ok:Ya5 PR 122 1 (.loop c) fr:=
 Ys4 Xg Xf h0 .no (G:=Xdx.G) Xdx.Gok (L:=mkL []) (l:=[]) hT [(0,([0],[]))] ([2],[]) (fun x s=>((x.1.1,s,x.1.2.2),x.2))
  (fun x s=>by simp only[B,mC,mB,mS,mO,mN];kernel_rfl)
end Xg7
namespace Xfb
noncomputable def c:=Yaq (Yal Proofs.Tryz.f41) [1,1,1,1,1,0,1,0,0,1,0,0,1,0,0]
def sp:SP:=⟨[(0,.pt Xk),(7,.cs I64),(8,.cs I64)],[]⟩
def fr:=Yi1 sp (fun x s=>Xfb.B x.1.1 x.1.2.1 s) (fun x=>x.1.2.2.1) fun x (oo0:(Int⊕Unit)) _ kk0=>sel oo0 (fun bb0=>kk0 (.rt) ⟨[(2,.cs I64 bb0)],[]⟩) (fun cc0=>kk0 (.ex 4) ⟨[(0,.pt Xk x.1.1),(7,.cs I64 x.1.2.1)],[]⟩)
theorem ok:Ya5 PR 122 1 (.loop c) fr:=
 Ys4 Xg Xf h0 .no (G:=Xdx.G) Xdx.Gok (L:=mkL []) (l:=[]) hT [(4,([0,7],[]))] ([2],[]) (fun x s=>((x.1.1,x.1.2.1,s,x.1.2.2.2),x.2))
  (fun x s=>by simp only[B,mC,mB,mS,mO,mN];kernel_rfl)
end Xfb
namespace Xg8
noncomputable def c:=Yaq (Yal Proofs.Tryz.f41) [1,1,1,1,1,0,1,0,0]
def sp:SP:=⟨[(0,.pt Xk),(7,.cs I64)],[]⟩
def fr:=Yi1 sp (fun x s=>Xg8.B x.1.1 s) (fun x=>x.1.2.1) fun x (oo0:(Int⊕Unit)) _ kk0=>sel oo0 (fun bb0=>kk0 (.rt) ⟨[(2,.cs I64 bb0)],[]⟩) (fun cc0=>kk0 (.ex 2) ⟨[],[]⟩)
theorem ok:Ya5 PR 122 1 (.loop c) fr:=
 Ys4 Xg Xf h0 (.R (.L (.one (.R (.one (.fr 2)))))) (G:=Xdx.G) Xdx.Gok (L:=mkL [(2,Xfb.fr)]) (l:=[(2,.loop Xfb.c)]) ⟨Lam.cons Xfb.ok,trivial⟩ [(2,([],[]))] ([2],[]) (fun x s=>((x.1.1,s,x.1.2.2),x.2))
  (fun x s=>by simp only[B,mC,mB,mS,mO,mN];kernel_rfl)
end Xg8
namespace Xdx
def pts:List PT:=[.pt Xk]
def FS:FS:=Yc8 [.sh] pts (fun x=>Xdx x.1) fun t=>⟨[.cs I64 t],[]⟩
theorem ok:Ycs PR 41 FS:=
 Ywm Xg Xf Proofs.Tryz.f41 h0 (.R (.R (.R (.two (.R (.one (.fr 0))) (.R (.L (.R (.one (.fr 1))))))))) (G:=G) Gok (L:=mkL [(0,Xg7.fr),(2,Xfb.fr),(1,Xg8.fr)]) (l:=[(0,.loop Xg7.c),(1,.loop Xg8.c)]) ⟨Lam.cons Xg7.ok,Lam.skip rfl (Lam.skip rfl (Lam.cons Xg8.ok)),trivial⟩
  (fun x=>by simp only[Xdx,mC,mB,mS,mO,mN];kernel_rfl)
end Xdx
def Xec.B (v:Fs_) (v3:Int) (v5:Int) (v7:Int) (v8:List Bool):Option ((Int×List Bool)⊕(List Bool)):=
 cond (inB v5 v8.length) (cond (cond (v8.getD v5.toNat false) (inB v5 v.1.length) true) ((some (cond (v8.getD v5.toNat false) (decide (v7<((v.1.getD v5.toNat Xa).2.2.2.2.1.length:Int))) false)).bind fun v9=>cond v9 (cond (inB v5 v.1.length) (cond (inB v7 ((v.1.getD v5.toNat Xa).2.2.2.2.1.length)) ((some ((v.1.getD v5.toNat Xa).2.2.2.2.1.getD v7.toNat Xj).2.1).bind fun v10=>cond (inB v10 v8.length) (some (.inl (w64 (v7+1),v8.set v10.toNat true))) none) none) none) (some (.inr v8))) none) none
def Xec (v:Fs_) (v3:Int) (v5:Int):(Int×List Bool)→Option (List Bool):=
 Yam fun s=>Xec.B v v3 v5 s.1 s.2
def Xfc.B (v:Fs_) (v3:Int) (v5:Int) (v6:List Bool):Option ((Int×List Bool)⊕(List Bool)):=
 cond (decide (v5<(v.1.length:Int))) ((Xec v v3 v5 (0,v6)).bind fun v11=>some (.inl (w64 (v5+1),v11))) (some (.inr v6))
def Xfc (v:Fs_) (v3:Int):(Int×List Bool)→Option (List Bool):=
 Yam fun s=>Xfc.B v v3 s.1 s.2
def Xf1.B (v:Fs_) (v3:Int) (v4:List Bool):Option ((Int×List Bool)⊕(List Bool)):=
 cond (decide (v3<(v.1.length:Int))) ((Xfc v v3 (0,v4)).bind fun v12=>some (.inl (w64 (v3+1),v12))) (some (.inr v4))
def Xf1 (v:Fs_):(Int×List Bool)→Option (List Bool):=
 Yam fun s=>Xf1.B v s.1 s.2
def Xf2.B (v13:List Bool) (v14:Int) (v15:List Int):Option ((Int×List Int)⊕(List Int)):=
 cond (decide (v14<(v13.length:Int))) (cond (inB v14 v13.length) (cond (v13.getD v14.toNat false) (cond (decide ((v15++([v14])).length≤2147483648)) (some (.inl (w64 (v14+1),v15++([v14])))) none) (some (.inl (w64 (v14+1),v15)))) none) (some (.inr v15))
def Xf2 (v13:List Bool):(Int×List Int)→Option (List Int):=
 Yam fun s=>Xf2.B v13 s.1 s.2
def Xii (v:Fs_):Option (List Int):=
 cond (decide ((0:Int)≤(v.1.length:Int))&&(decide ((v.1.length:Int)≤(v.1.length:Int))&&decide ((v.1.length:Int)≤2147483648))) (cond (inB 0 ((List.replicate (v.1.length:Int).toNat false).length)) ((some ((List.replicate (v.1.length:Int).toNat false).set ((0:Int).toNat) true)).bind fun v2=>(Xf1 v (0,v2)).bind fun v13=>(Xf2 v13 (0,[])).bind fun v16=>some v16) none) none
namespace Xec
noncomputable def c:=Yaq (Yal Proofs.Tryz.f82) [1,1,1,0,1,0,0,1,0,0,1,0,0,1,0,0,1,0,0]
def sp:SP:=⟨[(0,.pt Xk),(3,.seg 3 []),(4,.cs I64),(5,.cs I64),(6,.cs I64)],[(3,.reg,.cd (.sl .bool))]⟩
def fr:=Yi1 sp (fun x s=>Xec.B x.1.1 x.1.2.2.1 x.1.2.2.2.1 s.1 s.2) (fun x=>(x.1.2.2.2.2.1,x.2.1)) fun x (bb0:List Bool) _ kk0=>kk0 (.ex 4) ⟨[(0,.pt Xk x.1.1),(3,.seg 3 []),(4,.cs I64 x.1.2.2.1),(5,.cs I64 x.1.2.2.2.1)],[sr 3 (.cd (.sl .bool) bb0)]⟩
theorem ok:Ya5 PR 84 1 (.loop c) fr:=
 Ywg Xg Xf h0 [(4,([0,3,4,5],[3]))] (fun x s=>((x.1.1,x.1.2.1,x.1.2.2.1,x.1.2.2.2.1,s.1,x.1.2.2.2.2.2),(s.2,x.2.2)))
  (fun x s=>by simp only[B,mC,mB,mS,mO,mN];kernel_rfl)
end Xec
namespace Xfc
noncomputable def c:=Yaq (Yal Proofs.Tryz.f82) [1,1,1,0,1,0,0,1,0,0,1,0,0]
def sp:SP:=⟨[(0,.pt Xk),(3,.seg 3 []),(4,.cs I64),(5,.cs I64)],[(3,.reg,.cd (.sl .bool))]⟩
def fr:=Yi1 sp (fun x s=>Xfc.B x.1.1 x.1.2.2.1 s.1 s.2) (fun x=>(x.1.2.2.2.1,x.2.1)) fun x (bb0:List Bool) _ kk0=>kk0 (.ex 2) ⟨[(0,.pt Xk x.1.1),(3,.seg 3 []),(4,.cs I64 x.1.2.2.1)],[sr 3 (.cd (.sl .bool) bb0)]⟩
theorem ok:Ya5 PR 84 1 (.loop c) fr:=
 Ywn Xg Xf h0 (.R (.L (.one (.R (.one (.fr 2)))))) (L:=mkL [(2,Xec.fr)]) (l:=[(2,.loop Xec.c)]) ⟨Lam.cons Xec.ok,trivial⟩ [(2,([0,3,4],[3]))] (fun x s=>((x.1.1,x.1.2.1,x.1.2.2.1,s.1,x.1.2.2.2.2),(s.2,x.2.2)))
  (fun x s=>by simp only[B,mC,mB,mS,mO,mN];kernel_rfl)
end Xfc
namespace Xf1
noncomputable def c:=Yaq (Yal Proofs.Tryz.f82) [1,1,1,0,1,0,0]
def sp:SP:=⟨[(0,.pt Xk),(3,.seg 3 []),(4,.cs I64)],[(3,.reg,.cd (.sl .bool))]⟩
def fr:=Yi1 sp (fun x s=>Xf1.B x.1.1 s.1 s.2) (fun x=>(x.1.2.2.1,x.2.1)) fun x (bb0:List Bool) _ kk0=>kk0 (.ex 0) ⟨[(3,.seg 3 [])],[sr 3 (.cd (.sl .bool) bb0)]⟩
theorem ok:Ya5 PR 84 1 (.loop c) fr:=
 Ywn Xg Xf h0 (.R (.L (.one (.R (.one (.fr 1)))))) (L:=mkL [(2,Xec.fr),(1,Xfc.fr)]) (l:=[(1,.loop Xfc.c)]) ⟨Lam.skip rfl (Lam.cons Xfc.ok),trivial⟩ [(0,([3],[3]))] (fun x s=>((x.1.1,x.1.2.1,s.1,x.1.2.2.2),(s.2,x.2.2)))
  (fun x s=>by simp only[B,mC,mB,mS,mO,mN];kernel_rfl)
end Xf1
namespace Xf2
noncomputable def c:=Yaq (Yal Proofs.Tryz.f82) [1,1,1,1,1,0,1,0,0]
def sp:SP:=⟨[(3,.seg 3 []),(7,.seg 7 []),(8,.cs I64)],[(3,.reg,.cd (.sl .bool)),(7,.reg,.cd SI)]⟩
def fr:=Yi1 sp (fun x s=>Xf2.B x.2.1 s.1 s.2) (fun x=>(x.1.2.2.1,x.2.2.1)) fun x (bb0:List Int) _ kk0=>kk0 (.ex 6) ⟨[(7,.seg 7 [])],[sr 7 (.cd SI bb0)]⟩
theorem ok:Ya5 PR 84 1 (.loop c) fr:=
 Ywg Xg Xf h0 [(6,([7],[7]))] (fun x s=>((x.1.1,x.1.2.1,s.1,x.1.2.2.2),(x.2.1,s.2,x.2.2.2)))
  (fun x s=>by simp only[B,mC,mB,mS,mO,mN];kernel_rfl)
end Xf2
namespace Xii
def pts:List PT:=[.pt Xk]
def FS:FS:=Yc8 [.sh] pts (fun x=>Xii x.1) fun t=>⟨[.cd SI t],[]⟩
theorem ok:Ycs PR 82 FS:=
 Ywm Xg Xf Proofs.Tryz.f82 h0 (.R (.R (.R (.two (.R (.one (.fr 0))) (.R (.L (.R (.one (.fr 3))))))))) (G:=(mkG [])) .nil (L:=mkL [(2,Xec.fr),(1,Xfc.fr),(0,Xf1.fr),(3,Xf2.fr)]) (l:=[(0,.loop Xf1.c),(3,.loop Xf2.c)]) ⟨Lam.skip rfl (Lam.skip rfl (Lam.cons Xf1.ok)),Lam.skip rfl (Lam.skip rfl (Lam.skip rfl (Lam.cons Xf2.ok))),trivial⟩
  (fun x=>by simp only[Xii,mC,mB,mS,mO,mN];kernel_rfl)
end Xii
def Xfd.B (v:List Xb) (v2:Int) (v4:Int) (v5:Int) (v6:Int):Option ((Int×Int)⊕Int):=
 cond (inB v4 v.length) ((some ((v.getD v4.toNat Xa).2.2.2.2.1.length:Int)).bind fun v7=>cond (decide (v6<v7)) (cond (inB v4 v.length) (cond (inB v6 ((v.getD v4.toNat Xa).2.2.2.2.1.length)) ((some ((v.getD v4.toNat Xa).2.2.2.2.1.getD v6.toNat Xj).2.1).bind fun v8=>cond (v8 == v2) (some (.inl (w64 (v5+1),w64 (v6+1)))) (some (.inl (v5,w64 (v6+1))))) none) none) (some (.inr v5))) none
def Xfd (v:List Xb) (v2:Int) (v4:Int):(Int×Int)→Option Int:=
 Yam fun s=>Xfd.B v v2 v4 s.1 s.2
def Xf3.B (v:List Xb) (v2:Int) (v3:Int) (v4:Int):Option ((Int×Int)⊕Int):=
 cond (decide (v4<(v.length:Int))) ((Xfd v v2 v4 (v3,0)).bind fun v9=>some (.inl (v9,w64 (v4+1)))) (some (.inr v3))
def Xf3 (v:List Xb) (v2:Int):(Int×Int)→Option Int:=
 Yam fun s=>Xf3.B v v2 s.1 s.2
def Xg9 (v:List Xb) (v2:Int):Option Int:=
 (Xf3 v v2 (0,0)).bind fun v10=>some v10
namespace Xfd
noncomputable def c:=Yaq (Yal Proofs.Tryz.f83) [1,1,0,1,0,0,1,0,0,1,0,0]
def sp:SP:=⟨[(0,.cs (.sl Xd)),(1,.cs I64),(5,.cs I64),(6,.cs I64),(7,.cs I64)],[]⟩
def fr:=Yi1 sp (fun x s=>Xfd.B x.1.1 x.1.2.1 x.1.2.2.2.1 s.1 s.2) (fun x=>(x.1.2.2.1,x.1.2.2.2.2.1)) fun x (bb0:Int) _ kk0=>kk0 (.ex 2) ⟨[(0,.cs (.sl Xd) x.1.1),(1,.cs I64 x.1.2.1),(5,.cs I64 bb0),(6,.cs I64 x.1.2.2.2.1)],[]⟩
theorem ok:Ya5 PR 38 2 (.loop c) fr:=
 Ywg Xg Xf h0 [(2,([0,1,5,6],[]))] (fun x s=>((x.1.1,x.1.2.1,s.1,x.1.2.2.2.1,s.2,x.1.2.2.2.2.2),x.2))
  (fun x s=>by simp only[B,mC,mB,mS,mO,mN];kernel_rfl)
end Xfd
namespace Xf3
noncomputable def c:=Yaq (Yal Proofs.Tryz.f83) [1,1,0,1,0,0]
def sp:SP:=⟨[(0,.cs (.sl Xd)),(1,.cs I64),(5,.cs I64),(6,.cs I64)],[]⟩
def fr:=Yi1 sp (fun x s=>Xf3.B x.1.1 x.1.2.1 s.1 s.2) (fun x=>(x.1.2.2.1,x.1.2.2.2.1)) fun x (bb0:Int) _ kk0=>kk0 (.ex 0) ⟨[(5,.cs I64 bb0)],[]⟩
theorem ok:Ya5 PR 38 2 (.loop c) fr:=
 Ywn Xg Xf h0 (.R (.L (.one (.R (.one (.fr 1)))))) (L:=mkL [(1,Xfd.fr)]) (l:=[(1,.loop Xfd.c)]) ⟨Lam.cons Xfd.ok,trivial⟩ [(0,([5],[]))] (fun x s=>((x.1.1,x.1.2.1,s.1,s.2,x.1.2.2.2.2),x.2))
  (fun x s=>by simp only[B,mC,mB,mS,mO,mN];kernel_rfl)
end Xf3
namespace Xg9
def pts:List PT:=[.cs (.sl Xd),.cs I64]
def FS:FS:=Yc8 [.sh,.sh] pts (fun x=>Xg9 x.1 x.2.1) fun t=>⟨[.cs I64 t],[]⟩
theorem ok:Ycs PR 83 FS:=
 Ywm Xg Xf Proofs.Tryz.f83 h0 (.R (.R (.L (.R (.one (.fr 0)))))) (G:=(mkG [])) .nil (L:=mkL [(1,Xfd.fr),(0,Xf3.fr)]) (l:=[(0,.loop Xf3.c)]) ⟨Lam.skip rfl (Lam.cons Xf3.ok),trivial⟩
  (fun x=>by simp only[Xg9,mC,mB,mS,mO,mN];kernel_rfl)
end Xg9
def Xha.B (v:List Int) (v2:Int) (v3:Int):Option (Int⊕((Bool⊕Unit))):=
 cond (decide (v3<(v.length:Int))) (cond (inB v3 v.length) (cond ((v.getD v3.toNat 0) == v2) (some (.inr (.inl true))) (some (.inl (w64 (v3+1))))) none) (some (.inr (.inr ())))
def Xha (v:List Int) (v2:Int):Int→Option ((Bool⊕Unit)):=
 Yam fun s=>Xha.B v v2 s
def Xhl (v:List Int) (v2:Int):Option Bool:=
 (Xha v v2 0).bind fun v4=>sel v4 (fun v5=>some v5) (fun v6=>some false)
namespace Xha
noncomputable def c:=Yaq (Yal Proofs.Tryz.f84) [1,0,1,0,0]
def sp:SP:=⟨[(0,.cs SI),(1,.cs I64),(5,.cs I64)],[]⟩
def fr:=Yi1 sp (fun x s=>Xha.B x.1.1 x.1.2.1 s) (fun x=>x.1.2.2.1) fun x (oo0:(Bool⊕Unit)) _ kk0=>sel oo0 (fun bb0=>kk0 (.rt) ⟨[(4,.cs .bool bb0)],[]⟩) (fun cc0=>kk0 (.ex 0) ⟨[],[]⟩)
theorem ok:Ya5 PR 18 2 (.loop c) fr:=
 Ys4 Xg Xf h0 .no (G:=(mkG [])) .nil (L:=mkL []) (l:=[]) hT [(0,([],[]))] ([4],[]) (fun x s=>((x.1.1,x.1.2.1,s,x.1.2.2.2),x.2))
  (fun x s=>by simp only[B,mC,mB,mS,mO,mN];kernel_rfl)
end Xha
namespace Xhl
def pts:List PT:=[.cs SI,.cs I64]
def FS:FS:=Yc8 [.sh,.sh] pts (fun x=>Xhl x.1 x.2.1) fun t=>⟨[.cs .bool t],[]⟩
theorem ok:Ycs PR 84 FS:=
 Ywm Xg Xf Proofs.Tryz.f84 h0 (.R (.L (.R (.one (.fr 0))))) (G:=(mkG [])) .nil (L:=mkL [(0,Xha.fr)]) (l:=[(0,.loop Xha.c)]) ⟨Lam.cons Xha.ok,trivial⟩
  (fun x=>by simp only[Xhl,mC,mB,mS,mO,mN];kernel_rfl)
end Xhl
def Xhb.B (v:Fs_) (v2:List Int) (v3:Int):Option (Int⊕((Bool⊕Unit))):=
 cond (decide (v3<(v.1.length:Int))) (cond (inB v3 v.1.length) ((Xg9 v.1 v3).bind fun v4=>cond ((v.1.getD v3.toNat Xa).1 == 0) (some (.inl (w64 (v3+1)))) (cond ((v.1.getD v3.toNat Xa).1 == 1) (cond (v4 != (v.1.getD v3.toNat Xa).2.1) (some (.inr (.inl false))) ((Xhl v2 v3).bind fun v5=>cond (!v5) (some (.inr (.inl false))) (some (.inl (w64 (v3+1)))))) (cond (v3 == 0) (cond (v4 != 0) (some (.inr (.inl false))) ((Xhl v2 v3).bind fun v6=>cond (!v6) (some (.inr (.inl false))) (some (.inl (w64 (v3+1)))))) (cond (v4 != 1) (some (.inr (.inl false))) ((Xhl v2 v3).bind fun v7=>cond (!v7) (some (.inr (.inl false))) (some (.inl (w64 (v3+1))))))))) none) (some (.inr (.inr ())))
def Xhb (v:Fs_) (v2:List Int):Int→Option ((Bool⊕Unit)):=
 Yam fun s=>Xhb.B v v2 s
def Xf4 (v:Fs_):Option Bool:=
 (Xii v).bind fun v2=>(Xhb v v2 0).bind fun v8=>sel v8 (fun v9=>some v9) (fun v10=>some true)
namespace Xf4
def G:Gam:=mkG [(82,Xii.FS),(83,Xg9.FS),(84,Xhl.FS)]
theorem Gok:GOk PR G:=.cons Xii.ok (.cons Xg9.ok (.cons Xhl.ok .nil))
end Xf4
namespace Xhb
noncomputable def c:=Yaq (Yal Proofs.Tryz.f42) [1,1,0,1,0,0]
def sp:SP:=⟨[(0,.pt Xk),(3,.seg 3 []),(4,.cs I64)],[(3,.reg,.cd SI)]⟩
def fr:=Yi1 sp (fun x s=>Xhb.B x.1.1 x.2.1 s) (fun x=>x.1.2.2.1) fun x (oo0:(Bool⊕Unit)) _ kk0=>sel oo0 (fun bb0=>kk0 (.rt) ⟨[(2,.cs .bool bb0)],[]⟩) (fun cc0=>kk0 (.ex 0) ⟨[],[]⟩)
theorem ok:Ya5 PR 59 1 (.loop c) fr:=
 Ys4 Xg Xf h0 .no (G:=Xf4.G) Xf4.Gok (L:=mkL []) (l:=[]) hT [(0,([],[]))] ([2],[]) (fun x s=>((x.1.1,x.1.2.1,s,x.1.2.2.2),x.2))
  (fun x s=>by simp only[B,mC,mB,mS,mO,mN];kernel_rfl)
end Xhb
namespace Xf4
def pts:List PT:=[.pt Xk]
def FS:FS:=Yc8 [.sh] pts (fun x=>Xf4 x.1) fun t=>⟨[.cs .bool t],[]⟩
theorem ok:Ycs PR 42 FS:=
 Ywm Xg Xf Proofs.Tryz.f42 h0 (.R (.R (.L (.R (.one (.fr 0)))))) (G:=G) Gok (L:=mkL [(0,Xhb.fr)]) (l:=[(0,.loop Xhb.c)]) ⟨Lam.cons Xhb.ok,trivial⟩
  (fun x=>by simp only[Xf4,mC,mB,mS,mO,mN];kernel_rfl)
end Xf4
def Xij (v:Int) (v2:Int):Option Int:=
 cond (decide (v<v2)) (some v) (some v2)
namespace Xij
def pts:List PT:=[.cs I64,.cs I64]
def FS:FS:=Yc8 [.sh,.sh] pts (fun x=>Xij x.1 x.2.1) fun t=>⟨[.cs I64 t],[]⟩
theorem ok:Ycs PR 85 FS:=
 Ywm Xg Xf Proofs.Tryz.f85 h0 .no (G:=(mkG [])) .nil (L:=mkL []) (l:=[]) hT
  (fun x=>by simp only[Xij,mC,mB,mS,mO,mN];kernel_rfl)
end Xij
def Xfe.B (v:Fs_) (v2:Int) (v4:Xb) (v5:Int) (v6:List Int):Option ((Int×List Int)⊕(List Int)):=
 cond (decide (v5<(v4.2.2.2.1.length:Int))) (cond (inB v5 v4.2.2.2.1.length) ((Xij 8 (w64 (v4.2.2.1-(w64 (v5*8))))).bind fun v7=>cond (inB (v4.2.2.2.1.getD v5.toNat 0) v6.length) (some (.inl (w64 (v5+1),v6.set ((v4.2.2.2.1.getD v5.toNat 0).toNat) v7))) none) none) (some (.inr v6))
def Xfe (v:Fs_) (v2:Int) (v4:Xb):(Int×List Int)→Option (List Int):=
 Yam fun s=>Xfe.B v v2 v4 s.1 s.2
def Xf5.B (v:Fs_) (v2:Int) (v3:List Int):Option ((Int×List Int)⊕(List Int)):=
 cond (decide (v2<(v.1.length:Int))) (cond (inB v2 v.1.length) ((Xfe v v2 (v.1.getD v2.toNat Xa) (0,v3)).bind fun v8=>some (.inl (w64 (v2+1),v8))) none) (some (.inr v3))
def Xf5 (v:Fs_):(Int×List Int)→Option (List Int):=
 Yam fun s=>Xf5.B v s.1 s.2
def Xhc.B (v:Fs_) (v9:List Int) (v10:Int):Option (Int⊕((Bool⊕Unit))):=
 cond (decide (v10<(v.2.1.length:Int))) (cond (inB v10 v.2.1.length) (cond (inB v10 v9.length) ((some (((v.2.1.getD v10.toNat []).length:Int) != (v9.getD v10.toNat 0))).bind fun v11=>cond v11 (some (.inr (.inl false))) (some (.inl (w64 (v10+1))))) none) none) (some (.inr (.inr ())))
def Xhc (v:Fs_) (v9:List Int):Int→Option ((Bool⊕Unit)):=
 Yam fun s=>Xhc.B v v9 s
def Xdy (v:Fs_):Option Bool:=
 cond (decide ((0:Int)≤(20:Int))&&(decide ((20:Int)≤(20:Int))&&decide ((20:Int)≤2147483648))) ((Xf5 v (0,List.replicate (20:Int).toNat 0)).bind fun v9=>(Xhc v v9 0).bind fun v12=>sel v12 (fun v13=>some v13) (fun v14=>some true)) none
namespace Xdy
def G:Gam:=mkG [(85,Xij.FS)]
theorem Gok:GOk PR G:=.cons Xij.ok .nil
end Xdy
namespace Xfe
noncomputable def c:=Yaq (Yal Proofs.Tryz.f43) [1,1,0,1,0,0,1,0,0,1,1,0,0]
def sp:SP:=⟨[(0,.pt Xk),(3,.seg 3 []),(4,.cs I64),(5,.pt Xd),(6,.cs I64)],[(3,.reg,.cd SI)]⟩
def fr:=Yi1 sp (fun x s=>Xfe.B x.1.1 x.1.2.2.1 x.1.2.2.2.1 s.1 s.2) (fun x=>(x.1.2.2.2.2.1,x.2.1)) fun x (bb0:List Int) _ kk0=>kk0 (.ex 2) ⟨[(0,.pt Xk x.1.1),(3,.seg 3 []),(4,.cs I64 x.1.2.2.1)],[sr 3 (.cd SI bb0)]⟩
theorem ok:Ya5 PR 72 1 (.loop c) fr:=
 Ywo Xg Xf h0 (G:=Xdy.G) Xdy.Gok [(2,([0,3,4],[3]))] (fun x s=>((x.1.1,x.1.2.1,x.1.2.2.1,x.1.2.2.2.1,s.1,x.1.2.2.2.2.2),(s.2,x.2.2)))
  (fun x s=>by simp only[B,mC,mB,mS,mO,mN];kernel_rfl)
end Xfe
namespace Xf5
noncomputable def c:=Yaq (Yal Proofs.Tryz.f43) [1,1,0,1,0,0]
def sp:SP:=⟨[(0,.pt Xk),(3,.seg 3 []),(4,.cs I64)],[(3,.reg,.cd SI)]⟩
def fr:=Yi1 sp (fun x s=>Xf5.B x.1.1 s.1 s.2) (fun x=>(x.1.2.2.1,x.2.1)) fun x (bb0:List Int) _ kk0=>kk0 (.ex 0) ⟨[(0,.pt Xk x.1.1),(3,.seg 3 [])],[sr 3 (.cd SI bb0)]⟩
theorem ok:Ya5 PR 72 1 (.loop c) fr:=
 Ywq Xg Xf h0 (.R (.L (.one (.R (.R (.one (.fr 1))))))) (G:=Xdy.G) Xdy.Gok (L:=mkL [(1,Xfe.fr)]) (l:=[(1,.loop Xfe.c)]) ⟨Lam.cons Xfe.ok,trivial⟩ [(0,([0,3],[3]))] (fun x s=>((x.1.1,x.1.2.1,s.1,x.1.2.2.2),(s.2,x.2.2)))
  (fun x s=>by simp only[B,mC,mB,mS,mO,mN];kernel_rfl)
end Xf5
namespace Xhc
noncomputable def c:=Yaq (Yal Proofs.Tryz.f43) [1,1,1,0,1,0,0]
def sp:SP:=⟨[(0,.pt Xk),(3,.seg 3 []),(7,.cs I64)],[(3,.reg,.cd SI)]⟩
def fr:=Yi1 sp (fun x s=>Xhc.B x.1.1 x.2.1 s) (fun x=>x.1.2.2.1) fun x (oo0:(Bool⊕Unit)) _ kk0=>sel oo0 (fun bb0=>kk0 (.rt) ⟨[(2,.cs .bool bb0)],[]⟩) (fun cc0=>kk0 (.ex 4) ⟨[],[]⟩)
theorem ok:Ya5 PR 72 1 (.loop c) fr:=
 Ys4 Xg Xf h0 .no (G:=Xdy.G) Xdy.Gok (L:=mkL []) (l:=[]) hT [(4,([],[]))] ([2],[]) (fun x s=>((x.1.1,x.1.2.1,s,x.1.2.2.2),x.2))
  (fun x s=>by simp only[B,mC,mB,mS,mO,mN];kernel_rfl)
end Xhc
namespace Xdy
def pts:List PT:=[.pt Xk]
def FS:FS:=Yc8 [.sh] pts (fun x=>Xdy x.1) fun t=>⟨[.cs .bool t],[]⟩
theorem ok:Ycs PR 43 FS:=
 Ywm Xg Xf Proofs.Tryz.f43 h0 (.R (.R (.two (.R (.one (.fr 0))) (.L (.R (.one (.fr 2))))))) (G:=G) Gok (L:=mkL [(1,Xfe.fr),(0,Xf5.fr),(2,Xhc.fr)]) (l:=[(0,.loop Xf5.c),(2,.loop Xhc.c)]) ⟨Lam.skip rfl (Lam.cons Xf5.ok),Lam.skip rfl (Lam.skip rfl (Lam.cons Xhc.ok)),trivial⟩
  (fun x=>by simp only[Xdy,mC,mB,mS,mO,mN];kernel_rfl)
end Xdy
def Xik (v:Fs_):Option Int:=
 (Xdx v).bind fun v2=>cond (v2 != 0) (some v2) ((Xf4 v).bind fun v3=>cond (!v3) (some 1) ((Xdy v).bind fun v4=>cond (!v4) (some 1) (some 0)))
namespace Xik
def G:Gam:=mkG [(41,Xdx.FS),(42,Xf4.FS),(43,Xdy.FS)]
def pts:List PT:=[.pt Xk]
def FS:FS:=Yc8 [.sh] pts (fun x=>Xik x.1) fun t=>⟨[.cs I64 t],[]⟩
theorem ok:Ycs PR 18 FS:=
 Ywm Xg Xf Proofs.Tryz.f18 h0 .no (G:=G) (show GOk PR G from .cons Xdx.ok (.cons Xf4.ok (.cons Xdy.ok .nil))) (L:=mkL []) (l:=[]) hT
  (fun x=>by simp only[Xik,mC,mB,mS,mO,mN];kernel_rfl)
end Xik
def Xem.B (v:List UInt8) (v2:Int) (v3:Int) (v4:Int) (v5:List (List UInt8)):Option ((Int×Int×List (List UInt8))⊕(List (List UInt8))):=
 cond (decide (v4≤(v.length:Int))) (cond (cond (!(v4 == (v.length:Int))) (inB v4 v.length) true) ((some (cond (v4 == (v.length:Int)) true (((v.getD v4.toNat 0).toNat:Int) == v2))).bind fun v6=>cond v6 (cond (decide ((0:Int)≤v4)&&decide (v4≤(v.length:Int))&&(decide ((0:Int)≤v3)&&decide (v3≤v4))) (cond (decide ((v5++([(v.take v4.toNat).drop v3.toNat])).length≤2147483648)) (some (.inl (w64 (v4+1),w64 (v4+1),v5++([(v.take v4.toNat).drop v3.toNat])))) none) none) (some (.inl (v3,w64 (v4+1),v5)))) none) (some (.inr v5))
def Xem (v:List UInt8) (v2:Int):(Int×Int×List (List UInt8))→Option (List (List UInt8)):=
 Yam fun s=>Xem.B v v2 s.1 s.2.1 s.2.2
def Xhw (v:List UInt8) (v2:Int):Option (List (List UInt8)):=
 (Xem v v2 (0,0,[])).bind fun v7=>some v7
namespace Xem
noncomputable def c:=Yaq (Yal Proofs.Tryz.f118) [1,1,1,0,1,0,0]
def sp:SP:=⟨[(0,.cs .str),(1,.cs U8),(5,.seg 5 []),(6,.cs I64),(7,.cs I64)],[(5,.reg,.cd (.sl .str))]⟩
def fr:=Yi1 sp (fun x s=>Xem.B x.1.1 x.1.2.1 s.1 s.2.1 s.2.2) (fun x=>(x.1.2.2.2.1,x.1.2.2.2.2.1,x.2.1)) fun x (bb0:List (List UInt8)) _ kk0=>kk0 (.ex 0) ⟨[(5,.seg 5 [])],[sr 5 (.cd (.sl .str) bb0)]⟩
theorem ok:Ya5 PR 36 2 (.loop c) fr:=
 Ywg Xg Xf h0 [(0,([5],[5]))] (fun x s=>((x.1.1,x.1.2.1,x.1.2.2.1,s.1,s.2.1,x.1.2.2.2.2.2),(s.2.2,x.2.2)))
  (fun x s=>by simp only[B,mC,mB,mS,mO,mN];kernel_rfl)
end Xem
namespace Xhw
def pts:List PT:=[.cs .str,.cs U8]
def FS:FS:=Yc8 [.sh,.sh] pts (fun x=>Xhw x.1 x.2.1) fun t=>⟨[.cd (.sl .str) t],[]⟩
theorem ok:Ycs PR 118 FS:=
 Ywm Xg Xf Proofs.Tryz.f118 h0 (.R (.R (.R (.L (.R (.one (.fr 0))))))) (G:=(mkG [])) .nil (L:=mkL [(0,Xem.fr)]) (l:=[(0,.loop Xem.c)]) ⟨Lam.cons Xem.ok,trivial⟩
  (fun x=>by simp only[Xhw,mC,mB,mS,mO,mN];kernel_rfl)
end Xhw
def Xhd.B (v:List (List UInt8)) (v2:Int):Option (Int⊕((Int⊕Unit))):=
 cond (decide (v2<(v.length:Int))) (cond (inB v2 v.length) ((Xg4 (v.getD v2.toNat [])).bind fun v3=>cond (v3 != 0) (some (.inr (.inl v3))) (some (.inl (w64 (v2+1))))) none) (some (.inr (.inr ())))
def Xhd (v:List (List UInt8)):Int→Option ((Int⊕Unit)):=
 Yam fun s=>Xhd.B v s
def Xf6 (v:List (List UInt8)):Option Int:=
 cond (decide ((v.length:Int)>6)) (some 2) ((Xhd v 0).bind fun v4=>sel v4 (fun v5=>some v5) (fun v6=>some 0))
namespace Xf6
def G:Gam:=mkG [(139,Xg4.FS)]
theorem Gok:GOk PR G:=.cons Xg4.ok .nil
end Xf6
namespace Xhd
noncomputable def c:=Yaq (Yal Proofs.Tryz.f119) [1,1,0,1,0,0]
def sp:SP:=⟨[(0,.cs (.sl .str)),(3,.cs I64)],[]⟩
def fr:=Yi1 sp (fun x s=>Xhd.B x.1.1 s) (fun x=>x.1.2.1) fun x (oo0:(Int⊕Unit)) _ kk0=>sel oo0 (fun bb0=>kk0 (.rt) ⟨[(2,.cs I64 bb0)],[]⟩) (fun cc0=>kk0 (.ex 0) ⟨[],[]⟩)
theorem ok:Ya5 PR 22 1 (.loop c) fr:=
 Ys4 Xg Xf h0 .no (G:=Xf6.G) Xf6.Gok (L:=mkL []) (l:=[]) hT [(0,([],[]))] ([2],[]) (fun x s=>((x.1.1,s,x.1.2.2),x.2))
  (fun x s=>by simp only[B,mC,mB,mS,mO,mN];kernel_rfl)
end Xhd
namespace Xf6
def pts:List PT:=[.cs (.sl .str)]
def FS:FS:=Yc8 [.sh] pts (fun x=>Xf6 x.1) fun t=>⟨[.cs I64 t],[]⟩
theorem ok:Ycs PR 119 FS:=
 Ywm Xg Xf Proofs.Tryz.f119 h0 (.R (.R (.L (.R (.one (.fr 0)))))) (G:=G) Gok (L:=mkL [(0,Xhd.fr)]) (l:=[(0,.loop Xhd.c)]) ⟨Lam.cons Xhd.ok,trivial⟩
  (fun x=>by simp only[Xf6,mC,mB,mS,mO,mN];kernel_rfl)
end Xf6
def Xil (v:List UInt8):Option ((List (List UInt8))×Int):=
 cond (decide ((v.length:Int)>30)) (some ([],2)) (cond (v == ([47]:List UInt8)) (some ([],0)) (cond (cond (!((v.length:Int) == 0)) (inB 0 v.length) true) ((some (cond ((v.length:Int) == 0) true (((v.getD (0:Int).toNat 0).toNat:Int) != 47))).bind fun v2=>cond (cond (!v2) (inB (w64 ((v.length:Int)-1)) v.length) true) ((some (cond v2 true (((v.getD (w64 ((v.length:Int)-1)).toNat 0).toNat:Int) == 47))).bind fun v3=>cond v3 (some ([],5)) (cond (decide ((0:Int)≤(1:Int))&&decide ((1:Int)≤(v.length:Int))) ((Xhw ((v.take v.length).drop ((1:Int).toNat)) 47).bind fun v4=>(Xf6 v4).bind fun v5=>cond (v5 != 0) (some ([],v5)) (some (v4,0))) none)) none) none))
namespace Xil
def G:Gam:=mkG [(118,Xhw.FS),(119,Xf6.FS)]
def pts:List PT:=[.cs .str]
def FS:FS:=Yc8 [.sh] pts (fun x=>Xil x.1) fun t=>⟨[.cd (.sl .str) t.1,.cs I64 t.2],[]⟩
theorem ok:Ycs PR 86 FS:=
 Ywm Xg Xf Proofs.Tryz.f86 h0 .no (G:=G) (show GOk PR G from .cons Xhw.ok (.cons Xf6.ok .nil)) (L:=mkL []) (l:=[]) hT
  (fun x=>by simp only[Xil,mC,mB,mS,mO,mN];kernel_rfl)
end Xil
def Xix (v:List UInt8):Option ((List (List UInt8))×(List UInt8)×Int):=
 (Xil v).bind fun v2=>cond (v2.2 != 0) (some ([],([]:List UInt8),v2.2)) (cond ((v2.1.length:Int) == 0) (some ([],([]:List UInt8),4)) (cond (decide ((0:Int)≤(w64 ((v2.1.length:Int)-1)))&&decide ((w64 ((v2.1.length:Int)-1))≤(v2.1.length:Int))) (cond (inB (w64 ((v2.1.length:Int)-1)) v2.1.length) ((some (v2.1.getD ((w64 ((v2.1.length:Int)-1)).toNat) [])).bind fun v3=>some ((v2.1.drop 0).take (((w64 ((v2.1.length:Int)-1)).toNat)-0),v3,0)) none) none))
namespace Xix
def G:Gam:=mkG [(86,Xil.FS)]
def pts:List PT:=[.cs .str]
def FS:FS:=Yc8 [.sh] pts (fun x=>Xix x.1) fun t=>⟨[.cd (.sl .str) t.1,.cs .str t.2.1,.cs I64 t.2.2],[]⟩
theorem ok:Ycs PR 88 FS:=
 Ywm Xg Xf Proofs.Tryz.f88 h0 .no (G:=G) (show GOk PR G from .cons Xil.ok .nil) (L:=mkL []) (l:=[]) hT
  (fun x=>by simp only[Xix,mC,mB,mS,mO,mN];kernel_rfl)
end Xix
def Xhe.B (v:List Xe) (v2:List UInt8) (v3:Int):Option (Int⊕((Int⊕Unit))):=
 cond (decide (v3<(v.length:Int))) (cond (inB v3 v.length) (cond ((v.getD v3.toNat Xj).1 == v2) (some (.inr (.inl v3))) (some (.inl (w64 (v3+1))))) none) (some (.inr (.inr ())))
def Xhe (v:List Xe) (v2:List UInt8):Int→Option ((Int⊕Unit)):=
 Yam fun s=>Xhe.B v v2 s
def Xct (v:List Xe) (v2:List UInt8):Option Int:=
 (Xhe v v2 0).bind fun v4=>sel v4 (fun v5=>some v5) (fun v6=>some (-1))
namespace Xhe
noncomputable def c:=Yaq (Yal Proofs.Tryz.f66) [1,0,1,0,0]
def sp:SP:=⟨[(0,.cs (.sl Xh)),(1,.cs .str),(5,.cs I64)],[]⟩
def fr:=Yi1 sp (fun x s=>Xhe.B x.1.1 x.1.2.1 s) (fun x=>x.1.2.2.1) fun x (oo0:(Int⊕Unit)) _ kk0=>sel oo0 (fun bb0=>kk0 (.rt) ⟨[(4,.cs I64 bb0)],[]⟩) (fun cc0=>kk0 (.ex 0) ⟨[],[]⟩)
theorem ok:Ya5 PR 20 2 (.loop c) fr:=
 Ys4 Xg Xf h0 .no (G:=(mkG [])) .nil (L:=mkL []) (l:=[]) hT [(0,([],[]))] ([4],[]) (fun x s=>((x.1.1,x.1.2.1,s,x.1.2.2.2),x.2))
  (fun x s=>by simp only[B,mC,mB,mS,mO,mN];kernel_rfl)
end Xhe
namespace Xct
def pts:List PT:=[.cs (.sl Xh),.cs .str]
def FS:FS:=Yc8 [.sh,.sh] pts (fun x=>Xct x.1 x.2.1) fun t=>⟨[.cs I64 t],[]⟩
theorem ok:Ycs PR 66 FS:=
 Ywm Xg Xf Proofs.Tryz.f66 h0 (.R (.L (.R (.one (.fr 0))))) (G:=(mkG [])) .nil (L:=mkL [(0,Xhe.fr)]) (l:=[(0,.loop Xhe.c)]) ⟨Lam.cons Xhe.ok,trivial⟩
  (fun x=>by simp only[Xct,mC,mB,mS,mO,mN];kernel_rfl)
end Xct
def Xf7.B (v:Fs_) (v2:List (List UInt8)) (v3:Int) (v4:Int):Option ((Int×Int)⊕(((Int×Int)⊕Int))):=
 cond (decide (v4<(v2.length:Int))) (cond (inB v3 v.1.length) (cond ((v.1.getD v3.toNat Xa).1 != 2) (some (.inr (.inl (0,9)))) (cond (inB v3 v.1.length) (cond (inB v4 v2.length) ((Xct (v.1.getD v3.toNat Xa).2.2.2.2.1 (v2.getD v4.toNat [])).bind fun v5=>cond (decide (v5<0)) (some (.inr (.inl (0,4)))) (cond (inB v3 v.1.length) (cond (inB v5 ((v.1.getD v3.toNat Xa).2.2.2.2.1.length)) ((some ((v.1.getD v3.toNat Xa).2.2.2.2.1.getD v5.toNat Xj).2.1).bind fun v6=>some (.inl (v6,w64 (v4+1)))) none) none)) none) none)) none) (some (.inr (.inr v3)))
def Xf7 (v:Fs_) (v2:List (List UInt8)):(Int×Int)→Option (((Int×Int)⊕Int)):=
 Yam fun s=>Xf7.B v v2 s.1 s.2
def Xf8 (v:Fs_) (v2:List (List UInt8)):Option (Int×Int):=
 (Xf7 v v2 (0,0)).bind fun v7=>sel v7 (fun v8=>some (v8.1,v8.2)) (fun v9=>some (v9,0))
namespace Xf8
def G:Gam:=mkG [(66,Xct.FS)]
theorem Gok:GOk PR G:=.cons Xct.ok .nil
end Xf8
namespace Xf7
noncomputable def c:=Yaq (Yal Proofs.Tryz.f87) [1,1,0,1,0,0]
def sp:SP:=⟨[(0,.pt Xk),(1,.cs (.sl .str)),(6,.cs I64),(7,.cs I64)],[]⟩
def fr:=Yi1 sp (fun x s=>Xf7.B x.1.1 x.1.2.1 s.1 s.2) (fun x=>(x.1.2.2.1,x.1.2.2.2.1)) fun x (oo0:((Int×Int)⊕Int)) _ kk0=>sel oo0 (fun bb0=>kk0 (.rt) ⟨[(4,.cs I64 bb0.1),(5,.cs I64 bb0.2)],[]⟩) (fun cc0=>kk0 (.ex 0) ⟨[(6,.cs I64 cc0)],[]⟩)
theorem ok:Ya5 PR 52 2 (.loop c) fr:=
 Ys4 Xg Xf h0 .no (G:=Xf8.G) Xf8.Gok (L:=mkL []) (l:=[]) hT [(0,([6],[]))] ([4,5],[]) (fun x s=>((x.1.1,x.1.2.1,s.1,s.2,x.1.2.2.2.2),x.2))
  (fun x s=>by simp only[B,mC,mB,mS,mO,mN];kernel_rfl)
end Xf7
namespace Xf8
def pts:List PT:=[.pt Xk,.cs (.sl .str)]
def FS:FS:=Yc8 [.sh,.sh] pts (fun x=>Xf8 x.1 x.2.1) fun t=>⟨[.cs I64 t.1,.cs I64 t.2],[]⟩
theorem ok:Ycs PR 87 FS:=
 Ywm Xg Xf Proofs.Tryz.f87 h0 (.R (.R (.L (.R (.one (.fr 0)))))) (G:=G) Gok (L:=mkL [(0,Xf7.fr)]) (l:=[(0,.loop Xf7.c)]) ⟨Lam.cons Xf7.ok,trivial⟩
  (fun x=>by simp only[Xf8,mC,mB,mS,mO,mN];kernel_rfl)
end Xf8
def Xhx (v:Fs_) (v2:List UInt8):Option (Int×(List UInt8)×Int):=
 (Xix v2).bind fun v3=>cond (v3.2.2 != 0) (some (0,([]:List UInt8),v3.2.2)) ((Xf8 v v3.1).bind fun v4=>cond (v4.2 != 0) (some (0,([]:List UInt8),v4.2)) (cond (inB v4.1 v.1.length) (cond ((v.1.getD v4.1.toNat Xa).1 != 2) (some (0,([]:List UInt8),9)) (some (v4.1,v3.2.1,0))) none))
namespace Xhx
def G:Gam:=mkG [(88,Xix.FS),(87,Xf8.FS)]
def pts:List PT:=[.pt Xk,.cs .str]
def FS:FS:=Yc8 [.sh,.sh] pts (fun x=>Xhx x.1 x.2.1) fun t=>⟨[.cs I64 t.1,.cs .str t.2.1,.cs I64 t.2.2],[]⟩
theorem ok:Ycs PR 46 FS:=
 Ywm Xg Xf Proofs.Tryz.f46 h0 .no (G:=G) (show GOk PR G from .cons Xix.ok (.cons Xf8.ok .nil)) (L:=mkL []) (l:=[]) hT
  (fun x=>by simp only[Xhx,mC,mB,mS,mO,mN];kernel_rfl)
end Xhx
def Xiy (v:List Int):Option (List Int):=
 cond (decide (([]++v).length≤2147483648)) (some ([]++v)) none
namespace Xiy
def pts:List PT:=[.cs SI]
def FS:FS:=Yc8 [.sh] pts (fun x=>Xiy x.1) fun t=>⟨[.cd SI t],[]⟩
theorem ok:Ycs PR 120 FS:=
 Ywm Xg Xf Proofs.Tryz.f120 h0 .no (G:=(mkG [])) .nil (L:=mkL []) (l:=[]) hT
  (fun x=>by simp only[Xiy,mC,mB,mS,mO,mN];kernel_rfl)
end Xiy
def Xim (v:Xb):Option Xb:=
 (Xiy v.2.2.2.1).bind fun v2=>cond (decide (([]++v.2.2.2.2.1).length≤2147483648)) (some (v.1,v.2.1,v.2.2.1,v2,[]++v.2.2.2.2.1,v.2.2.2.2.2)) none
namespace Xim
def G:Gam:=mkG [(120,Xiy.FS)]
def pts:List PT:=[.cs Xd]
def FS:FS:=Yc8 [.sh] pts (fun x=>Xim x.1) fun t=>⟨[.cd Xd t],[]⟩
theorem ok:Ycs PR 89 FS:=
 Ywm Xg Xf Proofs.Tryz.f89 h0 .no (G:=G) (show GOk PR G from .cons Xiy.ok .nil) (L:=mkL []) (l:=[]) hT
  (fun x=>by simp only[Xim,mC,mB,mS,mO,mN];kernel_rfl)
end Xim
def Xf9.B (v:Fs_) (v3:Fs_) (v2:Int) (v4:Fs_):Option ((Int×Fs_)⊕Fs_):=
 cond (decide (v2<(v.1.length:Int))) (cond (inB v2 v.1.length) ((Xim (v.1.getD v2.toNat Xa)).bind fun v5=>(some (v4.1++([(v5.1,v5.2.1,v5.2.2.1,v5.2.2.2.1,v5.2.2.2.2.1,v5.2.2.2.2.2)]))).bind fun v6=>cond (decide (v6.length≤2147483648)) (some (.inl (w64 (v2+1),(v6,v4.2)))) none) none) (some (.inr v4))
def Xf9 (v:Fs_) (v3:Fs_):(Int×Fs_)→Option Fs_:=
 Yam fun s=>Xf9.B v v3 s.1 s.2
def Xga.B (v:Fs_) (v9:Fs_) (v8:Int) (v10:Fs_):Option ((Int×Fs_)⊕Fs_):=
 cond (decide (v8<(v.2.1.length:Int))) (cond (inB v8 v.2.1.length) (cond (decide (([]++(v.2.1.getD v8.toNat [])).length≤2147483648)) (cond (decide ((v10.2.1++([[]++(v.2.1.getD v8.toNat [])])).length≤2147483648)) (some (.inl (w64 (v8+1),(v10.1,v10.2.1++([[]++(v.2.1.getD v8.toNat [])]),v10.2.2)))) none) none) none) (some (.inr v10))
def Xga (v:Fs_) (v9:Fs_):(Int×Fs_)→Option Fs_:=
 Yam fun s=>Xga.B v v9 s.1 s.2
def Xcz (v:Fs_):Option Fs_:=
 (Xf9 v ([],[],()) (0,([],[],()))).bind fun v7=>(Xga v ([],[],()) (0,v7)).bind fun v11=>some (v11.1,v11.2.1,v11.2.2)
namespace Xcz
def G:Gam:=mkG [(89,Xim.FS)]
theorem Gok:GOk PR G:=.cons Xim.ok .nil
end Xcz
namespace Xf9
noncomputable def c:=Yaq (Yal Proofs.Tryz.f47) [1,1,0,1,0,0]
def sp:SP:=⟨[(1,.pt Xk),(2,.loc 2 []),(3,.loc 3 []),(4,.cs I64)],[(2,.mem,.cd Xk),(3,.mem,.cd Xk)]⟩
def fr:=Yi1 sp (fun x s=>Xf9.B x.1.1 x.2.1 s.1 s.2) (fun x=>(x.1.2.2.2.1,x.2.2.1)) fun x (bb0:Fs_) _ kk0=>kk0 (.ex 0) ⟨[(1,.pt Xk x.1.1),(2,.loc 2 []),(3,.loc 3 [])],[(2,some ⟨.mem,.cd Xk x.2.1⟩),(3,some ⟨.mem,.cd Xk bb0⟩)]⟩
theorem ok:Ya5 PR 45 1 (.loop c) fr:=
 Ywo Xg Xf ⟨[1],[],[],0⟩ (G:=Xcz.G) Xcz.Gok [(0,([1,2,3],[2,3]))] (fun x s=>((x.1.1,x.1.2.1,x.1.2.2.1,s.1,x.1.2.2.2.2),(x.2.1,s.2,x.2.2.2)))
  (fun x s=>by simp only[B,mC,mB,mS,mO,mN];kernel_rfl)
end Xf9
namespace Xga
noncomputable def c:=Yaq (Yal Proofs.Tryz.f47) [1,1,1,0,1,0,0]
def sp:SP:=⟨[(1,.pt Xk),(2,.loc 2 []),(3,.loc 3 []),(5,.cs I64)],[(2,.mem,.cd Xk),(3,.mem,.cd Xk)]⟩
def fr:=Yi1 sp (fun x s=>Xga.B x.1.1 x.2.1 s.1 s.2) (fun x=>(x.1.2.2.2.1,x.2.2.1)) fun x (bb0:Fs_) _ kk0=>kk0 (.ex 2) ⟨[(2,.loc 2 []),(3,.loc 3 [])],[(2,some ⟨.mem,.cd Xk x.2.1⟩),(3,some ⟨.mem,.cd Xk bb0⟩)]⟩
theorem ok:Ya5 PR 45 1 (.loop c) fr:=
 Ywo Xg Xf ⟨[1],[],[],0⟩ (G:=Xcz.G) Xcz.Gok [(2,([2,3],[2,3]))] (fun x s=>((x.1.1,x.1.2.1,x.1.2.2.1,s.1,x.1.2.2.2.2),(x.2.1,s.2,x.2.2.2)))
  (fun x s=>by simp only[B,mC,mB,mS,mO,mN];kernel_rfl)
end Xga
namespace Xcz
def pts:List PT:=[.cs Xk]
def FS:FS:=Yc8 [.sh] pts (fun x=>Xcz x.1) fun t=>⟨[.cd Xk t],[]⟩
theorem ok:Ycs PR 47 FS:=
 Ywm Xg Xf Proofs.Tryz.f47 ⟨[1],[],[],0⟩ (.R (.R (.two (.R (.one (.fr 0))) (.L (.R (.one (.fr 1))))))) (G:=G) Gok (L:=mkL [(0,Xf9.fr),(1,Xga.fr)]) (l:=[(0,.loop Xf9.c),(1,.loop Xga.c)]) ⟨Lam.cons Xf9.ok,Lam.skip rfl (Lam.cons Xga.ok),trivial⟩
  (fun x=>by simp only[Xcz,mC,mB,mS,mO,mN];kernel_rfl)
end Xcz
def Xdq (v:Fs_) (v2:Int):Option Xq:=
 (Xcz v).bind fun v3=>some (0,v2,0,[],[],(v3.1,v3.2.1,v3.2.2),())
namespace Xdq
def G:Gam:=mkG [(47,Xcz.FS)]
def pts:List PT:=[.cs Xk,.cs I64]
def FS:FS:=Yc8 [.sh,.sh] pts (fun x=>Xdq x.1 x.2.1) fun t=>⟨[.cd Xi t],[]⟩
theorem ok:Ycs PR 45 FS:=
 Ywm Xg Xf Proofs.Tryz.f45 ⟨[2],[],[],0⟩ .no (G:=G) (show GOk PR G from .cons Xcz.ok .nil) (L:=mkL []) (l:=[]) hT
  (fun x=>by simp only[Xdq,mC,mB,mS,mO,mN];kernel_rfl)
end Xdq
abbrev Xac.Ty:Type:=Fs_→Int→Int→Int→Option Bool
def Xff.B (self:Xac.Ty) (v:Fs_) (v2:Int) (v3:Int) (v4:Int) (v5:Int):Option (Int⊕((Bool⊕Unit))):=
 cond (cond (decide (v4>0)) (inB v3 v.1.length) true) ((some (cond (decide (v4>0)) (decide (v5<((v.1.getD v3.toNat Xa).2.2.2.2.1.length:Int))) false)).bind fun v6=>cond v6 (cond (inB v3 v.1.length) (cond (inB v5 ((v.1.getD v3.toNat Xa).2.2.2.2.1.length)) ((some ((v.1.getD v3.toNat Xa).2.2.2.2.1.getD v5.toNat Xj).2.1).bind fun v7=>(self v v2 v7 (w64 (v4-1))).bind fun v8=>cond v8 (some (.inr (.inl true))) (some (.inl (w64 (v5+1))))) none) none) (some (.inr (.inr ())))) none
def Xff (self:Xac.Ty) (v:Fs_) (v2:Int) (v3:Int) (v4:Int):Int→Option ((Bool⊕Unit)):=
 Yam fun s=>Xff.B self v v2 v3 v4 s
def Xac.step (self:Xac.Ty) (v:Fs_) (v2:Int) (v3:Int) (v4:Int):Option Bool:=
 cond (v2 == v3) (some true) ((Xff self v v2 v3 v4 0).bind fun v9=>sel v9 (fun v10=>some v10) (fun v11=>some false))
def Xac.R:Nat→Xac.Ty
 |0=>fun _ _ _ _=>none
 |k+1=>fun v v2 v3 v4=>Xac.step (Xac.R k) v v2 v3 v4
def Xac (v:Fs_) (v2:Int) (v3:Int) (v4:Int):Option Bool:=
 Xac.R 40 v v2 v3 v4
namespace Xac
def pts:List PT:=[.pt Xk,.cs I64,.cs I64,.cs I64]
noncomputable def FSr (self:Ty):FS:=Yc8 [.sh,.sh,.sh,.sh] pts (fun x=>self x.1 x.2.1 x.2.2.1 x.2.2.2.1) fun t=>⟨[.cs .bool t],[]⟩
noncomputable def G (self:Ty):Gam:=mkG [(67,FSr self)]
theorem Gok (self:Ty) (hs:Ycs PR 67 (FSr self)):GOk PR (G self):=.cons hs .nil
end Xac
namespace Xff
noncomputable def c:=Yaq (Yal Proofs.Tryz.f67) [1,1,0,1,0,0]
def sp:SP:=⟨[(0,.pt Xk),(1,.cs I64),(2,.cs I64),(3,.cs I64),(9,.cs I64)],[]⟩
noncomputable def fr (self:Xac.Ty):=Yi1 sp (fun x s=>Xff.B self x.1.1 x.1.2.1 x.1.2.2.1 x.1.2.2.2.1 s) (fun x=>x.1.2.2.2.2.1) fun x (oo0:(Bool⊕Unit)) _ kk0=>sel oo0 (fun bb0=>kk0 (.rt) ⟨[(8,.cs .bool bb0)],[]⟩) (fun cc0=>kk0 (.ex 0) ⟨[],[]⟩)
theorem ok (self:Xac.Ty) (hs:Ycs PR 67 (Xac.FSr self)):Ya5 PR 47 4 (.loop c) (fr self):=
 Ys4 Xg Xf h0 .no (G:=Xac.G self) (Xac.Gok self hs) (L:=mkL []) (l:=[]) hT [(0,([],[]))] ([8],[]) (fun x s=>((x.1.1,x.1.2.1,x.1.2.2.1,x.1.2.2.2.1,s,x.1.2.2.2.2.2),x.2))
  (fun x s=>by simp only[B,mC,mB,mS,mO,mN];kernel_rfl)
end Xff
namespace Xac
def FS:FS:=Yc8 [.sh,.sh,.sh,.sh] pts (fun x=>Xac x.1 x.2.1 x.2.2.1 x.2.2.2.1) fun t=>⟨[.cs .bool t],[]⟩
theorem okS (self:Ty) (hs:Ycs PR 67 (FSr self)):Ycs PR 67 (FSr (step self)):=
 Ywm Xg Xf Proofs.Tryz.f67 h0 (.R (.R (.L (.R (.one (.fr 0)))))) (G:=(G self)) (Gok self hs) (L:=mkL [(0,Xff.fr self)]) (l:=[(0,.loop Xff.c)]) ⟨Lam.cons (Xff.ok self hs),trivial⟩
  (fun x=>by simp only[step,mC,mB,mS,mO,mN];kernel_rfl)
theorem okR:∀ k,Ycs PR 67 (FSr (R k))
 |0=>Ycs.bot
 |k+1=>okS _ (okR k)
theorem ok:Ycs PR 67 FS:=okR 40
end Xac
def Xin (v:Fs_) (v2:Int) (v3:Int):Option Int:=
 cond (inB v2 v.1.length) (cond (inB v3 v.1.length) ((some (!(((v.1.getD v2.toNat Xa).1 == 2) == ((v.1.getD v3.toNat Xa).1 == 2)))).bind fun v4=>cond v4 (some 9) (cond (inB v3 v.1.length) ((some ((v.1.getD v3.toNat Xa).2.2.2.2.1.length:Int)).bind fun v5=>cond (decide (v5>0)) (some 8) (some 0)) none)) none) none
namespace Xin
def pts:List PT:=[.pt Xk,.cs I64,.cs I64]
def FS:FS:=Yc8 [.sh,.sh,.sh] pts (fun x=>Xin x.1 x.2.1 x.2.2.1) fun t=>⟨[.cs I64 t],[]⟩
theorem ok:Ycs PR 68 FS:=
 Ywm Xg Xf Proofs.Tryz.f68 h0 .no (G:=(mkG [])) .nil (L:=mkL []) (l:=[]) hT
  (fun x=>by simp only[Xin,mC,mB,mS,mO,mN];kernel_rfl)
end Xin
def Xc0 (v:Fs_) (v2:Int) (v3:Int):Option (Int×Fs_):=
 cond (inB v2 v.1.length) (cond (inB v3 ((v.1.getD v2.toNat Xa).2.2.2.2.1.length)) ((some ((v.1.getD v2.toNat Xa).2.2.2.2.1.getD v3.toNat Xj).2.1).bind fun v4=>cond (decide ((0:Int)≤v3)&&decide (v3≤((v.1.getD v2.toNat Xa).2.2.2.2.1.length:Int))) ((some ([]++(((v.1.getD v2.toNat Xa).2.2.2.2.1.drop 0).take (v3.toNat-0)))).bind fun v5=>cond (decide (v5.length≤2147483648)) (cond (decide ((0:Int)≤(w64 (v3+1)))&&decide ((w64 (v3+1))≤((v.1.getD v2.toNat Xa).2.2.2.2.1.length:Int))) ((some (v5++(((v.1.getD v2.toNat Xa).2.2.2.2.1.drop ((w64 (v3+1)).toNat)).take (((v.1.getD v2.toNat Xa).2.2.2.2.1.length)-((w64 (v3+1)).toNat))))).bind fun v6=>cond (decide (v6.length≤2147483648)) (cond (inB v2 v.1.length) ((some (v.1.set v2.toNat ((v.1.getD v2.toNat Xa).1,(v.1.getD v2.toNat Xa).2.1,(v.1.getD v2.toNat Xa).2.2.1,(v.1.getD v2.toNat Xa).2.2.2.1,v6,(v.1.getD v2.toNat Xa).2.2.2.2.2))).bind fun v7=>some (v4,(v7,v.2))) none) none) none) none) none) none) none
namespace Xc0
def pts:List PT:=[.op (.cd Xk),.cs I64,.cs I64]
def FS:FS:=Yc8 [.mu,.sh,.sh] pts (fun x=>Xc0 x.1 x.2.1 x.2.2.1) fun t=>⟨[.cs I64 t.1],[.op (.cd Xk t.2)]⟩
theorem ok:Ycs PR 70 FS:=
 Ywm Xg Xf Proofs.Tryz.f70 h0 .no (G:=(mkG [])) .nil (L:=mkL []) (l:=[]) hT
  (fun x=>by simp only[Xc0,mC,mB,mS,mO,mN];kernel_rfl)
end Xc0
def Xgb.B (v2:Int) (v3:Int) (v4:Fs_):Option ((Int×Fs_)⊕Fs_):=
 cond (inB v2 v4.1.length) ((some ((v4.1.getD v2.toNat Xa).2.2.2.1.length:Int)).bind fun v5=>cond (decide (v3<v5)) (cond (inB v2 v4.1.length) (cond (inB v3 ((v4.1.getD v2.toNat Xa).2.2.2.1.length)) ((some ((v4.1.getD v2.toNat Xa).2.2.2.1.getD v3.toNat 0)).bind fun v6=>cond (inB v6 v4.2.1.length) (some (.inl (w64 (v3+1),(v4.1,v4.2.1.set v6.toNat [],v4.2.2)))) none) none) none) (some (.inr v4))) none
def Xgb (v2:Int):(Int×Fs_)→Option Fs_:=
 Yam fun s=>Xgb.B v2 s.1 s.2
def Xhy (v:Fs_) (v2:Int):Option Fs_:=
 (Xgb v2 (0,v)).bind fun v7=>cond (inB v2 v7.1.length) (some (v7.1.set v2.toNat (0,0,0,[],[],()),v7.2)) none
namespace Xgb
noncomputable def c:=Yaq (Yal Proofs.Tryz.f132) [0,1,0,0]
def sp:SP:=⟨[(0,.loc 0 []),(1,.cs I64),(4,.cs I64)],[(0,.mem,.cd Xk)]⟩
def fr:=Yi1 sp (fun x s=>Xgb.B x.1.2.1 s.1 s.2) (fun x=>(x.1.2.2.1,x.2.1)) fun x (bb0:Fs_) _ kk0=>kk0 (.ex 0) ⟨[(0,.loc 0 []),(1,.cs I64 x.1.2.1)],[(0,some ⟨.mem,.cd Xk bb0⟩)]⟩
theorem ok:Ya5 PR 41 2 (.loop c) fr:=
 Ywg Xg Xf h0 [(0,([0,1],[0]))] (fun x s=>((x.1.1,x.1.2.1,s.1,x.1.2.2.2),(s.2,x.2.2)))
  (fun x s=>by simp only[B,mC,mB,mS,mO,mN];kernel_rfl)
end Xgb
namespace Xhy
def pts:List PT:=[.op (.cd Xk),.cs I64]
def FS:FS:=Yc8 [.mu,.sh] pts (fun x=>Xhy x.1 x.2.1) fun t=>⟨[],[.op (.cd Xk t)]⟩
theorem ok:Ycs PR 132 FS:=
 Ywm Xg Xf Proofs.Tryz.f132 h0 (.L (.R (.one (.fr 0)))) (G:=(mkG [])) .nil (L:=mkL [(0,Xgb.fr)]) (l:=[(0,.loop Xgb.c)]) ⟨Lam.cons Xgb.ok,trivial⟩
  (fun x=>by simp only[Xhy,mC,mB,mS,mO,mN];kernel_rfl)
end Xhy
def Xio (v:Fs_) (v2:Int):Option Fs_:=
 cond (inB v2 v.1.length) (cond ((v.1.getD v2.toNat Xa).1 != 1) (some v) (cond (inB v2 v.1.length) (cond (inB v2 v.1.length) ((some (v.1.set v2.toNat ((v.1.getD v2.toNat Xa).1,w64 ((v.1.getD v2.toNat Xa).2.1-1),(v.1.getD v2.toNat Xa).2.2))).bind fun v3=>cond (inB v2 v3.length) (cond (decide ((v3.getD v2.toNat Xa).2.1>0)) (some (v3,v.2)) ((Xg9 v3 v2).bind fun v4=>cond (decide (v4>0)) (cond (inB v2 v3.length) ((some (v3.set v2.toNat ((v3.getD v2.toNat Xa).1,1,(v3.getD v2.toNat Xa).2.2))).bind fun v5=>some (v5,v.2)) none) ((Xhy (v3,v.2) v2).bind fun v6=>some v6))) none) none) none)) none
namespace Xio
def G:Gam:=mkG [(83,Xg9.FS),(132,Xhy.FS)]
def pts:List PT:=[.op (.cd Xk),.cs I64]
def FS:FS:=Yc8 [.mu,.sh] pts (fun x=>Xio x.1 x.2.1) fun t=>⟨[],[.op (.cd Xk t)]⟩
theorem ok:Ycs PR 109 FS:=
 Ywm Xg Xf Proofs.Tryz.f109 h0 .no (G:=G) (show GOk PR G from .cons Xg9.ok (.cons Xhy.ok .nil)) (L:=mkL []) (l:=[]) hT
  (fun x=>by simp only[Xio,mC,mB,mS,mO,mN];kernel_rfl)
end Xio
def Xhf (v:Fs_) (v2:Int) (v3:Int):Option Fs_:=
 (Xc0 v v2 v3).bind fun v4=>(Xio v4.2 v4.1).bind fun v5=>cond (inB v4.1 v5.1.length) (cond ((v5.1.getD v4.1.toNat Xa).1 == 2) (cond (inB v4.1 v5.1.length) (some (v5.1.set v4.1.toNat (0,0,0,[],[],()),v5.2)) none) (some v5)) none
namespace Xhf
def G:Gam:=mkG [(70,Xc0.FS),(109,Xio.FS)]
def pts:List PT:=[.op (.cd Xk),.cs I64,.cs I64]
def FS:FS:=Yc8 [.mu,.sh,.sh] pts (fun x=>Xhf x.1 x.2.1 x.2.2.1) fun t=>⟨[],[.op (.cd Xk t)]⟩
theorem ok:Ycs PR 69 FS:=
 Ywm Xg Xf Proofs.Tryz.f69 h0 .no (G:=G) (show GOk PR G from .cons Xc0.ok (.cons Xio.ok .nil)) (L:=mkL []) (l:=[]) hT
  (fun x=>by simp only[Xhf,mC,mB,mS,mO,mN];kernel_rfl)
end Xhf
def Xgc.B (v:List Xe) (v2:Xe) (v3:Int):Option (Int⊕Int):=
 cond (cond (decide (v3<(v.length:Int))) (inB v3 v.length) true) ((some (cond (decide (v3<(v.length:Int))) (leB (v.getD v3.toNat Xj).1 v2.1) false)).bind fun v4=>cond v4 (some (.inl (w64 (v3+1)))) (some (.inr v3))) none
def Xgc (v:List Xe) (v2:Xe):Int→Option Int:=
 Yam fun s=>Xgc.B v v2 s
def Xen (v:List Xe) (v2:Xe):Option (List Xe):=
 (Xgc v v2 0).bind fun v5=>cond (decide ((0:Int)≤v5)&&decide (v5≤(v.length:Int))) (cond (decide (([]++((v.take v5.toNat).drop 0)).length≤2147483648)) (cond (decide ((([]++((v.take v5.toNat).drop 0))++([v2])).length≤2147483648)) (cond (decide ((0:Int)≤v5)&&decide (v5≤(v.length:Int))) ((some ((([]++((v.take v5.toNat).drop 0))++([v2]))++((v.take v.length).drop v5.toNat))).bind fun v6=>cond (decide (v6.length≤2147483648)) (some v6) none) none) none) none) none
namespace Xgc
noncomputable def c:=Yaq (Yal Proofs.Tryz.f71) [1,1,0,0,0]
def sp:SP:=⟨[(0,.cs (.sl Xh)),(3,.pt Xh),(5,.cs I64)],[]⟩
def fr:=Yi1 sp (fun x s=>Xgc.B x.1.1 x.1.2.1 s) (fun x=>x.1.2.2.1) fun x (bb0:Int) _ kk0=>kk0 (.ex 0) ⟨[(0,.cs (.sl Xh) x.1.1),(3,.pt Xh x.1.2.1),(5,.cs I64 bb0)],[]⟩
theorem ok:Ya5 PR 34 2 (.loop c) fr:=
 Ywg Xg Xf ⟨[3],[],[],0⟩ [(0,([0,3,5],[]))] (fun x s=>((x.1.1,x.1.2.1,s,x.1.2.2.2),x.2))
  (fun x s=>by simp only[B,mC,mB,mS,mO,mN];kernel_rfl)
end Xgc
namespace Xen
def pts:List PT:=[.cs (.sl Xh),.cs Xh]
def FS:FS:=Yc8 [.sh,.sh] pts (fun x=>Xen x.1 x.2.1) fun t=>⟨[.cd (.sl Xh) t],[]⟩
theorem ok:Ycs PR 71 FS:=
 Ywm Xg Xf Proofs.Tryz.f71 ⟨[3],[],[],0⟩ (.R (.R (.L (.one (.fr 0))))) (G:=(mkG [])) .nil (L:=mkL [(0,Xgc.fr)]) (l:=[(0,.loop Xgc.c)]) ⟨Lam.cons Xgc.ok,trivial⟩
  (fun x=>by simp only[Xen,mC,mB,mS,mO,mN];kernel_rfl)
end Xen
def Xiz (v:Fs_) (v2:List UInt8) (v3:List UInt8):Option Xq:=
 (Xhx v v2).bind fun v4=>cond (v4.2.2 != 0) ((Xdq v v4.2.2).bind fun v5=>some (v5.1,v5.2.1,v5.2.2.1,v5.2.2.2.1,v5.2.2.2.2.1,(v5.2.2.2.2.2.1.1,v5.2.2.2.2.2.1.2.1,v5.2.2.2.2.2.1.2.2),v5.2.2.2.2.2.2)) (cond (inB v4.1 v.1.length) ((Xct (v.1.getD v4.1.toNat Xa).2.2.2.2.1 v4.2.1).bind fun v6=>cond (decide (v6<0)) ((Xdq v 4).bind fun v7=>some (v7.1,v7.2.1,v7.2.2.1,v7.2.2.2.1,v7.2.2.2.2.1,(v7.2.2.2.2.2.1.1,v7.2.2.2.2.2.1.2.1,v7.2.2.2.2.2.1.2.2),v7.2.2.2.2.2.2)) (cond (inB v4.1 v.1.length) (cond (inB v6 ((v.1.getD v4.1.toNat Xa).2.2.2.2.1.length)) ((some ((v.1.getD v4.1.toNat Xa).2.2.2.2.1.getD v6.toNat Xj).2.1).bind fun v8=>(Xhx v v3).bind fun v9=>cond (v9.2.2 != 0) ((Xdq v v9.2.2).bind fun v10=>some (v10.1,v10.2.1,v10.2.2.1,v10.2.2.2.1,v10.2.2.2.2.1,(v10.2.2.2.2.2.1.1,v10.2.2.2.2.2.1.2.1,v10.2.2.2.2.2.1.2.2),v10.2.2.2.2.2.2)) (cond (inB v8 v.1.length) (cond ((v.1.getD v8.toNat Xa).1 == 2) ((Xac v v9.1 v8 10).bind fun v11=>cond v11 ((Xdq v 1).bind fun v12=>some (v12.1,v12.2.1,v12.2.2.1,v12.2.2.2.1,v12.2.2.2.2.1,(v12.2.2.2.2.2.1.1,v12.2.2.2.2.2.1.2.1,v12.2.2.2.2.2.1.2.2),v12.2.2.2.2.2.2)) ((Xcz v).bind fun v13=>cond (inB v9.1 v.1.length) ((Xct (v.1.getD v9.1.toNat Xa).2.2.2.2.1 v9.2.1).bind fun v14=>cond (decide (v14≥0)) (cond (inB v9.1 v.1.length) (cond (inB v14 ((v.1.getD v9.1.toNat Xa).2.2.2.2.1.length)) ((some ((v.1.getD v9.1.toNat Xa).2.2.2.2.1.getD v14.toNat Xj).2.1).bind fun v15=>cond (v15 == v8) ((Xdq v 0).bind fun v16=>some (v16.1,v16.2.1,v16.2.2.1,v16.2.2.2.1,v16.2.2.2.2.1,(v16.2.2.2.2.2.1.1,v16.2.2.2.2.2.1.2.1,v16.2.2.2.2.2.1.2.2),v16.2.2.2.2.2.2)) ((Xin v v8 v15).bind fun v17=>cond (v17 != 0) ((Xdq v v17).bind fun v18=>some (v18.1,v18.2.1,v18.2.2.1,v18.2.2.2.1,v18.2.2.2.2.1,(v18.2.2.2.2.2.1.1,v18.2.2.2.2.2.1.2.1,v18.2.2.2.2.2.1.2.2),v18.2.2.2.2.2.2)) ((Xhf (v13.1,v13.2.1,v13.2.2) v9.1 v14).bind fun v19=>cond (inB v4.1 v19.1.length) ((Xct (v19.1.getD v4.1.toNat Xa).2.2.2.2.1 v4.2.1).bind fun v20=>(Xc0 v19 v4.1 v20).bind fun v21=>cond (inB v9.1 v21.2.1.length) ((Xen (v21.2.1.getD v9.1.toNat Xa).2.2.2.2.1 (v9.2.1,v8,())).bind fun v22=>cond (inB v9.1 v21.2.1.length) ((some (v21.2.1.set v9.1.toNat ((v21.2.1.getD v9.1.toNat Xa).1,(v21.2.1.getD v9.1.toNat Xa).2.1,(v21.2.1.getD v9.1.toNat Xa).2.2.1,(v21.2.1.getD v9.1.toNat Xa).2.2.2.1,v22,(v21.2.1.getD v9.1.toNat Xa).2.2.2.2.2))).bind fun v23=>some (0,0,0,[],[],(v23,v21.2.2.1,v21.2.2.2),())) none) none) none))) none) none) (cond (cond (v9.1 != v4.1) (inB v9.1 v.1.length) true) ((some (cond (v9.1 != v4.1) (decide (((v.1.getD v9.1.toNat Xa).2.2.2.2.1.length:Int)≥6)) false)).bind fun v24=>cond v24 ((Xdq v 2).bind fun v25=>some (v25.1,v25.2.1,v25.2.2.1,v25.2.2.2.1,v25.2.2.2.2.1,(v25.2.2.2.2.2.1.1,v25.2.2.2.2.2.1.2.1,v25.2.2.2.2.2.1.2.2),v25.2.2.2.2.2.2)) (cond (inB v4.1 v13.1.length) ((Xct (v13.1.getD v4.1.toNat Xa).2.2.2.2.1 v4.2.1).bind fun v26=>(Xc0 (v13.1,v13.2.1,v13.2.2) v4.1 v26).bind fun v27=>cond (inB v9.1 v27.2.1.length) ((Xen (v27.2.1.getD v9.1.toNat Xa).2.2.2.2.1 (v9.2.1,v8,())).bind fun v28=>cond (inB v9.1 v27.2.1.length) ((some (v27.2.1.set v9.1.toNat ((v27.2.1.getD v9.1.toNat Xa).1,(v27.2.1.getD v9.1.toNat Xa).2.1,(v27.2.1.getD v9.1.toNat Xa).2.2.1,(v27.2.1.getD v9.1.toNat Xa).2.2.2.1,v28,(v27.2.1.getD v9.1.toNat Xa).2.2.2.2.2))).bind fun v29=>some (0,0,0,[],[],(v29,v27.2.2.1,v27.2.2.2),())) none) none) none)) none)) none)) ((Xcz v).bind fun v30=>cond (inB v9.1 v.1.length) ((Xct (v.1.getD v9.1.toNat Xa).2.2.2.2.1 v9.2.1).bind fun v31=>cond (decide (v31≥0)) (cond (inB v9.1 v.1.length) (cond (inB v31 ((v.1.getD v9.1.toNat Xa).2.2.2.2.1.length)) ((some ((v.1.getD v9.1.toNat Xa).2.2.2.2.1.getD v31.toNat Xj).2.1).bind fun v32=>cond (v32 == v8) ((Xdq v 0).bind fun v33=>some (v33.1,v33.2.1,v33.2.2.1,v33.2.2.2.1,v33.2.2.2.2.1,(v33.2.2.2.2.2.1.1,v33.2.2.2.2.2.1.2.1,v33.2.2.2.2.2.1.2.2),v33.2.2.2.2.2.2)) ((Xin v v8 v32).bind fun v34=>cond (v34 != 0) ((Xdq v v34).bind fun v35=>some (v35.1,v35.2.1,v35.2.2.1,v35.2.2.2.1,v35.2.2.2.2.1,(v35.2.2.2.2.2.1.1,v35.2.2.2.2.2.1.2.1,v35.2.2.2.2.2.1.2.2),v35.2.2.2.2.2.2)) ((Xhf (v30.1,v30.2.1,v30.2.2) v9.1 v31).bind fun v36=>cond (inB v4.1 v36.1.length) ((Xct (v36.1.getD v4.1.toNat Xa).2.2.2.2.1 v4.2.1).bind fun v37=>(Xc0 v36 v4.1 v37).bind fun v38=>cond (inB v9.1 v38.2.1.length) ((Xen (v38.2.1.getD v9.1.toNat Xa).2.2.2.2.1 (v9.2.1,v8,())).bind fun v39=>cond (inB v9.1 v38.2.1.length) ((some (v38.2.1.set v9.1.toNat ((v38.2.1.getD v9.1.toNat Xa).1,(v38.2.1.getD v9.1.toNat Xa).2.1,(v38.2.1.getD v9.1.toNat Xa).2.2.1,(v38.2.1.getD v9.1.toNat Xa).2.2.2.1,v39,(v38.2.1.getD v9.1.toNat Xa).2.2.2.2.2))).bind fun v40=>some (0,0,0,[],[],(v40,v38.2.2.1,v38.2.2.2),())) none) none) none))) none) none) (cond (cond (v9.1 != v4.1) (inB v9.1 v.1.length) true) ((some (cond (v9.1 != v4.1) (decide (((v.1.getD v9.1.toNat Xa).2.2.2.2.1.length:Int)≥6)) false)).bind fun v41=>cond v41 ((Xdq v 2).bind fun v42=>some (v42.1,v42.2.1,v42.2.2.1,v42.2.2.2.1,v42.2.2.2.2.1,(v42.2.2.2.2.2.1.1,v42.2.2.2.2.2.1.2.1,v42.2.2.2.2.2.1.2.2),v42.2.2.2.2.2.2)) (cond (inB v4.1 v30.1.length) ((Xct (v30.1.getD v4.1.toNat Xa).2.2.2.2.1 v4.2.1).bind fun v43=>(Xc0 (v30.1,v30.2.1,v30.2.2) v4.1 v43).bind fun v44=>cond (inB v9.1 v44.2.1.length) ((Xen (v44.2.1.getD v9.1.toNat Xa).2.2.2.2.1 (v9.2.1,v8,())).bind fun v45=>cond (inB v9.1 v44.2.1.length) ((some (v44.2.1.set v9.1.toNat ((v44.2.1.getD v9.1.toNat Xa).1,(v44.2.1.getD v9.1.toNat Xa).2.1,(v44.2.1.getD v9.1.toNat Xa).2.2.1,(v44.2.1.getD v9.1.toNat Xa).2.2.2.1,v45,(v44.2.1.getD v9.1.toNat Xa).2.2.2.2.2))).bind fun v46=>some (0,0,0,[],[],(v46,v44.2.2.1,v44.2.2.2),())) none) none) none)) none)) none)) none)) none) none)) none)
namespace Xiz
def G:Gam:=mkG [(46,Xhx.FS),(45,Xdq.FS),(66,Xct.FS),(67,Xac.FS),(47,Xcz.FS),(68,Xin.FS),(69,Xhf.FS),(70,Xc0.FS),(71,Xen.FS)]
def pts:List PT:=[.cs Xk,.cs .str,.cs .str]
def FS:FS:=Yc8 [.sh,.sh,.sh] pts (fun x=>Xiz x.1 x.2.1 x.2.2.1) fun t=>⟨[.cd Xi t],[]⟩
theorem ok:Ycs PR 37 FS:=
 Ywm Xg Xf Proofs.Tryz.f37 ⟨[3],[],[],0⟩ .no (G:=G) (show GOk PR G from .cons Xhx.ok (.cons Xdq.ok (.cons Xct.ok (.cons Xac.ok (.cons Xcz.ok (.cons Xin.ok (.cons Xhf.ok (.cons Xc0.ok (.cons Xen.ok .nil))))))))) (L:=mkL []) (l:=[]) hT
  (fun x=>by simp only[Xiz,mC,mB,mS,mO,mN];kernel_rfl)
end Xiz
def Xhm (v:Fs_) (v2:List UInt8) (v3:List UInt8):Option Xq:=
 (Xik v).bind fun v4=>cond (v4 != 0) (some (v4,0,0,[],[],([],[],()),())) ((Xiz v v2 v3).bind fun v5=>some (v5.1,v5.2.1,v5.2.2.1,v5.2.2.2.1,v5.2.2.2.2.1,(v5.2.2.2.2.2.1.1,v5.2.2.2.2.2.1.2.1,v5.2.2.2.2.2.1.2.2),v5.2.2.2.2.2.2))
namespace Xhm
def G:Gam:=mkG [(18,Xik.FS),(37,Xiz.FS)]
def pts:List PT:=[.cs Xk,.cs .str,.cs .str]
def FS:FS:=Yc8 [.sh,.sh,.sh] pts (fun x=>Xhm x.1 x.2.1 x.2.2.1) fun t=>⟨[.cd Xi t],[]⟩
theorem ok:Ycs PR 14 FS:=
 Ywm Xg Xf Proofs.Tryz.f14 ⟨[3],[],[],0⟩ .no (G:=G) (show GOk PR G from .cons Xik.ok (.cons Xiz.ok .nil)) (L:=mkL []) (l:=[]) hT
  (fun x=>by simp only[Xhm,mC,mB,mS,mO,mN];kernel_rfl)
end Xhm
def Xdr (v:Int) (v2:Int) (v3:Int):Option Bool:=
 some (cond (decide (v≥v2)) (decide (v≤v3)) false)
namespace Xdr
def pts:List PT:=[.cs I64,.cs I64,.cs I64]
def FS:FS:=Yc8 [.sh,.sh,.sh] pts (fun x=>Xdr x.1 x.2.1 x.2.2.1) fun t=>⟨[.cs .bool t],[]⟩
theorem ok:Ycs PR 104 FS:=
 Ywm Xg Xf Proofs.Tryz.f104 h0 .no (G:=(mkG [])) .nil (L:=mkL []) (l:=[]) hT
  (fun x=>by simp only[Xdr,mC,mB,mS,mO,mN];kernel_rfl)
end Xdr
def Xi0 (v:List Int):Option Int:=
 some (v.length:Int)
namespace Xi0
def pts:List PT:=[.cs SI]
def FS:FS:=Yc8 [.sh] pts (fun x=>Xi0 x.1) fun t=>⟨[.cs I64 t],[]⟩
theorem ok:Ycs PR 166 FS:=
 Ywm Xg Xf Proofs.Tryz.f166 h0 .no (G:=(mkG [])) .nil (L:=mkL []) (l:=[]) hT
  (fun x=>by simp only[Xi0,mC,mB,mS,mO,mN];kernel_rfl)
end Xi0
def Xi1 (v:Int):Option Int:=
 cond (!((8:Int) == 0)) (some (w64 ((w64 ((w64 (v+8))-1)).tdiv 8))) none
namespace Xi1
def pts:List PT:=[.cs I64]
def FS:FS:=Yc8 [.sh] pts (fun x=>Xi1 x.1) fun t=>⟨[.cs I64 t],[]⟩
theorem ok:Ycs PR 167 FS:=
 Ywm Xg Xf Proofs.Tryz.f167 h0 .no (G:=(mkG [])) .nil (L:=mkL []) (l:=[]) hT
  (fun x=>by simp only[Xi1,mC,mB,mS,mO,mN];kernel_rfl)
end Xi1
def Xi2 (v:Int):Option Bool:=
 (Xdr v 0 19).bind fun v2=>some (!v2)
namespace Xi2
def G:Gam:=mkG [(104,Xdr.FS)]
def pts:List PT:=[.cs I64]
def FS:FS:=Yc8 [.sh] pts (fun x=>Xi2 x.1) fun t=>⟨[.cs .bool t],[]⟩
theorem ok:Ycs PR 169 FS:=
 Ywm Xg Xf Proofs.Tryz.f169 h0 .no (G:=G) (show GOk PR G from .cons Xdr.ok .nil) (L:=mkL []) (l:=[]) hT
  (fun x=>by simp only[Xi2,mC,mB,mS,mO,mN];kernel_rfl)
end Xi2
def Xhg.B (v:List Int) (v2:Unit) (v3:Int) (v4:Int):Option (Int⊕((Int⊕Unit))):=
 cond (decide (v4<v3)) (cond (inB v4 v.length) ((Xi2 (v.getD v4.toNat 0)).bind fun v5=>cond v5 (some (.inr (.inl v4))) (some (.inl (w64 (v4+1))))) none) (some (.inr (.inr ())))
def Xhg (v:List Int) (v2:Unit) (v3:Int):Int→Option ((Int⊕Unit)):=
 Yam fun s=>Xhg.B v v2 v3 s
def Xhh (v:List Int) (v2:Unit):Option Int:=
 (Xhg v v2 (v.length:Int) 0).bind fun v6=>sel v6 (fun v7=>some v7) (fun v8=>some (-1))
namespace Xhh
def G:Gam:=mkG [(169,Xi2.FS)]
theorem Gok:GOk PR G:=.cons Xi2.ok .nil
end Xhh
namespace Xhg
noncomputable def c:=Yaq (Yal Proofs.Tryz.f180) [1,0,1,0,0]
def sp:SP:=⟨[(0,.cs SI),(1,.clo 169 (.cs .unit)),(7,.cs I64),(8,.cs I64)],[]⟩
def fr:=Yi1 sp (fun x s=>Xhg.B x.1.1 x.1.2.1 x.1.2.2.1 s) (fun x=>x.1.2.2.2.1) fun x (oo0:(Int⊕Unit)) _ kk0=>sel oo0 (fun bb0=>kk0 (.rt) ⟨[(4,.cs I64 bb0)],[]⟩) (fun cc0=>kk0 (.ex 0) ⟨[],[]⟩)
theorem ok:Ya5 PR 19 2 (.loop c) fr:=
 Ys4 Xg Xf h0 .no (G:=Xhh.G) Xhh.Gok (L:=mkL []) (l:=[]) hT [(0,([],[]))] ([4],[]) (fun x s=>((x.1.1,x.1.2.1,x.1.2.2.1,s,x.1.2.2.2.2),x.2))
  (fun x s=>by simp only[B,mC,mB,mS,mO,mN];kernel_rfl)
end Xhg
namespace Xhh
def pts:List PT:=[.cs SI,.clo 169 (.cs .unit)]
def FS:FS:=Yc8 [.sh,.sh] pts (fun x=>Xhh x.1 x.2.1) fun t=>⟨[.cs I64 t],[]⟩
theorem ok:Ycs PR 180 FS:=
 Ywm Xg Xf Proofs.Tryz.f180 h0 (.R (.L (.R (.one (.fr 0))))) (G:=G) Gok (L:=mkL [(0,Xhg.fr)]) (l:=[(0,.loop Xhg.c)]) ⟨Lam.cons Xhg.ok,trivial⟩
  (fun x=>by simp only[Xhh,mC,mB,mS,mO,mN];kernel_rfl)
end Xhh
def Xer (v:List Int) (v2:Unit):Option Bool:=
 (Xhh v v2).bind fun v3=>some (decide (v3≥0))
namespace Xer
def G:Gam:=mkG [(180,Xhh.FS)]
def pts:List PT:=[.cs SI,.clo 169 (.cs .unit)]
def FS:FS:=Yc8 [.sh,.sh] pts (fun x=>Xer x.1 x.2.1) fun t=>⟨[.cs .bool t],[]⟩
theorem ok:Ycs PR 168 FS:=
 Ywm Xg Xf Proofs.Tryz.f168 h0 .no (G:=G) (show GOk PR G from .cons Xhh.ok .nil) (L:=mkL []) (l:=[]) hT
  (fun x=>by simp only[Xer,mC,mB,mS,mO,mN];kernel_rfl)
end Xer
def Xc6.B (v:List Int) (v2:Int) (v3:Int) (v4:Int):Option (Int⊕((Int⊕Unit))):=
 cond (decide (v4<v3)) (cond (inB v4 v.length) (cond (v2 == (v.getD v4.toNat 0)) (some (.inr (.inl v4))) (some (.inl (w64 (v4+1))))) none) (some (.inr (.inr ())))
def Xc6 (v:List Int) (v2:Int) (v3:Int):Int→Option ((Int⊕Unit)):=
 Yam fun s=>Xc6.B v v2 v3 s
def Xgl (v:List Int) (v2:Int):Option Int:=
 (Xc6 v v2 (v.length:Int) 0).bind fun v5=>sel v5 (fun v6=>some v6) (fun v7=>some (-1))
namespace Xc6
noncomputable def c:=Yaq (Yal Proofs.Tryz.f110) [1,0,1,0,0]
def sp:SP:=⟨[(0,.cs SI),(1,.cs I64),(7,.cs I64),(8,.cs I64)],[]⟩
def fr:=Yi1 sp (fun x s=>Xc6.B x.1.1 x.1.2.1 x.1.2.2.1 s) (fun x=>x.1.2.2.2.1) fun x (oo0:(Int⊕Unit)) _ kk0=>sel oo0 (fun bb0=>kk0 (.rt) ⟨[(4,.cs I64 bb0)],[]⟩) (fun cc0=>kk0 (.ex 0) ⟨[],[]⟩)
theorem ok:Ya5 PR 19 2 (.loop c) fr:=
 Ys4 Xg Xf h0 .no (G:=(mkG [])) .nil (L:=mkL []) (l:=[]) hT [(0,([],[]))] ([4],[]) (fun x s=>((x.1.1,x.1.2.1,x.1.2.2.1,s,x.1.2.2.2.2),x.2))
  (fun x s=>by simp only[B,mC,mB,mS,mO,mN];kernel_rfl)
end Xc6
namespace Xgl
def pts:List PT:=[.cs SI,.cs I64]
def FS:FS:=Yc8 [.sh,.sh] pts (fun x=>Xgl x.1 x.2.1) fun t=>⟨[.cs I64 t],[]⟩
theorem ok:Ycs PR 110 FS:=
 Ywm Xg Xf Proofs.Tryz.f110 h0 (.R (.L (.R (.one (.fr 0))))) (G:=(mkG [])) .nil (L:=mkL [(0,Xc6.fr)]) (l:=[(0,.loop Xc6.c)]) ⟨Lam.cons Xc6.ok,trivial⟩
  (fun x=>by simp only[Xgl,mC,mB,mS,mO,mN];kernel_rfl)
end Xgl
def Xau (v:List Int) (v2:Int):Option Bool:=
 (Xgl v v2).bind fun v3=>some (decide (v3≥0))
namespace Xau
def G:Gam:=mkG [(110,Xgl.FS)]
def pts:List PT:=[.cs SI,.cs I64]
def FS:FS:=Yc8 [.sh,.sh] pts (fun x=>Xau x.1 x.2.1) fun t=>⟨[.cs .bool t],[]⟩
theorem ok:Ycs PR 73 FS:=
 Ywm Xg Xf Proofs.Tryz.f73 h0 .no (G:=G) (show GOk PR G from .cons Xgl.ok .nil) (L:=mkL []) (l:=[]) hT
  (fun x=>by simp only[Xau,mC,mB,mS,mO,mN];kernel_rfl)
end Xau
def Xbn.B (v:Xb) (v7:List Int) (v8:Int) (v9:Int):Option (Int⊕((Int⊕Unit))):=
 cond (decide (v9<v8)) (cond (inB v9 v7.length) (cond (decide ((0:Int)≤v9)&&decide (v9≤(v.2.2.2.1.length:Int))) ((Xau ((v.2.2.2.1.take v9.toNat).drop 0) (v7.getD v9.toNat 0)).bind fun v10=>cond v10 (some (.inr (.inl 7))) (some (.inl (w64 (v9+1))))) none) none) (some (.inr (.inr ())))
def Xbn (v:Xb) (v7:List Int) (v8:Int):Int→Option ((Int⊕Unit)):=
 Yam fun s=>Xbn.B v v7 v8 s
def Xbo (v:Xb):Option Int:=
 (Xdr v.2.1 1 60).bind fun v2=>cond (!v2) (some 3) ((Xdr v.2.2.1 0 32).bind fun v3=>cond (!v3) (some 3) ((Xi0 v.2.2.2.1).bind fun v4=>(Xi1 v.2.2.1).bind fun v5=>cond (v4 != v5) (some 1) ((Xer v.2.2.2.1 ()).bind fun v6=>cond v6 (some 3) ((Xbn v v.2.2.2.1 (v.2.2.2.1.length:Int) 0).bind fun v11=>sel v11 (fun v12=>some v12) (fun v13=>some 0)))))
namespace Xbo
def G:Gam:=mkG [(104,Xdr.FS),(166,Xi0.FS),(167,Xi1.FS),(168,Xer.FS),(73,Xau.FS)]
theorem Gok:GOk PR G:=.cons Xdr.ok (.cons Xi0.ok (.cons Xi1.ok (.cons Xer.ok (.cons Xau.ok .nil))))
end Xbo
namespace Xbn
noncomputable def c:=Yaq (Yal Proofs.Tryz.f149) [1,1,0,1,0,0]
def sp:SP:=⟨[(1,.pt Xd),(29,.cs SI),(30,.cs I64),(31,.cs I64)],[]⟩
def fr:=Yi1 sp (fun x s=>Xbn.B x.1.1 x.1.2.1 x.1.2.2.1 s) (fun x=>x.1.2.2.2.1) fun x (oo0:(Int⊕Unit)) _ kk0=>sel oo0 (fun bb0=>kk0 (.rt) ⟨[(2,.cs I64 bb0)],[]⟩) (fun cc0=>kk0 (.ex 1) ⟨[],[]⟩)
theorem ok:Ya5 PR 43 1 (.loop c) fr:=
 Ys4 Xg Xf ⟨[1],[],[],0⟩ .no (G:=Xbo.G) Xbo.Gok (L:=mkL []) (l:=[]) hT [(1,([],[]))] ([2],[]) (fun x s=>((x.1.1,x.1.2.1,x.1.2.2.1,s,x.1.2.2.2.2),x.2))
  (fun x s=>by simp only[B,mC,mB,mS,mO,mN];kernel_rfl)
end Xbn
namespace Xbo
def pts:List PT:=[.cs Xd]
def FS:FS:=Yc8 [.sh] pts (fun x=>Xbo x.1) fun t=>⟨[.cs I64 t],[]⟩
theorem ok:Ycs PR 149 FS:=
 Ywm Xg Xf Proofs.Tryz.f149 ⟨[1],[],[],0⟩ (.R (.R (.L (.R (.one (.fr 0)))))) (G:=G) Gok (L:=mkL [(0,Xbn.fr)]) (l:=[(0,.loop Xbn.c)]) ⟨Lam.cons Xbn.ok,trivial⟩
  (fun x=>by simp only[Xbo,mC,mB,mS,mO,mN];kernel_rfl)
end Xbo
def Xc7.B (v:List UInt8) (v2:Int) (v3:Int):Option (Int⊕((Int⊕Unit))):=
 cond (decide (v3<v2)) (cond (inB v3 v.length) (cond (cond (!(decide (((v.getD v3.toNat 0).toNat:Int)<97))) (inB v3 v.length) true) ((some (cond (decide (((v.getD v3.toNat 0).toNat:Int)<97)) true (decide (((v.getD v3.toNat 0).toNat:Int)>122)))).bind fun v4=>cond v4 (some (.inr (.inl 5))) (some (.inl (w64 (v3+1))))) none) none) (some (.inr (.inr ())))
def Xc7 (v:List UInt8) (v2:Int):Int→Option ((Int⊕Unit)):=
 Yam fun s=>Xc7.B v v2 s
def Xc8 (v:List UInt8):Option Int:=
 cond (v == ([]:List UInt8)) (some 5) ((Xc7 v (v.length:Int) 0).bind fun v5=>sel v5 (fun v6=>some v6) (fun v7=>cond (decide ((v.length:Int)>4)) (some 2) (some 0)))
namespace Xc7
noncomputable def c:=Yaq (Yal Proofs.Tryz.f130) [1,1,0,1,0,0]
def sp:SP:=⟨[(0,.cs .str),(7,.cs I64),(8,.cs I64)],[]⟩
def fr:=Yi1 sp (fun x s=>Xc7.B x.1.1 x.1.2.1 s) (fun x=>x.1.2.2.1) fun x (oo0:(Int⊕Unit)) _ kk0=>sel oo0 (fun bb0=>kk0 (.rt) ⟨[(2,.cs I64 bb0)],[]⟩) (fun cc0=>kk0 (.ex 0) ⟨[(0,.cs .str x.1.1)],[]⟩)
theorem ok:Ya5 PR 25 1 (.loop c) fr:=
 Ys4 Xg Xf h0 .no (G:=(mkG [])) .nil (L:=mkL []) (l:=[]) hT [(0,([0],[]))] ([2],[]) (fun x s=>((x.1.1,x.1.2.1,s,x.1.2.2.2),x.2))
  (fun x s=>by simp only[B,mC,mB,mS,mO,mN];kernel_rfl)
end Xc7
namespace Xc8
def pts:List PT:=[.cs .str]
def FS:FS:=Yc8 [.sh] pts (fun x=>Xc8 x.1) fun t=>⟨[.cs I64 t],[]⟩
theorem ok:Ycs PR 130 FS:=
 Ywm Xg Xf Proofs.Tryz.f130 h0 (.R (.R (.L (.R (.one (.fr 0)))))) (G:=(mkG [])) .nil (L:=mkL [(0,Xc7.fr)]) (l:=[(0,.loop Xc7.c)]) ⟨Lam.cons Xc7.ok,trivial⟩
  (fun x=>by simp only[Xc8,mC,mB,mS,mO,mN];kernel_rfl)
end Xc8
def Xbp.B (v:Xb) (v2:List Xe) (v3:Int) (v4:Int):Option (Int⊕((Int⊕Unit))):=
 cond (decide (v4<v3)) (cond (inB v4 v2.length) ((Xc8 (v2.getD v4.toNat Xj).1).bind fun v5=>cond (v5 != 0) (some (.inr (.inl v5))) ((Xdr (v2.getD v4.toNat Xj).2.1 0 9).bind fun v6=>cond (!v6) (some (.inr (.inl 3))) (cond (cond (decide (v4>0)) (inB (w64 (v4-1)) v.2.2.2.2.1.length) true) ((some (cond (decide (v4>0)) (!leB (v.2.2.2.2.1.getD (w64 (v4-1)).toNat Xj).1 (v2.getD v4.toNat Xj).1) false)).bind fun v7=>cond v7 (some (.inr (.inl 1))) (some (.inl (w64 (v4+1))))) none))) none) (some (.inr (.inr ())))
def Xbp (v:Xb) (v2:List Xe) (v3:Int):Int→Option ((Int⊕Unit)):=
 Yam fun s=>Xbp.B v v2 v3 s
def Xbq (v:Xb):Option Int:=
 cond (decide ((v.2.2.2.2.1.length:Int)>6)) (some 2) ((Xbp v v.2.2.2.2.1 (v.2.2.2.2.1.length:Int) 0).bind fun v8=>sel v8 (fun v9=>some v9) (fun v10=>some 0))
namespace Xbq
def G:Gam:=mkG [(130,Xc8.FS),(104,Xdr.FS)]
theorem Gok:GOk PR G:=.cons Xc8.ok (.cons Xdr.ok .nil)
end Xbq
namespace Xbp
noncomputable def c:=Yaq (Yal Proofs.Tryz.f150) [1,1,0,1,0,0]
def sp:SP:=⟨[(1,.pt Xd),(11,.cs (.sl Xh)),(12,.cs I64),(13,.cs I64)],[]⟩
def fr:=Yi1 sp (fun x s=>Xbp.B x.1.1 x.1.2.1 x.1.2.2.1 s) (fun x=>x.1.2.2.2.1) fun x (oo0:(Int⊕Unit)) _ kk0=>sel oo0 (fun bb0=>kk0 (.rt) ⟨[(2,.cs I64 bb0)],[]⟩) (fun cc0=>kk0 (.ex 0) ⟨[],[]⟩)
theorem ok:Ya5 PR 43 1 (.loop c) fr:=
 Ys4 Xg Xf ⟨[1],[],[],0⟩ .no (G:=Xbq.G) Xbq.Gok (L:=mkL []) (l:=[]) hT [(0,([],[]))] ([2],[]) (fun x s=>((x.1.1,x.1.2.1,x.1.2.2.1,s,x.1.2.2.2.2),x.2))
  (fun x s=>by simp only[B,mC,mB,mS,mO,mN];kernel_rfl)
end Xbp
namespace Xbq
def pts:List PT:=[.cs Xd]
def FS:FS:=Yc8 [.sh] pts (fun x=>Xbq x.1) fun t=>⟨[.cs I64 t],[]⟩
theorem ok:Ycs PR 150 FS:=
 Ywm Xg Xf Proofs.Tryz.f150 ⟨[1],[],[],0⟩ (.R (.R (.L (.R (.one (.fr 0)))))) (G:=G) Gok (L:=mkL [(0,Xbp.fr)]) (l:=[(0,.loop Xbp.c)]) ⟨Lam.cons Xbp.ok,trivial⟩
  (fun x=>by simp only[Xbq,mC,mB,mS,mO,mN];kernel_rfl)
end Xbq
def Xes (v:Xb):Option Int:=
 (some (cond (cond (v.2.1 == 0) (v.2.2.1 == 0) false) ((v.2.2.2.1.length:Int) == 0) false)).bind fun v2=>(Xdr v.1 0 2).bind fun v3=>cond (!v3) (some 1) (cond (cond (v.1 != 1) (!v2) false) (some 1) ((some (cond (v.1 != 2) (!((v.2.2.2.2.1.length:Int) == 0)) false)).bind fun v4=>cond v4 (some 1) (cond (v.1 == 1) ((Xbo v).bind fun v5=>some v5) ((Xbq v).bind fun v6=>some v6))))
namespace Xes
def G:Gam:=mkG [(104,Xdr.FS),(149,Xbo.FS),(150,Xbq.FS)]
def pts:List PT:=[.cs Xd]
def FS:FS:=Yc8 [.sh] pts (fun x=>Xes x.1) fun t=>⟨[.cs I64 t],[]⟩
theorem ok:Ycs PR 140 FS:=
 Ywm Xg Xf Proofs.Tryz.f140 ⟨[1],[],[],0⟩ .no (G:=G) (show GOk PR G from .cons Xdr.ok (.cons Xbo.ok (.cons Xbq.ok .nil))) (L:=mkL []) (l:=[]) hT
  (fun x=>by simp only[Xes,mC,mB,mS,mO,mN];kernel_rfl)
end Xes
def Xc9.B (v:List Xb) (v2:Int) (v3:Int):Option (Int⊕((Int⊕Unit))):=
 cond (decide (v3<v2)) (cond (inB v3 v.length) ((Xes (v.getD v3.toNat Xa)).bind fun v4=>cond (v4 != 0) (some (.inr (.inl v4))) (some (.inl (w64 (v3+1))))) none) (some (.inr (.inr ())))
def Xc9 (v:List Xb) (v2:Int):Int→Option ((Int⊕Unit)):=
 Yam fun s=>Xc9.B v v2 s
def Xbr (v:List Xb):Option Int:=
 cond (decide ((v.length:Int)>10)) (some 2) ((Xc9 v (v.length:Int) 0).bind fun v5=>sel v5 (fun v6=>some v6) (fun v7=>some 0))
namespace Xbr
def G:Gam:=mkG [(140,Xes.FS)]
theorem Gok:GOk PR G:=.cons Xes.ok .nil
end Xbr
namespace Xc9
noncomputable def c:=Yaq (Yal Proofs.Tryz.f123) [1,1,0,1,0,0]
def sp:SP:=⟨[(9,.cs (.sl Xd)),(10,.cs I64),(11,.cs I64)],[]⟩
def fr:=Yi1 sp (fun x s=>Xc9.B x.1.1 x.1.2.1 s) (fun x=>x.1.2.2.1) fun x (oo0:(Int⊕Unit)) _ kk0=>sel oo0 (fun bb0=>kk0 (.rt) ⟨[(2,.cs I64 bb0)],[]⟩) (fun cc0=>kk0 (.ex 0) ⟨[],[]⟩)
theorem ok:Ya5 PR 21 1 (.loop c) fr:=
 Ys4 Xg Xf h0 .no (G:=Xbr.G) Xbr.Gok (L:=mkL []) (l:=[]) hT [(0,([],[]))] ([2],[]) (fun x s=>((x.1.1,x.1.2.1,s,x.1.2.2.2),x.2))
  (fun x s=>by simp only[B,mC,mB,mS,mO,mN];kernel_rfl)
end Xc9
namespace Xbr
def pts:List PT:=[.cs (.sl Xd)]
def FS:FS:=Yc8 [.sh] pts (fun x=>Xbr x.1) fun t=>⟨[.cs I64 t],[]⟩
theorem ok:Ycs PR 123 FS:=
 Ywm Xg Xf Proofs.Tryz.f123 h0 (.R (.R (.L (.R (.one (.fr 0)))))) (G:=G) Gok (L:=mkL [(0,Xc9.fr)]) (l:=[(0,.loop Xc9.c)]) ⟨Lam.cons Xc9.ok,trivial⟩
  (fun x=>by simp only[Xbr,mC,mB,mS,mO,mN];kernel_rfl)
end Xbr
def Xet (v:Fs_):Option Int:=
 (Xbr v.1).bind fun v2=>cond (v2 != 0) (some v2) (cond (cond (!((v.1.length:Int) == 0)) (inB 0 v.1.length) true) ((some (cond ((v.1.length:Int) == 0) true ((v.1.getD (0:Int).toNat Xa).1 != 2))).bind fun v3=>cond (cond v3 true ((v.2.1.length:Int) != 20)) (some 1) (some 0)) none)
namespace Xet
def G:Gam:=mkG [(123,Xbr.FS)]
def pts:List PT:=[.cs Xk]
def FS:FS:=Yc8 [.sh] pts (fun x=>Xet x.1) fun t=>⟨[.cs I64 t],[]⟩
theorem ok:Ycs PR 93 FS:=
 Ywm Xg Xf Proofs.Tryz.f93 ⟨[1],[],[],0⟩ .no (G:=G) (show GOk PR G from .cons Xbr.ok .nil) (L:=mkL []) (l:=[]) hT
  (fun x=>by simp only[Xet,mC,mB,mS,mO,mN];kernel_rfl)
end Xet
def Xgm (v:List Int):Option Bool:=
 some (decide ((v.length:Int)>8))
namespace Xgm
def pts:List PT:=[.cs SB]
def FS:FS:=Yc8 [.sh] pts (fun x=>Xgm x.1) fun t=>⟨[.cs .bool t],[]⟩
theorem ok:Ycs PR 95 FS:=
 Ywm Xg Xf Proofs.Tryz.f95 h0 .no (G:=(mkG [])) .nil (L:=mkL []) (l:=[]) hT
  (fun x=>by simp only[Xgm,mC,mB,mS,mO,mN];kernel_rfl)
end Xgm
def Xda.B (v:List (List Int)) (v2:Unit) (v3:Int) (v4:Int):Option (Int⊕((Int⊕Unit))):=
 cond (decide (v4<v3)) (cond (inB v4 v.length) ((Xgm (v.getD v4.toNat [])).bind fun v5=>cond v5 (some (.inr (.inl v4))) (some (.inl (w64 (v4+1))))) none) (some (.inr (.inr ())))
def Xda (v:List (List Int)) (v2:Unit) (v3:Int):Int→Option ((Int⊕Unit)):=
 Yam fun s=>Xda.B v v2 v3 s
def Xdb (v:List (List Int)) (v2:Unit):Option Int:=
 (Xda v v2 (v.length:Int) 0).bind fun v6=>sel v6 (fun v7=>some v7) (fun v8=>some (-1))
namespace Xdb
def G:Gam:=mkG [(95,Xgm.FS)]
theorem Gok:GOk PR G:=.cons Xgm.ok .nil
end Xdb
namespace Xda
noncomputable def c:=Yaq (Yal Proofs.Tryz.f124) [1,0,1,0,0]
def sp:SP:=⟨[(0,.cs (.sl SB)),(1,.clo 95 (.cs .unit)),(7,.cs I64),(8,.cs I64)],[]⟩
def fr:=Yi1 sp (fun x s=>Xda.B x.1.1 x.1.2.1 x.1.2.2.1 s) (fun x=>x.1.2.2.2.1) fun x (oo0:(Int⊕Unit)) _ kk0=>sel oo0 (fun bb0=>kk0 (.rt) ⟨[(4,.cs I64 bb0)],[]⟩) (fun cc0=>kk0 (.ex 0) ⟨[],[]⟩)
theorem ok:Ya5 PR 19 2 (.loop c) fr:=
 Ys4 Xg Xf h0 .no (G:=Xdb.G) Xdb.Gok (L:=mkL []) (l:=[]) hT [(0,([],[]))] ([4],[]) (fun x s=>((x.1.1,x.1.2.1,x.1.2.2.1,s,x.1.2.2.2.2),x.2))
  (fun x s=>by simp only[B,mC,mB,mS,mO,mN];kernel_rfl)
end Xda
namespace Xdb
def pts:List PT:=[.cs (.sl SB),.clo 95 (.cs .unit)]
def FS:FS:=Yc8 [.sh,.sh] pts (fun x=>Xdb x.1 x.2.1) fun t=>⟨[.cs I64 t],[]⟩
theorem ok:Ycs PR 124 FS:=
 Ywm Xg Xf Proofs.Tryz.f124 h0 (.R (.L (.R (.one (.fr 0))))) (G:=G) Gok (L:=mkL [(0,Xda.fr)]) (l:=[(0,.loop Xda.c)]) ⟨Lam.cons Xda.ok,trivial⟩
  (fun x=>by simp only[Xdb,mC,mB,mS,mO,mN];kernel_rfl)
end Xdb
def Xeu (v:List (List Int)) (v2:Unit):Option Bool:=
 (Xdb v v2).bind fun v3=>some (decide (v3≥0))
namespace Xeu
def G:Gam:=mkG [(124,Xdb.FS)]
def pts:List PT:=[.cs (.sl SB),.clo 95 (.cs .unit)]
def FS:FS:=Yc8 [.sh,.sh] pts (fun x=>Xeu x.1 x.2.1) fun t=>⟨[.cs .bool t],[]⟩
theorem ok:Ycs PR 94 FS:=
 Ywm Xg Xf Proofs.Tryz.f94 h0 .no (G:=G) (show GOk PR G from .cons Xdb.ok .nil) (L:=mkL []) (l:=[]) hT
  (fun x=>by simp only[Xeu,mC,mB,mS,mO,mN];kernel_rfl)
end Xeu
noncomputable def Xgn (s:List Int):Option (List Int):=Yt1 s
def Xgn.FS:FS:=Yc8 [.mu] [.cl .deep (.sl (.int .i64))] (fun x=>Xgn x.1) fun y=>⟨[],[.cl .deep (.sl (.int .i64)) y]⟩
theorem Xgn.ok:Ycs Go.Proofs.Tryz.prog 125 Xgn.FS:=
 Yv7 ⟨Go.Proofs.Tryz.f125,by kernel_rfl,by kernel_rfl,by kernel_rfl⟩ (fun blk off cap zs w h1 h2 h3=>Go.Proofs.AnyM.slices_Sort_int Go.Proofs.Tryz.Xj7 blk off cap zs w h1 h2 h3) (fun p cap w=>Go.Proofs.AnyM.slices_Sort_int_none Go.Proofs.Tryz.Xj7 p cap w)
noncomputable def Xdc (s:List Int):Option (List Int):=Yq0 s
noncomputable def Xdc.FS:FS:=Yc8 [.sh] [.cl .sh (.sl (.int .i64))] (fun x=>Xdc x.1) fun y=>⟨[.cl .deep (.sl (.int .i64)) y],[]⟩
theorem Xdc.ok:Ycs Go.Proofs.Tryz.prog 55 Xdc.FS:=
 Yu9 (hn:=⟨[],[],[],0⟩) Xg Xf (fn:=Go.Proofs.Tryz.f55) (by kernel_rfl) (Yka (by kernel_rfl)) (by kernel_rfl) (by kernel_rfl) .deep (.int .i64) 59 59 2 (by kernel_rfl) (by kernel_rfl) (by kernel_rfl) (by kernel_rfl) (by kernel_rfl) (by kernel_rfl) (by kernel_rfl) (by kernel_rfl) (fun xs=>by kernel_rfl) (fun xs=>by kernel_rfl) (fun xs=>by kernel_rfl) (fun xs=>by kernel_rfl)
def Xav.B (v5:Nat) (v6:Nat) (v4:Int) (v7:Int) (v8:List Int):Option ((Int×Int×List Int)⊕(Int×List Int)):=
 cond (decide (v7<(v6:Int))) (cond (inB v7 v6) (cond (inB (w64 (v7-1)) v6) ((some ((v8.getD (v5+v7.toNat) 0) != (v8.getD (v5+(w64 (v7-1)).toNat) 0))).bind fun v9=>cond v9 (cond (inB v7 v6) (cond (inB v4 v8.length) (some (.inl (w64 (v4+1),w64 (v7+1),v8.set v4.toNat (v8.getD (v5+v7.toNat) 0)))) none) none) (some (.inl (v4,w64 (v7+1),v8)))) none) none) (some (.inr (v4,v8)))
def Xav (v5:Nat) (v6:Nat):(Int×Int×List Int)→Option (Int×List Int):=
 Yam fun s=>Xav.B v5 v6 s.1 s.2.1 s.2.2
def Xaf.B (v:List Int) (v2:Int):Option (Int⊕(((Nat×Nat×List Int)⊕Unit))):=
 cond (decide (v2<(v.length:Int))) (cond (inB v2 v.length) (cond (inB (w64 (v2-1)) v.length) ((some ((v.getD v2.toNat 0) == (v.getD ((w64 (v2-1)).toNat) 0))).bind fun v3=>cond v3 (cond (decide ((0:Int)≤v2)&&decide (v2≤(v.length:Int))) ((Xav v2.toNat (v.length-v2.toNat) (v2,1,v)).bind fun v10=>cond (decide ((0:Int)≤v10.1)&&decide (v10.1≤(v10.2.length:Int))) ((some (splice v10.2 v10.1.toNat (List.replicate (v10.2.length-v10.1.toNat) 0))).bind fun v11=>cond (decide ((0:Int)≤v10.1)&&decide (v10.1≤(v11.length:Int))) (some (.inr (.inl (0,v10.1.toNat-0,v11)))) none) none) none) (some (.inl (w64 (v2+1))))) none) none) (some (.inr (.inr ())))
def Xaf (v:List Int):Int→Option (((Nat×Nat×List Int)⊕Unit)):=
 Yam fun s=>Xaf.B v s
def Xev (v:List Int):Option (List Int):=
 cond (decide ((v.length:Int)<2)) (some v) ((Xaf v 1).bind fun v12=>sel v12 (fun v13=>some ((v13.2.2.drop v13.1).take v13.2.1)) (fun v14=>some v))
namespace Xav
noncomputable def c:=Yaq (Yal Proofs.Tryz.f126) [1,1,0,1,0,0,1,0,0,1,0,1,0,1,0,0]
def sp:SP:=⟨[(0,.seg 0 []),(3,.cs I64),(4,.sub 0 []),(5,.cs I64)],[(0,.reg,.cd SI)]⟩
def fr:=Yi1 sp (fun x s=>Xav.B x.1.2.2.1.2.1 x.1.2.2.1.2.2 s.1 s.2.1 s.2.2) (fun x=>(x.1.2.1,x.1.2.2.2.1,x.2.1)) fun x (bb0:Int×List Int) _ kk0=>kk0 (.ex 2) ⟨[(0,.seg 0 []),(3,.cs I64 bb0.1)],[sr 0 (.cd SI bb0.2)]⟩
theorem ok:Ya5 PR 61 1 (.loop c) fr:=
 Ywg Xg Xf h0 [(2,([0,3],[0]))] (fun x s=>((x.1.1,s.1,x.1.2.2.1,s.2.1,x.1.2.2.2.2),(s.2.2,x.2.2)))
  (fun x s=>by simp only[B,mC,mB,mS,mO,mN];kernel_rfl)
end Xav
namespace Xaf
noncomputable def c:=Yaq (Yal Proofs.Tryz.f126) [1,1,0,1,0,0]
def sp:SP:=⟨[(0,.seg 0 []),(3,.cs I64)],[(0,.reg,.cd SI)]⟩
def fr:=Yi1 sp (fun x s=>Xaf.B x.2.1 s) (fun x=>x.1.2.1) fun x (oo0:((Nat×Nat×List Int)⊕Unit)) _ kk0=>sel oo0 (fun bb0=>kk0 (.rt) ⟨[(2,.sub 0 [] bb0.1 bb0.2.1)],[sr 0 (.cd SI bb0.2.2)]⟩) (fun cc0=>kk0 (.ex 0) ⟨[(0,.seg 0 [])],[sr 0 (.cd SI x.2.1)]⟩)
theorem ok:Ya5 PR 61 1 (.loop c) fr:=
 Ys4 Xg Xf h0 (.R (.L (.one (.R (.L (.R (.L (.R (.one (.fr 1)))))))))) (G:=(mkG [])) .nil (L:=mkL [(1,Xav.fr)]) (l:=[(1,.loop Xav.c)]) ⟨Lam.cons Xav.ok,trivial⟩ [(0,([0],[0]))] ([2],[0]) (fun x s=>((x.1.1,s,x.1.2.2),x.2))
  (fun x s=>by simp only[B,mC,mB,mS,mO,mN];kernel_rfl)
end Xaf
namespace Xev
def pts:List PT:=[.cd SI]
def FS:FS:=Yc8 [.mv] pts (fun x=>Xev x.1) fun t=>⟨[.cd SI t],[]⟩
theorem ok:Ycs PR 126 FS:=
 Ywm Xg Xf Proofs.Tryz.f126 h0 (.R (.R (.L (.R (.one (.fr 0)))))) (G:=(mkG [])) .nil (L:=mkL [(1,Xav.fr),(0,Xaf.fr)]) (l:=[(0,.loop Xaf.c)]) ⟨Lam.skip rfl (Lam.cons Xaf.ok),trivial⟩
  (fun x=>by simp only[Xev,mC,mB,mS,mO,mN];kernel_rfl)
end Xev
def Xbs.B (v:List Xb) (v2:Int) (v3:Int) (v4:List Int):Option ((Int×List Int)⊕(List Int)):=
 cond (decide (v3<v2)) (cond (inB v3 v.length) (cond (decide ((v4++(v.getD v3.toNat Xa).2.2.2.1).length≤2147483648)) (some (.inl (w64 (v3+1),v4++(v.getD v3.toNat Xa).2.2.2.1))) none) none) (some (.inr v4))
def Xbs (v:List Xb) (v2:Int):(Int×List Int)→Option (List Int):=
 Yam fun s=>Xbs.B v v2 s.1 s.2
def Xbt (v:List Xb):Option ((List Int)×Bool):=
 (Xbs v (v.length:Int) (0,[])).bind fun v5=>(Xgn v5).bind fun v6=>(Xdc v6).bind fun v7=>(Xev v7).bind fun v8=>some (v6,(v8.length:Int) == (v6.length:Int))
namespace Xbt
def G:Gam:=mkG [(125,Xgn.FS),(55,Xdc.FS),(126,Xev.FS)]
theorem Gok:GOk PR G:=.cons Xgn.ok (.cons Xdc.ok (.cons Xev.ok .nil))
end Xbt
namespace Xbs
noncomputable def c:=Yaq (Yal Proofs.Tryz.f96) [1,1,0,1,0,0]
def sp:SP:=⟨[(4,.seg 4 []),(7,.cs (.sl Xd)),(8,.cs I64),(9,.cs I64)],[(4,.reg,.cd SI)]⟩
def fr:=Yi1 sp (fun x s=>Xbs.B x.1.2.1 x.1.2.2.1 s.1 s.2) (fun x=>(x.1.2.2.2.1,x.2.1)) fun x (bb0:List Int) _ kk0=>kk0 (.ex 0) ⟨[(4,.seg 4 [])],[sr 4 (.cd SI bb0)]⟩
theorem ok:Ya5 PR 28 1 (.loop c) fr:=
 Ywo Xg Xf h0 (G:=Xbt.G) Xbt.Gok [(0,([4],[4]))] (fun x s=>((x.1.1,x.1.2.1,x.1.2.2.1,s.1,x.1.2.2.2.2),(s.2,x.2.2)))
  (fun x s=>by simp only[B,mC,mB,mS,mO,mN];kernel_rfl)
end Xbs
namespace Xbt
def pts:List PT:=[.cs (.sl Xd)]
def FS:FS:=Yc8 [.sh] pts (fun x=>Xbt x.1) fun t=>⟨[.cd SI t.1,.cs .bool t.2],[]⟩
theorem ok:Ycs PR 96 FS:=
 Ywm Xg Xf Proofs.Tryz.f96 h0 (.R (.R (.L (.R (.one (.fr 0)))))) (G:=G) Gok (L:=mkL [(0,Xbs.fr)]) (l:=[(0,.loop Xbs.c)]) ⟨Lam.cons Xbs.ok,trivial⟩
  (fun x=>by simp only[Xbt,mC,mB,mS,mO,mN];kernel_rfl)
end Xbt
def Xgo (v:List Xb):Option Int:=
 some (v.length:Int)
namespace Xgo
def pts:List PT:=[.cs (.sl Xd)]
def FS:FS:=Yc8 [.sh] pts (fun x=>Xgo x.1) fun t=>⟨[.cs I64 t],[]⟩
theorem ok:Ycs PR 97 FS:=
 Ywm Xg Xf Proofs.Tryz.f97 h0 .no (G:=(mkG [])) .nil (L:=mkL []) (l:=[]) hT
  (fun x=>by simp only[Xgo,mC,mB,mS,mO,mN];kernel_rfl)
end Xgo
def Xa0.B (v:Fs_) (v5:List Xb) (v6:Int) (v7:Int) (v9:List Xe) (v8:Int) (v10:Int):Option (Int⊕((Int⊕Unit))):=
 cond (decide (v10<v8)) (cond (inB v10 v9.length) ((Xgo v.1).bind fun v11=>(some (decide ((v9.getD v10.toNat Xj).2.1≥v11))).bind fun v12=>cond (cond (!v12) (inB (v9.getD v10.toNat Xj).2.1 v.1.length) true) ((some (cond v12 true ((v.1.getD (v9.getD v10.toNat Xj).2.1.toNat Xa).1 == 0))).bind fun v13=>cond v13 (some (.inr (.inl 4))) (some (.inl (w64 (v10+1))))) none) none) (some (.inr (.inr ())))
def Xa0 (v:Fs_) (v5:List Xb) (v6:Int) (v7:Int) (v9:List Xe) (v8:Int):Int→Option ((Int⊕Unit)):=
 Yam fun s=>Xa0.B v v5 v6 v7 v9 v8 s
def Xdd.B (v:Fs_) (v5:List Xb) (v6:Int) (v7:Int):Option (Int⊕((Int⊕Unit))):=
 cond (decide (v7<v6)) (cond (inB v7 v5.length) ((some ((v5.getD v7.toNat Xa).2.2.2.2.1.length:Int)).bind fun v8=>(Xa0 v v5 v6 v7 (v5.getD v7.toNat Xa).2.2.2.2.1 v8 0).bind fun v14=>sel v14 (fun v15=>some (.inr (.inl v15))) (fun v16=>some (.inl (w64 (v7+1))))) none) (some (.inr (.inr ())))
def Xdd (v:Fs_) (v5:List Xb) (v6:Int):Int→Option ((Int⊕Unit)):=
 Yam fun s=>Xdd.B v v5 v6 s
def Xax (v:Fs_):Option Int:=
 (Xet v).bind fun v2=>cond (v2 != 0) (some v2) ((Xeu v.2.1 ()).bind fun v3=>cond v3 (some 2) ((Xbt v.1).bind fun v4=>cond (!v4.2) (some 7) ((Xdd v v.1 (v.1.length:Int) 0).bind fun v17=>sel v17 (fun v18=>some v18) (fun v19=>some 0))))
namespace Xax
def G:Gam:=mkG [(93,Xet.FS),(94,Xeu.FS),(96,Xbt.FS),(97,Xgo.FS)]
theorem Gok:GOk PR G:=.cons Xet.ok (.cons Xeu.ok (.cons Xbt.ok (.cons Xgo.ok .nil)))
end Xax
namespace Xa0
noncomputable def c:=Yaq (Yal Proofs.Tryz.f51) [1,1,1,1,0,1,0,0,1,1,0,0,1,1,0,0]
def sp:SP:=⟨[(1,.pt Xk),(27,.cs (.sl Xd)),(28,.cs I64),(29,.cs I64),(34,.cs (.sl Xh)),(35,.cs I64),(36,.cs I64)],[]⟩
def fr:=Yi1 sp (fun x s=>Xa0.B x.1.1 x.1.2.1 x.1.2.2.1 x.1.2.2.2.1 x.1.2.2.2.2.1 x.1.2.2.2.2.2.1 s) (fun x=>x.1.2.2.2.2.2.2.1) fun x (oo0:(Int⊕Unit)) _ kk0=>sel oo0 (fun bb0=>kk0 (.rt) ⟨[(2,.cs I64 bb0)],[]⟩) (fun cc0=>kk0 (.ex 2) ⟨[(1,.pt Xk x.1.1),(27,.cs (.sl Xd) x.1.2.1),(28,.cs I64 x.1.2.2.1),(29,.cs I64 x.1.2.2.2.1)],[]⟩)
theorem ok:Ya5 PR 58 1 (.loop c) fr:=
 Ys4 Xg Xf ⟨[1],[],[],0⟩ .no (G:=Xax.G) Xax.Gok (L:=mkL []) (l:=[]) hT [(2,([1,27,28,29],[]))] ([2],[]) (fun x s=>((x.1.1,x.1.2.1,x.1.2.2.1,x.1.2.2.2.1,x.1.2.2.2.2.1,x.1.2.2.2.2.2.1,s,x.1.2.2.2.2.2.2.2),x.2))
  (fun x s=>by simp only[B,mC,mB,mS,mO,mN];kernel_rfl)
end Xa0
namespace Xdd
noncomputable def c:=Yaq (Yal Proofs.Tryz.f51) [1,1,1,1,0,1,0,0]
def sp:SP:=⟨[(1,.pt Xk),(27,.cs (.sl Xd)),(28,.cs I64),(29,.cs I64)],[]⟩
def fr:=Yi1 sp (fun x s=>Xdd.B x.1.1 x.1.2.1 x.1.2.2.1 s) (fun x=>x.1.2.2.2.1) fun x (oo0:(Int⊕Unit)) _ kk0=>sel oo0 (fun bb0=>kk0 (.rt) ⟨[(2,.cs I64 bb0)],[]⟩) (fun cc0=>kk0 (.ex 0) ⟨[],[]⟩)
theorem ok:Ya5 PR 58 1 (.loop c) fr:=
 Ys4 Xg Xf ⟨[1],[],[],0⟩ (.R (.R (.L (.one (.R (.R (.one (.fr 1)))))))) (G:=Xax.G) Xax.Gok (L:=mkL [(1,Xa0.fr)]) (l:=[(1,.loop Xa0.c)]) ⟨Lam.cons Xa0.ok,trivial⟩ [(0,([],[]))] ([2],[]) (fun x s=>((x.1.1,x.1.2.1,x.1.2.2.1,s,x.1.2.2.2.2),x.2))
  (fun x s=>by simp only[B,mC,mB,mS,mO,mN];kernel_rfl)
end Xdd
namespace Xax
def pts:List PT:=[.cs Xk]
def FS:FS:=Yc8 [.sh] pts (fun x=>Xax x.1) fun t=>⟨[.cs I64 t],[]⟩
theorem ok:Ycs PR 51 FS:=
 Ywm Xg Xf Proofs.Tryz.f51 ⟨[1],[],[],0⟩ (.R (.R (.R (.R (.L (.R (.one (.fr 0)))))))) (G:=G) Gok (L:=mkL [(1,Xa0.fr),(0,Xdd.fr)]) (l:=[(0,.loop Xdd.c)]) ⟨Lam.skip rfl (Lam.cons Xdd.ok),trivial⟩
  (fun x=>by simp only[Xax,mC,mB,mS,mO,mN];kernel_rfl)
end Xax
def Xa1.B (v:List Xb) (v8:List Xe) (v9:Int) (v7:List Bool) (v10:Int) (v11:List Int):Option ((Int×List Int)⊕(List Int)):=
 cond (decide (v10<v9)) (cond (inB v10 v8.length) (cond (decide ((v11++([(v8.getD v10.toNat Xj).2.1])).length≤2147483648)) (some (.inl (w64 (v10+1),v11++([(v8.getD v10.toNat Xj).2.1])))) none) none) (some (.inr v11))
def Xa1 (v:List Xb) (v8:List Xe) (v9:Int) (v7:List Bool):(Int×List Int)→Option (List Int):=
 Yam fun s=>Xa1.B v v8 v9 v7 s.1 s.2
def Xao.B (v:List Xb) (v3:List Bool) (v4:List Int):Option (((List Bool)×List Int)⊕(List Bool)):=
 cond (decide ((v4.length:Int)>0)) (cond (inB (w64 ((v4.length:Int)-1)) v4.length) (cond (decide ((0:Int)≤(w64 ((v4.length:Int)-1)))&&decide ((w64 ((v4.length:Int)-1))≤(v4.length:Int))) ((some ((v4.drop 0).take (((w64 ((v4.length:Int)-1)).toNat)-0))).bind fun v5=>cond (inB (v4.getD ((w64 ((v4.length:Int)-1)).toNat) 0) v3.length) ((some (v3.getD ((v4.getD ((w64 ((v4.length:Int)-1)).toNat) 0).toNat) false)).bind fun v6=>cond v6 (some (.inl (v3,v5))) (cond (inB (v4.getD ((w64 ((v4.length:Int)-1)).toNat) 0) v3.length) ((some (v3.set ((v4.getD ((w64 ((v4.length:Int)-1)).toNat) 0).toNat) true)).bind fun v7=>cond (inB (v4.getD ((w64 ((v4.length:Int)-1)).toNat) 0) v.length) ((some (v.getD (v4.getD ((w64 ((v4.length:Int)-1)).toNat) 0).toNat Xa).2.2.2.2.1).bind fun v8=>(Xa1 v v8 (v8.length:Int) v7 (0,v5)).bind fun v12=>some (.inl (v7,v12))) none) none)) none) none) none) (some (.inr v3))
def Xao (v:List Xb):((List Bool)×List Int)→Option (List Bool):=
 Yam fun s=>Xao.B v s.1 s.2
def Xbu.B (v14:Int) (v13:List Bool) (v15:Int) (v16:List Int):Option ((Int×List Int)⊕(List Int)):=
 cond (decide (v15<v14)) (cond (inB v15 v13.length) (cond (v13.getD v15.toNat false) (cond (decide ((v16++([v15])).length≤2147483648)) (some (.inl (w64 (v15+1),v16++([v15])))) none) (some (.inl (w64 (v15+1),v16)))) none) (some (.inr v16))
def Xbu (v14:Int) (v13:List Bool):(Int×List Int)→Option (List Int):=
 Yam fun s=>Xbu.B v14 v13 s.1 s.2
def Xa2 (v:List Xb) (v2:Int):Option (List Int):=
 cond (decide ((0:Int)≤(v.length:Int))&&(decide ((v.length:Int)≤(v.length:Int))&&decide ((v.length:Int)≤2147483648))) ((Xao v (List.replicate (v.length:Int).toNat false,[v2])).bind fun v13=>(Xbu (v13.length:Int) v13 (0,[])).bind fun v17=>some v17) none
namespace Xa1
noncomputable def c:=Yaq (Yal Proofs.Tryz.f74) [1,1,1,0,0,0,1,0,1,1,1,1,1,0,0]
def sp:SP:=⟨[(0,.cs (.sl Xd)),(5,.seg 5 []),(6,.seg 6 []),(43,.cs (.sl Xh)),(44,.cs I64),(45,.cs I64)],[(5,.reg,.cd (.sl .bool)),(6,.reg,.cd SI)]⟩
def fr:=Yi1 sp (fun x s=>Xa1.B x.1.1 x.1.2.2.2.1 x.1.2.2.2.2.1 x.2.1 s.1 s.2) (fun x=>(x.1.2.2.2.2.2.1,x.2.2.1)) fun x (bb0:List Int) _ kk0=>kk0 (.ex 2) ⟨[(0,.cs (.sl Xd) x.1.1),(5,.seg 5 []),(6,.seg 6 [])],[sr 5 (.cd (.sl .bool) x.2.1),sr 6 (.cd SI bb0)]⟩
theorem ok:Ya5 PR 69 2 (.loop c) fr:=
 Ywg Xg Xf h0 [(2,([0,5,6],[5,6]))] (fun x s=>((x.1.1,x.1.2.1,x.1.2.2.1,x.1.2.2.2.1,x.1.2.2.2.2.1,s.1,x.1.2.2.2.2.2.2),(x.2.1,s.2,x.2.2.2)))
  (fun x s=>by simp only[B,mC,mB,mS,mO,mN];kernel_rfl)
end Xa1
namespace Xao
noncomputable def c:=Yaq (Yal Proofs.Tryz.f74) [1,1,1,0,0,0]
def sp:SP:=⟨[(0,.cs (.sl Xd)),(5,.seg 5 []),(6,.seg 6 [])],[(5,.reg,.cd (.sl .bool)),(6,.reg,.cd SI)]⟩
def fr:=Yi1 sp (fun x s=>Xao.B x.1.1 s.1 s.2) (fun x=>(x.2.1,x.2.2.1)) fun x (bb0:List Bool) _ kk0=>kk0 (.ex 0) ⟨[(5,.seg 5 [])],[sr 5 (.cd (.sl .bool) bb0)]⟩
theorem ok:Ya5 PR 69 2 (.loop c) fr:=
 Ywn Xg Xf h0 (.R (.one (.R (.R (.R (.R (.R (.one (.fr 1))))))))) (L:=mkL [(1,Xa1.fr)]) (l:=[(1,.loop Xa1.c)]) ⟨Lam.cons Xa1.ok,trivial⟩ [(0,([5],[5]))] (fun x s=>(x.1,(s.1,s.2,x.2.2.2)))
  (fun x s=>by simp only[B,mC,mB,mS,mO,mN];kernel_rfl)
end Xao
namespace Xbu
noncomputable def c:=Yaq (Yal Proofs.Tryz.f74) [1,1,1,1,1,0,1,0,0]
def sp:SP:=⟨[(10,.seg 10 []),(55,.seg 5 []),(56,.cs I64),(57,.cs I64)],[(5,.reg,.cd (.sl .bool)),(10,.reg,.cd SI)]⟩
def fr:=Yi1 sp (fun x s=>Xbu.B x.1.2.2.1 x.2.1 s.1 s.2) (fun x=>(x.1.2.2.2.1,x.2.2.1)) fun x (bb0:List Int) _ kk0=>kk0 (.ex 4) ⟨[(10,.seg 10 [])],[sr 10 (.cd SI bb0)]⟩
theorem ok:Ya5 PR 69 2 (.loop c) fr:=
 Ywg Xg Xf h0 [(4,([10],[10]))] (fun x s=>((x.1.1,x.1.2.1,x.1.2.2.1,s.1,x.1.2.2.2.2),(x.2.1,s.2,x.2.2.2)))
  (fun x s=>by simp only[B,mC,mB,mS,mO,mN];kernel_rfl)
end Xbu
namespace Xa2
def pts:List PT:=[.cs (.sl Xd),.cs I64]
def FS:FS:=Yc8 [.sh,.sh] pts (fun x=>Xa2 x.1 x.2.1) fun t=>⟨[.cd SI t],[]⟩
theorem ok:Ycs PR 74 FS:=
 Ywm Xg Xf Proofs.Tryz.f74 h0 (.R (.R (.R (.two (.one (.fr 0)) (.R (.L (.R (.one (.fr 2))))))))) (G:=(mkG [])) .nil (L:=mkL [(1,Xa1.fr),(0,Xao.fr),(2,Xbu.fr)]) (l:=[(0,.loop Xao.c),(2,.loop Xbu.c)]) ⟨Lam.skip rfl (Lam.cons Xao.ok),Lam.skip rfl (Lam.skip rfl (Lam.cons Xbu.ok)),trivial⟩
  (fun x=>by simp only[Xa2,mC,mB,mS,mO,mN];kernel_rfl)
end Xa2
def Xa3.B (v2:Int) (v:List Xb) (v4:Int) (v5:Int) (v8:List Xe) (v6:Int) (v7:Int) (v9:Int):Option ((Int×Int)⊕Int):=
 cond (decide (v9<v6)) (cond (inB v9 v8.length) (cond ((v8.getD v9.toNat Xj).2.1 == v2) (some (.inl (w64 (v7+1),w64 (v9+1)))) (some (.inl (v7,w64 (v9+1))))) none) (some (.inr v7))
def Xa3 (v2:Int) (v:List Xb) (v4:Int) (v5:Int) (v8:List Xe) (v6:Int):(Int×Int)→Option Int:=
 Yam fun s=>Xa3.B v2 v v4 v5 v8 v6 s.1 s.2
def Xbv.B (v2:Int) (v:List Xb) (v4:Int) (v3:Int) (v5:Int):Option ((Int×Int)⊕Int):=
 cond (decide (v5<v4)) (cond (inB v5 v.length) ((some ((v.getD v5.toNat Xa).2.2.2.2.1.length:Int)).bind fun v6=>(Xa3 v2 v v4 v5 (v.getD v5.toNat Xa).2.2.2.2.1 v6 (v3,0)).bind fun v10=>some (.inl (v10,w64 (v5+1)))) none) (some (.inr v3))
def Xbv (v2:Int) (v:List Xb) (v4:Int):(Int×Int)→Option Int:=
 Yam fun s=>Xbv.B v2 v v4 s.1 s.2
def Xbw (v:List Xb) (v2:Int):Option Int:=
 (Xbv v2 v (v.length:Int) (0,0)).bind fun v11=>some v11
namespace Xa3
noncomputable def c:=Yaq (Yal Proofs.Tryz.f98) [1,1,0,1,0,0,1,1,0,0,1,1,0,0]
def sp:SP:=⟨[(1,.cs I64),(5,.cs I64),(10,.cs (.sl Xd)),(11,.cs I64),(12,.cs I64),(17,.cs (.sl Xh)),(18,.cs I64),(19,.cs I64)],[]⟩
def fr:=Yi1 sp (fun x s=>Xa3.B x.1.1 x.1.2.2.1 x.1.2.2.2.1 x.1.2.2.2.2.1 x.1.2.2.2.2.2.1 x.1.2.2.2.2.2.2.1 s.1 s.2) (fun x=>(x.1.2.1,x.1.2.2.2.2.2.2.2.1)) fun x (bb0:Int) _ kk0=>kk0 (.ex 2) ⟨[(1,.cs I64 x.1.1),(5,.cs I64 bb0),(10,.cs (.sl Xd) x.1.2.2.1),(11,.cs I64 x.1.2.2.2.1),(12,.cs I64 x.1.2.2.2.2.1)],[]⟩
theorem ok:Ya5 PR 32 2 (.loop c) fr:=
 Ywg Xg Xf h0 [(2,([1,5,10,11,12],[]))] (fun x s=>((x.1.1,s.1,x.1.2.2.1,x.1.2.2.2.1,x.1.2.2.2.2.1,x.1.2.2.2.2.2.1,x.1.2.2.2.2.2.2.1,s.2,x.1.2.2.2.2.2.2.2.2),x.2))
  (fun x s=>by simp only[B,mC,mB,mS,mO,mN];kernel_rfl)
end Xa3
namespace Xbv
noncomputable def c:=Yaq (Yal Proofs.Tryz.f98) [1,1,0,1,0,0]
def sp:SP:=⟨[(1,.cs I64),(5,.cs I64),(10,.cs (.sl Xd)),(11,.cs I64),(12,.cs I64)],[]⟩
def fr:=Yi1 sp (fun x s=>Xbv.B x.1.1 x.1.2.2.1 x.1.2.2.2.1 s.1 s.2) (fun x=>(x.1.2.1,x.1.2.2.2.2.1)) fun x (bb0:Int) _ kk0=>kk0 (.ex 0) ⟨[(5,.cs I64 bb0)],[]⟩
theorem ok:Ya5 PR 32 2 (.loop c) fr:=
 Ywn Xg Xf h0 (.R (.R (.L (.one (.R (.R (.one (.fr 1)))))))) (L:=mkL [(1,Xa3.fr)]) (l:=[(1,.loop Xa3.c)]) ⟨Lam.cons Xa3.ok,trivial⟩ [(0,([5],[]))] (fun x s=>((x.1.1,s.1,x.1.2.2.1,x.1.2.2.2.1,s.2,x.1.2.2.2.2.2),x.2))
  (fun x s=>by simp only[B,mC,mB,mS,mO,mN];kernel_rfl)
end Xbv
namespace Xbw
def pts:List PT:=[.cs (.sl Xd),.cs I64]
def FS:FS:=Yc8 [.sh,.sh] pts (fun x=>Xbw x.1 x.2.1) fun t=>⟨[.cs I64 t],[]⟩
theorem ok:Ycs PR 98 FS:=
 Ywm Xg Xf Proofs.Tryz.f98 h0 (.R (.R (.L (.R (.one (.fr 0)))))) (G:=(mkG [])) .nil (L:=mkL [(1,Xa3.fr),(0,Xbv.fr)]) (l:=[(0,.loop Xbv.c)]) ⟨Lam.skip rfl (Lam.cons Xbv.ok),trivial⟩
  (fun x=>by simp only[Xbw,mC,mB,mS,mO,mN];kernel_rfl)
end Xbw
def Xde.B (v:Fs_) (v3:List Xb) (v4:Int) (v2:List Int) (v5:Int):Option (Int⊕((Int⊕Unit))):=
 cond (decide (v5<v4)) (cond (inB v5 v3.length) ((Xbw v.1 v5).bind fun v6=>(some (cond ((v3.getD v5.toNat Xa).1 == 1) ((v3.getD v5.toNat Xa).2.1 != v6) false)).bind fun v7=>cond v7 (some (.inr (.inl 1))) ((some (cond ((v3.getD v5.toNat Xa).1 == 2) (v5 == 0) false)).bind fun v8=>cond (cond v8 (v6 != 0) false) (some (.inr (.inl 1))) ((some (cond ((v3.getD v5.toNat Xa).1 == 2) (decide (v5>0)) false)).bind fun v9=>cond (cond v9 (v6 != 1) false) (some (.inr (.inl 1))) (cond ((v3.getD v5.toNat Xa).1 != 0) ((Xau v2 v5).bind fun v10=>cond (!v10) (some (.inr (.inl 1))) (some (.inl (w64 (v5+1))))) (some (.inl (w64 (v5+1)))))))) none) (some (.inr (.inr ())))
def Xde (v:Fs_) (v3:List Xb) (v4:Int) (v2:List Int):Int→Option ((Int⊕Unit)):=
 Yam fun s=>Xde.B v v3 v4 v2 s
def Xbx (v:Fs_):Option Int:=
 (Xa2 v.1 0).bind fun v2=>(Xde v v.1 (v.1.length:Int) v2 0).bind fun v11=>sel v11 (fun v12=>some v12) (fun v13=>some 0)
namespace Xbx
def G:Gam:=mkG [(74,Xa2.FS),(98,Xbw.FS),(73,Xau.FS)]
theorem Gok:GOk PR G:=.cons Xa2.ok (.cons Xbw.ok (.cons Xau.ok .nil))
end Xbx
namespace Xde
noncomputable def c:=Yaq (Yal Proofs.Tryz.f52) [1,1,0,1,0,0]
def sp:SP:=⟨[(1,.pt Xk),(3,.seg 3 []),(12,.cs (.sl Xd)),(13,.cs I64),(14,.cs I64)],[(3,.reg,.cd SI)]⟩
def fr:=Yi1 sp (fun x s=>Xde.B x.1.1 x.1.2.2.1 x.1.2.2.2.1 x.2.1 s) (fun x=>x.1.2.2.2.2.1) fun x (oo0:(Int⊕Unit)) _ kk0=>sel oo0 (fun bb0=>kk0 (.rt) ⟨[(2,.cs I64 bb0)],[]⟩) (fun cc0=>kk0 (.ex 0) ⟨[],[]⟩)
theorem ok:Ya5 PR 66 1 (.loop c) fr:=
 Ys4 Xg Xf ⟨[1],[],[],0⟩ .no (G:=Xbx.G) Xbx.Gok (L:=mkL []) (l:=[]) hT [(0,([],[]))] ([2],[]) (fun x s=>((x.1.1,x.1.2.1,x.1.2.2.1,x.1.2.2.2.1,s,x.1.2.2.2.2.2),x.2))
  (fun x s=>by simp only[B,mC,mB,mS,mO,mN];kernel_rfl)
end Xde
namespace Xbx
def pts:List PT:=[.cs Xk]
def FS:FS:=Yc8 [.sh] pts (fun x=>Xbx x.1) fun t=>⟨[.cs I64 t],[]⟩
theorem ok:Ycs PR 52 FS:=
 Ywm Xg Xf Proofs.Tryz.f52 ⟨[1],[],[],0⟩ (.R (.R (.L (.R (.one (.fr 0)))))) (G:=G) Gok (L:=mkL [(0,Xde.fr)]) (l:=[(0,.loop Xde.c)]) ⟨Lam.cons Xde.ok,trivial⟩
  (fun x=>by simp only[Xbx,mC,mB,mS,mO,mN];kernel_rfl)
end Xbx
def Xa4.B (v:List Xb) (v2:Int) (v3:Int) (v7:List Int) (v6:Int) (v4:List Int) (v10:Xb) (v8:Int) (v9:List Int):Option ((Int×List Int)⊕(List Int)):=
 cond (decide (v8<v6)) (cond (inB v8 v7.length) ((some (cond (decide ((w64 (v10.2.2.1-(w64 (v8*8))))<8)) (w64 (v10.2.2.1-(w64 (v8*8)))) 8)).bind fun v11=>cond (inB (v7.getD v8.toNat 0) 20) (some (.inl (w64 (v8+1),v9.set ((v7.getD v8.toNat 0).toNat) v11))) none) none) (some (.inr v9))
def Xa4 (v:List Xb) (v2:Int) (v3:Int) (v7:List Int) (v6:Int) (v4:List Int) (v10:Xb):(Int×List Int)→Option (List Int):=
 Yam fun s=>Xa4.B v v2 v3 v7 v6 v4 v10 s.1 s.2
def Xby.B (v:List Xb) (v2:Int) (v4:List Int) (v3:Int) (v5:List Int):Option ((Int×List Int)⊕(List Int)):=
 cond (decide (v3<v2)) (cond (inB v3 v.length) ((some ((v.getD v3.toNat Xa).2.2.2.1.length:Int)).bind fun v6=>(Xa4 v v2 v3 (v.getD v3.toNat Xa).2.2.2.1 v6 v4 (v.getD v3.toNat Xa) (0,v5)).bind fun v12=>some (.inl (w64 (v3+1),v12))) none) (some (.inr v5))
def Xby (v:List Xb) (v2:Int) (v4:List Int):(Int×List Int)→Option (List Int):=
 Yam fun s=>Xby.B v v2 v4 s.1 s.2
def Xew (v:List Xb):Option (List Int):=
 (Xby v (v.length:Int) (List.replicate 20 0) (0,(List.replicate 20 0))).bind fun v13=>some v13
namespace Xa4
noncomputable def c:=Yaq (Yal Proofs.Tryz.f99) [1,1,0,1,0,0,1,1,0,0,1,1,0,0]
def sp:SP:=⟨[(2,.loc 2 []),(3,.loc 3 []),(5,.loc 5 []),(8,.cs (.sl Xd)),(9,.cs I64),(10,.cs I64),(15,.cs SI),(16,.cs I64),(17,.cs I64)],[(2,.mem,.cd (.arr 20 I64)),(3,.mem,.cd (.arr 20 I64)),(5,.mem,.cs Xd)]⟩
def fr:=Yi1 sp (fun x s=>Xa4.B x.1.2.2.2.1 x.1.2.2.2.2.1 x.1.2.2.2.2.2.1 x.1.2.2.2.2.2.2.1 x.1.2.2.2.2.2.2.2.1 x.2.1 x.2.2.2.1 s.1 s.2) (fun x=>(x.1.2.2.2.2.2.2.2.2.1,x.2.2.1)) fun x (bb0:List Int) _ kk0=>kk0 (.ex 2) ⟨[(2,.loc 2 []),(3,.loc 3 []),(8,.cs (.sl Xd) x.1.2.2.2.1),(9,.cs I64 x.1.2.2.2.2.1),(10,.cs I64 x.1.2.2.2.2.2.1)],[(2,some ⟨.mem,.cd (.arr 20 I64) x.2.1⟩),(3,some ⟨.mem,.cd (.arr 20 I64) bb0⟩)]⟩
theorem ok:Ya5 PR 33 1 (.loop c) fr:=
 Ywg Xg Xf h0 [(2,([2,3,8,9,10],[2,3]))] (fun x s=>((x.1.1,x.1.2.1,x.1.2.2.1,x.1.2.2.2.1,x.1.2.2.2.2.1,x.1.2.2.2.2.2.1,x.1.2.2.2.2.2.2.1,x.1.2.2.2.2.2.2.2.1,s.1,x.1.2.2.2.2.2.2.2.2.2),(x.2.1,s.2,x.2.2.2)))
  (fun x s=>by simp only[B,mC,mB,mS,mO,mN];kernel_rfl)
end Xa4
namespace Xby
noncomputable def c:=Yaq (Yal Proofs.Tryz.f99) [1,1,0,1,0,0]
def sp:SP:=⟨[(2,.loc 2 []),(3,.loc 3 []),(8,.cs (.sl Xd)),(9,.cs I64),(10,.cs I64)],[(2,.mem,.cd (.arr 20 I64)),(3,.mem,.cd (.arr 20 I64))]⟩
def fr:=Yi1 sp (fun x s=>Xby.B x.1.2.2.1 x.1.2.2.2.1 x.2.1 s.1 s.2) (fun x=>(x.1.2.2.2.2.1,x.2.2.1)) fun x (bb0:List Int) _ kk0=>kk0 (.ex 0) ⟨[(2,.loc 2 []),(3,.loc 3 [])],[(2,some ⟨.mem,.cd (.arr 20 I64) x.2.1⟩),(3,some ⟨.mem,.cd (.arr 20 I64) bb0⟩)]⟩
theorem ok:Ya5 PR 33 1 (.loop c) fr:=
 Ywn Xg Xf h0 (.R (.R (.L (.one (.R (.R (.one (.fr 1)))))))) (L:=mkL [(1,Xa4.fr)]) (l:=[(1,.loop Xa4.c)]) ⟨Lam.cons Xa4.ok,trivial⟩ [(0,([2,3],[2,3]))] (fun x s=>((x.1.1,x.1.2.1,x.1.2.2.1,x.1.2.2.2.1,s.1,x.1.2.2.2.2.2),(x.2.1,s.2,x.2.2.2)))
  (fun x s=>by simp only[B,mC,mB,mS,mO,mN];kernel_rfl)
end Xby
namespace Xew
def pts:List PT:=[.cs (.sl Xd)]
def FS:FS:=Yc8 [.sh] pts (fun x=>Xew x.1) fun t=>⟨[.cs (.arr 20 I64) t],[]⟩
theorem ok:Ycs PR 99 FS:=
 Ywm Xg Xf Proofs.Tryz.f99 h0 (.R (.R (.L (.R (.one (.fr 0)))))) (G:=(mkG [])) .nil (L:=mkL [(1,Xa4.fr),(0,Xby.fr)]) (l:=[(0,.loop Xby.c)]) ⟨Lam.skip rfl (Lam.cons Xby.ok),trivial⟩
  (fun x=>by simp only[Xew,mC,mB,mS,mO,mN];kernel_rfl)
end Xew
def Xgp (v:List Int):Option Int:=
 some (v.length:Int)
namespace Xgp
def pts:List PT:=[.cs SB]
def FS:FS:=Yc8 [.sh] pts (fun x=>Xgp x.1) fun t=>⟨[.cs I64 t],[]⟩
theorem ok:Ycs PR 100 FS:=
 Ywm Xg Xf Proofs.Tryz.f100 h0 .no (G:=(mkG [])) .nil (L:=mkL []) (l:=[]) hT
  (fun x=>by simp only[Xgp,mC,mB,mS,mO,mN];kernel_rfl)
end Xgp
def Xdt.B (v:Fs_) (v2:List Int) (v3:Int):Option (Int⊕((Int⊕Unit))):=
 cond (decide (v3<20)) (cond (inB v3 20) (cond (inB v3 v.2.1.length) ((Xgp (v.2.1.getD v3.toNat [])).bind fun v4=>cond (v4 != (v2.getD v3.toNat 0)) (some (.inr (.inl 1))) (some (.inl (w64 (v3+1))))) none) none) (some (.inr (.inr ())))
def Xdt (v:Fs_) (v2:List Int):Int→Option ((Int⊕Unit)):=
 Yam fun s=>Xdt.B v v2 s
def Xbz (v:Fs_):Option Int:=
 (Xew v.1).bind fun v2=>(Xdt v v2 0).bind fun v5=>sel v5 (fun v6=>some v6) (fun v7=>some 0)
namespace Xbz
def G:Gam:=mkG [(99,Xew.FS),(100,Xgp.FS)]
theorem Gok:GOk PR G:=.cons Xew.ok (.cons Xgp.ok .nil)
end Xbz
namespace Xdt
noncomputable def c:=Yaq (Yal Proofs.Tryz.f53) [1,0,1,0,0]
def sp:SP:=⟨[(1,.pt Xk),(7,.cs (.arr 20 I64)),(8,.cs I64)],[]⟩
def fr:=Yi1 sp (fun x s=>Xdt.B x.1.1 x.1.2.1 s) (fun x=>x.1.2.2.1) fun x (oo0:(Int⊕Unit)) _ kk0=>sel oo0 (fun bb0=>kk0 (.rt) ⟨[(2,.cs I64 bb0)],[]⟩) (fun cc0=>kk0 (.ex 0) ⟨[],[]⟩)
theorem ok:Ya5 PR 21 1 (.loop c) fr:=
 Ys4 Xg Xf ⟨[1],[],[],0⟩ .no (G:=Xbz.G) Xbz.Gok (L:=mkL []) (l:=[]) hT [(0,([],[]))] ([2],[]) (fun x s=>((x.1.1,x.1.2.1,s,x.1.2.2.2),x.2))
  (fun x s=>by simp only[B,mC,mB,mS,mO,mN];kernel_rfl)
end Xdt
namespace Xbz
def pts:List PT:=[.cs Xk]
def FS:FS:=Yc8 [.sh] pts (fun x=>Xbz x.1) fun t=>⟨[.cs I64 t],[]⟩
theorem ok:Ycs PR 53 FS:=
 Ywm Xg Xf Proofs.Tryz.f53 ⟨[1],[],[],0⟩ (.R (.L (.R (.one (.fr 0))))) (G:=G) Gok (L:=mkL [(0,Xdt.fr)]) (l:=[(0,.loop Xdt.c)]) ⟨Lam.cons Xdt.ok,trivial⟩
  (fun x=>by simp only[Xbz,mC,mB,mS,mO,mN];kernel_rfl)
end Xbz
def Xex (v:Fs_):Option Int:=
 (Xax v).bind fun v2=>cond (v2 != 0) (some v2) ((Xbx v).bind fun v3=>cond (v3 != 0) (some v3) ((Xbz v).bind fun v4=>some v4))
namespace Xex
def G:Gam:=mkG [(51,Xax.FS),(52,Xbx.FS),(53,Xbz.FS)]
def pts:List PT:=[.cs Xk]
def FS:FS:=Yc8 [.sh] pts (fun x=>Xex x.1) fun t=>⟨[.cs I64 t],[]⟩
theorem ok:Ycs PR 22 FS:=
 Ywm Xg Xf Proofs.Tryz.f22 ⟨[1],[],[],0⟩ .no (G:=G) (show GOk PR G from .cons Xax.ok (.cons Xbx.ok (.cons Xbz.ok .nil))) (L:=mkL []) (l:=[]) hT
  (fun x=>by simp only[Xex,mC,mB,mS,mO,mN];kernel_rfl)
end Xex
noncomputable def Xgq (s:List Int):Option (List Int):=Yq0 s
noncomputable def Xgq.FS:FS:=Yc8 [.sh] [.cl .sh (.sl (.int .u8))] (fun x=>Xgq x.1) fun y=>⟨[.cl .deep (.sl (.int .u8)) y],[]⟩
theorem Xgq.ok:Ycs Go.Proofs.Tryz.prog 101 Xgq.FS:=
 Yu9 (hn:=⟨[],[],[],0⟩) Xg Xf (fn:=Go.Proofs.Tryz.f101) (by kernel_rfl) (Yka (by kernel_rfl)) (by kernel_rfl) (by kernel_rfl) .deep (.int .u8) 27 27 5 (by kernel_rfl) (by kernel_rfl) (by kernel_rfl) (by kernel_rfl) (by kernel_rfl) (by kernel_rfl) (by kernel_rfl) (by kernel_rfl) (fun xs=>by kernel_rfl) (fun xs=>by kernel_rfl) (fun xs=>by kernel_rfl) (fun xs=>by kernel_rfl)
def Xb0.B (v:List (List Int)) (v2:Int) (v3:Int) (v4:List (List Int)):Option ((Int×List (List Int))⊕(List (List Int))):=
 cond (decide (v3<v2)) (cond (inB v3 v.length) ((Xgq (v.getD v3.toNat [])).bind fun v5=>cond (decide ((v4++([v5])).length≤2147483648)) (some (.inl (w64 (v3+1),v4++([v5])))) none) none) (some (.inr v4))
def Xb0 (v:List (List Int)) (v2:Int):(Int×List (List Int))→Option (List (List Int)):=
 Yam fun s=>Xb0.B v v2 s.1 s.2
def Xb1 (v:List (List Int)):Option (List (List Int)):=
 (Xb0 v (v.length:Int) (0,[])).bind fun v6=>some v6
namespace Xb1
def G:Gam:=mkG [(101,Xgq.FS)]
theorem Gok:GOk PR G:=.cons Xgq.ok .nil
end Xb1
namespace Xb0
noncomputable def c:=Yaq (Yal Proofs.Tryz.f54) [1,1,0,1,0,0]
def sp:SP:=⟨[(3,.seg 3 []),(6,.cs (.sl SB)),(7,.cs I64),(8,.cs I64)],[(3,.reg,.cd (.sl SB))]⟩
def fr:=Yi1 sp (fun x s=>Xb0.B x.1.2.1 x.1.2.2.1 s.1 s.2) (fun x=>(x.1.2.2.2.1,x.2.1)) fun x (bb0:List (List Int)) _ kk0=>kk0 (.ex 0) ⟨[(3,.seg 3 [])],[sr 3 (.cd (.sl SB) bb0)]⟩
theorem ok:Ya5 PR 19 1 (.loop c) fr:=
 Ywo Xg Xf h0 (G:=Xb1.G) Xb1.Gok [(0,([3],[3]))] (fun x s=>((x.1.1,x.1.2.1,x.1.2.2.1,s.1,x.1.2.2.2.2),(s.2,x.2.2)))
  (fun x s=>by simp only[B,mC,mB,mS,mO,mN];kernel_rfl)
end Xb0
namespace Xb1
def pts:List PT:=[.cs (.sl SB)]
def FS:FS:=Yc8 [.sh] pts (fun x=>Xb1 x.1) fun t=>⟨[.cd (.sl SB) t],[]⟩
theorem ok:Ycs PR 54 FS:=
 Ywm Xg Xf Proofs.Tryz.f54 h0 (.R (.R (.L (.R (.one (.fr 0)))))) (G:=G) Gok (L:=mkL [(0,Xb0.fr)]) (l:=[(0,.loop Xb0.c)]) ⟨Lam.cons Xb0.ok,trivial⟩
  (fun x=>by simp only[Xb1,mC,mB,mS,mO,mN];kernel_rfl)
end Xb1
noncomputable def Xgr (s:List Xe):Option (List Xe):=Yq0 s
noncomputable def Xgr.FS:FS:=Yc8 [.sh] [.cl .sh (.sl Xh)] (fun x=>Xgr x.1) fun y=>⟨[.cl .deep (.sl Xh) y],[]⟩
theorem Xgr.ok:Ycs Go.Proofs.Tryz.prog 56 Xgr.FS:=
 Yu9 (hn:=⟨[],[],[],0⟩) Xg Xf (fn:=Go.Proofs.Tryz.f56) (by kernel_rfl) (Yka (by kernel_rfl)) (by kernel_rfl) (by kernel_rfl) .deep Xh 67 67 78 (by kernel_rfl) (by kernel_rfl) (by kernel_rfl) (by kernel_rfl) (by kernel_rfl) (by kernel_rfl) (by kernel_rfl) (by kernel_rfl) (fun xs=>by kernel_rfl) (fun xs=>by kernel_rfl) (fun xs=>by kernel_rfl) (fun xs=>by kernel_rfl)
def Xb2.B (v3:List Xb) (v4:Int) (v6:Fs_) (v5:Int) (v7:Fs_):Option ((Int×Fs_)⊕Fs_):=
 cond (decide (v5<v4)) (cond (inB v5 v3.length) ((Xdc (v3.getD v5.toNat Xa).2.2.2.1).bind fun v8=>(Xgr (v3.getD v5.toNat Xa).2.2.2.2.1).bind fun v9=>(some (v7.1++([((v3.getD v5.toNat Xa).1,(v3.getD v5.toNat Xa).2.1,(v3.getD v5.toNat Xa).2.2.1,v8,v9,(v3.getD v5.toNat Xa).2.2.2.2.2)]))).bind fun v10=>cond (decide (v10.length≤2147483648)) (some (.inl (w64 (v5+1),(v10,v7.2)))) none) none) (some (.inr v7))
def Xb2 (v3:List Xb) (v4:Int) (v6:Fs_):(Int×Fs_)→Option Fs_:=
 Yam fun s=>Xb2.B v3 v4 v6 s.1 s.2
def Xb3 (v:Fs_):Option Fs_:=
 (Xb1 v.2.1).bind fun v2=>(Xb2 v.1 (v.1.length:Int) ([],[],()) (0,([],v2,()))).bind fun v11=>some (v11.1,v11.2.1,v11.2.2)
namespace Xb3
def G:Gam:=mkG [(54,Xb1.FS),(55,Xdc.FS),(56,Xgr.FS)]
theorem Gok:GOk PR G:=.cons Xb1.ok (.cons Xdc.ok (.cons Xgr.ok .nil))
end Xb3
namespace Xb2
noncomputable def c:=Yaq (Yal Proofs.Tryz.f23) [1,1,0,1,0,0]
def sp:SP:=⟨[(2,.loc 2 []),(3,.loc 3 []),(11,.cs (.sl Xd)),(12,.cs I64),(13,.cs I64)],[(2,.mem,.cd Xk),(3,.mem,.cd Xk)]⟩
def fr:=Yi1 sp (fun x s=>Xb2.B x.1.2.2.1 x.1.2.2.2.1 x.2.1 s.1 s.2) (fun x=>(x.1.2.2.2.2.1,x.2.2.1)) fun x (bb0:Fs_) _ kk0=>kk0 (.ex 0) ⟨[(2,.loc 2 []),(3,.loc 3 [])],[(2,some ⟨.mem,.cd Xk x.2.1⟩),(3,some ⟨.mem,.cd Xk bb0⟩)]⟩
theorem ok:Ya5 PR 33 1 (.loop c) fr:=
 Ywo Xg Xf ⟨[1],[],[],0⟩ (G:=Xb3.G) Xb3.Gok [(0,([2,3],[2,3]))] (fun x s=>((x.1.1,x.1.2.1,x.1.2.2.1,x.1.2.2.2.1,s.1,x.1.2.2.2.2.2),(x.2.1,s.2,x.2.2.2)))
  (fun x s=>by simp only[B,mC,mB,mS,mO,mN];kernel_rfl)
end Xb2
namespace Xb3
def pts:List PT:=[.cs Xk]
def FS:FS:=Yc8 [.sh] pts (fun x=>Xb3 x.1) fun t=>⟨[.cd Xk t],[]⟩
theorem ok:Ycs PR 23 FS:=
 Ywm Xg Xf Proofs.Tryz.f23 ⟨[1],[],[],0⟩ (.R (.R (.L (.R (.one (.fr 0)))))) (G:=G) Gok (L:=mkL [(0,Xb2.fr)]) (l:=[(0,.loop Xb2.c)]) ⟨Lam.cons Xb2.ok,trivial⟩
  (fun x=>by simp only[Xb3,mC,mB,mS,mO,mN];kernel_rfl)
end Xb3
def Xl (v:List UInt8) (v2:List UInt8):Option Bool:=
 cond (cond (decide ((v.length:Int)≥(v2.length:Int))) (decide ((0:Int)≤(v2.length:Int))&&decide ((v2.length:Int)≤(v.length:Int))) true) ((some (cond (decide ((v.length:Int)≥(v2.length:Int))) (((v.take ((v2.length:Int).toNat)).drop 0) == v2) false)).bind fun v3=>some v3) none
namespace Xl
def pts:List PT:=[.cs .str,.cs .str]
def FS:FS:=Yc8 [.sh,.sh] pts (fun x=>Xl x.1 x.2.1) fun t=>⟨[.cs .bool t],[]⟩
theorem ok:Ycs PR 143 FS:=
 Ywm Xg Xf Proofs.Tryz.f143 h0 .no (G:=(mkG [])) .nil (L:=mkL []) (l:=[]) hT
  (fun x=>by simp only[Xl,mC,mB,mS,mO,mN];kernel_rfl)
end Xl
def Xey (v:List UInt8) (v2:List UInt8):Option Bool:=
 (Xl v v2).bind fun v3=>some v3
namespace Xey
def G:Gam:=mkG [(143,Xl.FS)]
def pts:List PT:=[.cs .str,.cs .str]
def FS:FS:=Yc8 [.sh,.sh] pts (fun x=>Xey x.1 x.2.1) fun t=>⟨[.cs .bool t],[]⟩
theorem ok:Ycs PR 127 FS:=
 Ywm Xg Xf Proofs.Tryz.f127 h0 .no (G:=G) (show GOk PR G from .cons Xl.ok .nil) (L:=mkL []) (l:=[]) hT
  (fun x=>by simp only[Xey,mC,mB,mS,mO,mN];kernel_rfl)
end Xey
def Xm (v:List UInt8) (v2:List UInt8):Option Bool:=
 cond (cond (decide ((v.length:Int)≥(v2.length:Int))) (decide ((0:Int)≤(w64 ((v.length:Int)-(v2.length:Int))))&&decide ((w64 ((v.length:Int)-(v2.length:Int)))≤(v.length:Int))) true) ((some (cond (decide ((v.length:Int)≥(v2.length:Int))) (((v.take v.length).drop ((w64 ((v.length:Int)-(v2.length:Int))).toNat)) == v2) false)).bind fun v3=>some v3) none
namespace Xm
def pts:List PT:=[.cs .str,.cs .str]
def FS:FS:=Yc8 [.sh,.sh] pts (fun x=>Xm x.1 x.2.1) fun t=>⟨[.cs .bool t],[]⟩
theorem ok:Ycs PR 144 FS:=
 Ywm Xg Xf Proofs.Tryz.f144 h0 .no (G:=(mkG [])) .nil (L:=mkL []) (l:=[]) hT
  (fun x=>by simp only[Xm,mC,mB,mS,mO,mN];kernel_rfl)
end Xm
def Xez (v:List UInt8) (v2:List UInt8):Option Bool:=
 (Xm v v2).bind fun v3=>some v3
namespace Xez
def G:Gam:=mkG [(144,Xm.FS)]
def pts:List PT:=[.cs .str,.cs .str]
def FS:FS:=Yc8 [.sh,.sh] pts (fun x=>Xez x.1 x.2.1) fun t=>⟨[.cs .bool t],[]⟩
theorem ok:Ycs PR 128 FS:=
 Ywm Xg Xf Proofs.Tryz.f128 h0 .no (G:=G) (show GOk PR G from .cons Xm.ok .nil) (L:=mkL []) (l:=[]) hT
  (fun x=>by simp only[Xez,mC,mB,mS,mO,mN];kernel_rfl)
end Xez
def Xhj (s sub:List UInt8):Option Int:=countP s sub
def Xhj.FS:FS:=Yc8 [.sh,.sh] [.cl .sh .str,.cl .sh .str] (fun x=>countP x.1 x.2.1) fun y=>⟨[.cl .sh (.int .i64) y],[]⟩
theorem Xhj.ok:Ycs Go.Proofs.Tryz.prog 163 Xhj.FS:=
 Yva ⟨Go.Proofs.Tryz.f163,by kernel_rfl,by kernel_rfl,by kernel_rfl⟩ Go.Proofs.Ct.count_one
def Xn (s:List UInt8) (c:Int):Option Int:=Yiz s c
def Xn.FS:FS:=Yc8 [.sh,.sh] [.cl .sh .str,.cl .sh (.int .u8)] (fun x=>Yiz x.1 x.2.1) fun y=>⟨[.cl .sh (.int .i64) y],[]⟩
theorem Xn.ok:Ycs Go.Proofs.Tryz.prog 183 Xn.FS:=
 Ysx ⟨Go.Proofs.Tryz.f183,by kernel_rfl,by kernel_rfl,by kernel_rfl⟩ Go.Proofs.Ib.index_any
def Xo (v:List UInt8) (v2:List UInt8):Option Int:=
 cond (cond ((v2.length:Int) == 0) true (v2 == v)) (some 0) (cond ((v2.length:Int) == 1) (cond (inB 0 v2.length) ((Xn v ((v2.getD (0:Int).toNat 0).toNat:Int)).bind fun v3=>some v3) none) (cond (decide ((v2.length:Int)≥(v.length:Int))) (some (-1)) none))
namespace Xo
def G:Gam:=mkG [(183,Xn.FS)]
def pts:List PT:=[.cs .str,.cs .str]
def FS:FS:=Yc8 [.sh,.sh] pts (fun x=>Xo x.1 x.2.1) fun t=>⟨[.cs I64 t],[]⟩
theorem ok:Ycs PR 179 FS:=
 Ywm Xg Xf Proofs.Tryz.f179 h0 .no (G:=G) (show GOk PR G from .cons Xn.ok .nil) (L:=mkL []) (l:=[]) hT
  (fun x=>by simp only[Xo,mC,mB,mS,mO,mN];kernel_rfl)
end Xo
def Xe0 (v:List UInt8) (v2:List UInt8):Option Int:=
 (Xo v v2).bind fun v3=>some v3
namespace Xe0
def G:Gam:=mkG [(179,Xo.FS)]
def pts:List PT:=[.cs .str,.cs .str]
def FS:FS:=Yc8 [.sh,.sh] pts (fun x=>Xe0 x.1 x.2.1) fun t=>⟨[.cs I64 t],[]⟩
theorem ok:Ycs PR 164 FS:=
 Ywm Xg Xf Proofs.Tryz.f164 h0 .no (G:=G) (show GOk PR G from .cons Xo.ok .nil) (L:=mkL []) (l:=[]) hT
  (fun x=>by simp only[Xe0,mC,mB,mS,mO,mN];kernel_rfl)
end Xe0
def Xb4.B (v2:List UInt8) (v3:Int) (v8:Int) (v7:List UInt8) (v9:Int) (v10:List (List UInt8)):Option (((List UInt8)×Int×List (List UInt8))⊕((List UInt8)×Int×List (List UInt8))):=
 cond (decide (v9<v8)) ((Xe0 v7 v2).bind fun v11=>cond (decide (v11<0)) (some (.inr (v7,v9,v10))) (cond (decide ((0:Int)≤(w64 (v11+v3)))&&decide ((w64 (v11+v3))≤(v7.length:Int))) (cond (inB v9 v10.length) ((some (v10.set v9.toNat ((v7.take ((w64 (v11+v3)).toNat)).drop 0))).bind fun v12=>cond (decide ((0:Int)≤(w64 (v11+(v2.length:Int))))&&decide ((w64 (v11+(v2.length:Int)))≤(v7.length:Int))) ((some ((v7.take v7.length).drop ((w64 (v11+(v2.length:Int))).toNat))).bind fun v13=>some (.inl (v13,w64 (v9+1),v12))) none) none) none)) (some (.inr (v7,v9,v10)))
def Xb4 (v2:List UInt8) (v3:Int) (v8:Int):((List UInt8)×Int×List (List UInt8))→Option ((List UInt8)×Int×List (List UInt8)):=
 Yam fun s=>Xb4.B v2 v3 v8 s.1 s.2.1 s.2.2
def Xdf (v:List UInt8) (v2:List UInt8) (v3:Int) (v4:Int):Option (List (List UInt8)):=
 cond (v4 == 0) (some []) (cond (v2 == ([]:List UInt8)) none (cond (decide (v4<0)) ((Xhj v v2).bind fun v5=>(some (cond (decide ((w64 ((v.length:Int)+1))<(w64 (v5+1)))) (w64 ((v.length:Int)+1)) (w64 (v5+1)))).bind fun v6=>cond (decide ((0:Int)≤v6)&&(decide (v6≤v6)&&decide (v6≤2147483648))) ((Xb4 v2 v3 (w64 (v6-1)) (v,0,List.replicate v6.toNat ([]:List UInt8))).bind fun v14=>cond (inB v14.2.1 v14.2.2.length) (cond (decide ((0:Int)≤(w64 (v14.2.1+1)))&&decide ((w64 (v14.2.1+1))≤((v14.2.2.set v14.2.1.toNat v14.1).length:Int))) ((some (((v14.2.2.set v14.2.1.toNat v14.1).drop 0).take (((w64 (v14.2.1+1)).toNat)-0))).bind fun v15=>some v15) none) none) none) ((some (cond (decide ((w64 ((v.length:Int)+1))<v4)) (w64 ((v.length:Int)+1)) v4)).bind fun v16=>cond (decide ((0:Int)≤v16)&&(decide (v16≤v16)&&decide (v16≤2147483648))) ((Xb4 v2 v3 (w64 (v16-1)) (v,0,List.replicate v16.toNat ([]:List UInt8))).bind fun v17=>cond (inB v17.2.1 v17.2.2.length) (cond (decide ((0:Int)≤(w64 (v17.2.1+1)))&&decide ((w64 (v17.2.1+1))≤((v17.2.2.set v17.2.1.toNat v17.1).length:Int))) ((some (((v17.2.2.set v17.2.1.toNat v17.1).drop 0).take (((w64 (v17.2.1+1)).toNat)-0))).bind fun v18=>some v18) none) none) none)))
namespace Xdf
def G:Gam:=mkG [(163,Xhj.FS),(164,Xe0.FS)]
theorem Gok:GOk PR G:=.cons Xhj.ok (.cons Xe0.ok .nil)
end Xdf
namespace Xb4
noncomputable def c:=Yaq (Yal Proofs.Tryz.f145) [1,1,1,1,1,1,1,1,0,0,0]
def sp:SP:=⟨[(0,.cs .str),(1,.cs .str),(2,.cs I64),(3,.cs I64),(9,.seg 9 []),(10,.cs I64)],[(9,.reg,.cd (.sl .str))]⟩
def fr:=Yi1 sp (fun x s=>Xb4.B x.1.2.1 x.1.2.2.1 x.1.2.2.2.1 s.1 s.2.1 s.2.2) (fun x=>(x.1.1,x.1.2.2.2.2.2.1,x.2.1)) fun x (bb0:(List UInt8)×Int×List (List UInt8)) _ kk0=>kk0 (.ex 0) ⟨[(0,.cs .str bb0.1),(9,.seg 9 []),(10,.cs I64 bb0.2.1)],[sr 9 (.cd (.sl .str) bb0.2.2)]⟩
theorem ok:Ya5 PR 66 4 (.loop c) fr:=
 Ywo Xg Xf h0 (G:=Xdf.G) Xdf.Gok [(0,([0,9,10],[9]))] (fun x s=>((s.1,x.1.2.1,x.1.2.2.1,x.1.2.2.2.1,x.1.2.2.2.2.1,s.2.1,x.1.2.2.2.2.2.2),(s.2.2,x.2.2)))
  (fun x s=>by simp only[B,mC,mB,mS,mO,mN];kernel_rfl)
end Xb4
namespace Xdf
def pts:List PT:=[.cs .str,.cs .str,.cs I64,.cs I64]
def FS:FS:=Yc8 [.sh,.sh,.sh,.sh] pts (fun x=>Xdf x.1 x.2.1 x.2.2.1 x.2.2.2.1) fun t=>⟨[.cd (.sl .str) t],[]⟩
theorem ok:Ycs PR 145 FS:=
 Ywm Xg Xf Proofs.Tryz.f145 h0 (.R (.R (.R (.R (.R (.R (.R (.R (.L (.one (.fr 0))))))))))) (G:=G) Gok (L:=mkL [(0,Xb4.fr)]) (l:=[(0,.loop Xb4.c)]) ⟨Lam.cons Xb4.ok,trivial⟩
  (fun x=>by simp only[Xdf,mC,mB,mS,mO,mN];kernel_rfl)
end Xdf
def Xe1 (v:List UInt8) (v2:List UInt8):Option (List (List UInt8)):=
 (Xdf v v2 0 (-1)).bind fun v3=>some v3
namespace Xe1
def G:Gam:=mkG [(145,Xdf.FS)]
def pts:List PT:=[.cs .str,.cs .str]
def FS:FS:=Yc8 [.sh,.sh] pts (fun x=>Xe1 x.1 x.2.1) fun t=>⟨[.cd (.sl .str) t],[]⟩
theorem ok:Ycs PR 129 FS:=
 Ywm Xg Xf Proofs.Tryz.f129 h0 .no (G:=G) (show GOk PR G from .cons Xdf.ok .nil) (L:=mkL []) (l:=[]) hT
  (fun x=>by simp only[Xe1,mC,mB,mS,mO,mN];kernel_rfl)
end Xe1
def Xb5.B (v5:Int) (v4:List (List UInt8)) (v6:Int):Option (Int⊕(((Int×List (List UInt8))⊕Unit))):=
 cond (decide (v6<v5)) (cond (inB v6 v4.length) ((Xc8 (v4.getD v6.toNat [])).bind fun v7=>cond (v7 != 0) (some (.inr (.inl (v7,[])))) (some (.inl (w64 (v6+1))))) none) (some (.inr (.inr ())))
def Xb5 (v5:Int) (v4:List (List UInt8)):Int→Option (((Int×List (List UInt8))⊕Unit)):=
 Yam fun s=>Xb5.B v5 v4 s
def Xb6 (v:List UInt8):Option ((List (List UInt8))×Int):=
 cond (decide ((v.length:Int)>30)) (some ([],2)) (cond (v == ([47]:List UInt8)) (some ([],0)) ((Xey v ([47]:List UInt8)).bind fun v2=>cond (!v2) (some ([],5)) ((Xez v ([47]:List UInt8)).bind fun v3=>cond v3 (some ([],5)) (cond (decide ((0:Int)≤(1:Int))&&decide ((1:Int)≤(v.length:Int))) ((Xe1 ((v.take v.length).drop ((1:Int).toNat)) ([47]:List UInt8)).bind fun v4=>cond (decide ((v4.length:Int)>6)) (some ([],2)) ((Xb5 (v4.length:Int) v4 0).bind fun v8=>sel v8 (fun v9=>some (v9.2,v9.1)) (fun v10=>some (v4,0)))) none))))
namespace Xb6
def G:Gam:=mkG [(127,Xey.FS),(128,Xez.FS),(129,Xe1.FS),(130,Xc8.FS)]
theorem Gok:GOk PR G:=.cons Xey.ok (.cons Xez.ok (.cons Xe1.ok (.cons Xc8.ok .nil)))
end Xb6
namespace Xb5
noncomputable def c:=Yaq (Yal Proofs.Tryz.f102) [1,1,1,1,1,1,0,1,0,0]
def sp:SP:=⟨[(4,.seg 4 []),(26,.seg 4 []),(27,.cs I64),(28,.cs I64)],[(4,.reg,.cd (.sl .str))]⟩
def fr:=Yi1 sp (fun x s=>Xb5.B x.1.2.2.1 x.2.1 s) (fun x=>x.1.2.2.2.1) fun x (oo0:((Int×List (List UInt8))⊕Unit)) _ kk0=>sel oo0 (fun bb0=>kk0 (.rt) ⟨[(2,.seg 2 []),(3,.cs I64 bb0.1)],[sr 2 (.cd (.sl .str) bb0.2)]⟩) (fun cc0=>kk0 (.ex 0) ⟨[(4,.seg 4 [])],[sr 4 (.cd (.sl .str) x.2.1)]⟩)
theorem ok:Ya5 PR 39 1 (.loop c) fr:=
 Ys4 Xg Xf h0 .no (G:=Xb6.G) Xb6.Gok (L:=mkL []) (l:=[]) hT [(0,([4],[4]))] ([2,3],[2]) (fun x s=>((x.1.1,x.1.2.1,x.1.2.2.1,s,x.1.2.2.2.2),x.2))
  (fun x s=>by simp only[B,mC,mB,mS,mO,mN];kernel_rfl)
end Xb5
namespace Xb6
def pts:List PT:=[.cs .str]
def FS:FS:=Yc8 [.sh] pts (fun x=>Xb6 x.1) fun t=>⟨[.cd (.sl .str) t.1,.cs I64 t.2],[]⟩
theorem ok:Ycs PR 102 FS:=
 Ywm Xg Xf Proofs.Tryz.f102 h0 (.R (.R (.R (.R (.R (.R (.L (.R (.one (.fr 0)))))))))) (G:=G) Gok (L:=mkL [(0,Xb5.fr)]) (l:=[(0,.loop Xb5.c)]) ⟨Lam.cons Xb5.ok,trivial⟩
  (fun x=>by simp only[Xb6,mC,mB,mS,mO,mN];kernel_rfl)
end Xb6
def Xdg.B (v3:List UInt8) (v5:List Xe) (v4:Int) (v6:Int):Option (Int⊕((Int⊕Unit))):=
 cond (decide (v6<v4)) (cond (inB v6 v5.length) (cond ((v5.getD v6.toNat Xj).1 == v3) (some (.inr (.inl (v5.getD v6.toNat Xj).2.1))) (some (.inl (w64 (v6+1))))) none) (some (.inr (.inr ())))
def Xdg (v3:List UInt8) (v5:List Xe) (v4:Int):Int→Option ((Int⊕Unit)):=
 Yam fun s=>Xdg.B v3 v5 v4 s
def Xaw (v:Fs_) (v2:Int) (v3:List UInt8):Option Int:=
 cond (inB v2 v.1.length) ((some ((v.1.getD v2.toNat Xa).2.2.2.2.1.length:Int)).bind fun v4=>(Xdg v3 (v.1.getD v2.toNat Xa).2.2.2.2.1 v4 0).bind fun v7=>sel v7 (fun v8=>some v8) (fun v9=>some (-1))) none
namespace Xdg
noncomputable def c:=Yaq (Yal Proofs.Tryz.f72) [1,0,1,0,0]
def sp:SP:=⟨[(2,.cs .str),(16,.cs (.sl Xh)),(17,.cs I64),(18,.cs I64)],[]⟩
def fr:=Yi1 sp (fun x s=>Xdg.B x.1.1 x.1.2.1 x.1.2.2.1 s) (fun x=>x.1.2.2.2.1) fun x (oo0:(Int⊕Unit)) _ kk0=>sel oo0 (fun bb0=>kk0 (.rt) ⟨[(6,.cs I64 bb0)],[]⟩) (fun cc0=>kk0 (.ex 0) ⟨[],[]⟩)
theorem ok:Ya5 PR 29 3 (.loop c) fr:=
 Ys4 Xg Xf h0 .no (G:=(mkG [])) .nil (L:=mkL []) (l:=[]) hT [(0,([],[]))] ([6],[]) (fun x s=>((x.1.1,x.1.2.1,x.1.2.2.1,s,x.1.2.2.2.2),x.2))
  (fun x s=>by simp only[B,mC,mB,mS,mO,mN];kernel_rfl)
end Xdg
namespace Xaw
def pts:List PT:=[.pt Xk,.cs I64,.cs .str]
def FS:FS:=Yc8 [.sh,.sh,.sh] pts (fun x=>Xaw x.1 x.2.1 x.2.2.1) fun t=>⟨[.cs I64 t],[]⟩
theorem ok:Ycs PR 72 FS:=
 Ywm Xg Xf Proofs.Tryz.f72 h0 (.R (.L (.R (.one (.fr 0))))) (G:=(mkG [])) .nil (L:=mkL [(0,Xdg.fr)]) (l:=[(0,.loop Xdg.c)]) ⟨Lam.cons Xdg.ok,trivial⟩
  (fun x=>by simp only[Xaw,mC,mB,mS,mO,mN];kernel_rfl)
end Xaw
def Xb7.B (v:Fs_) (v2:List (List UInt8)) (v4:Int) (v3:Int) (v5:Int):Option ((Int×Int)⊕(((Int×Int)⊕Int))):=
 cond (decide (v5<v4)) (cond (inB v5 v2.length) (cond (inB v3 v.1.length) (cond ((v.1.getD v3.toNat Xa).1 != 2) (some (.inr (.inl (0,9)))) ((Xaw v v3 (v2.getD v5.toNat [])).bind fun v6=>cond (decide (v6<0)) (some (.inr (.inl (0,4)))) (some (.inl (v6,w64 (v5+1)))))) none) none) (some (.inr (.inr v3)))
def Xb7 (v:Fs_) (v2:List (List UInt8)) (v4:Int):(Int×Int)→Option (((Int×Int)⊕Int)):=
 Yam fun s=>Xb7.B v v2 v4 s.1 s.2
def Xb8 (v:Fs_) (v2:List (List UInt8)):Option (Int×Int):=
 (Xb7 v v2 (v2.length:Int) (0,0)).bind fun v7=>sel v7 (fun v8=>some (v8.1,v8.2)) (fun v9=>some (v9,0))
namespace Xb8
def G:Gam:=mkG [(72,Xaw.FS)]
theorem Gok:GOk PR G:=.cons Xaw.ok .nil
end Xb8
namespace Xb7
noncomputable def c:=Yaq (Yal Proofs.Tryz.f103) [1,1,0,1,0,0]
def sp:SP:=⟨[(0,.pt Xk),(6,.cs I64),(9,.cs (.sl .str)),(10,.cs I64),(11,.cs I64)],[]⟩
def fr:=Yi1 sp (fun x s=>Xb7.B x.1.1 x.1.2.2.1 x.1.2.2.2.1 s.1 s.2) (fun x=>(x.1.2.1,x.1.2.2.2.2.1)) fun x (oo0:((Int×Int)⊕Int)) _ kk0=>sel oo0 (fun bb0=>kk0 (.rt) ⟨[(4,.cs I64 bb0.1),(5,.cs I64 bb0.2)],[]⟩) (fun cc0=>kk0 (.ex 0) ⟨[(6,.cs I64 cc0)],[]⟩)
theorem ok:Ya5 PR 32 2 (.loop c) fr:=
 Ys4 Xg Xf h0 .no (G:=Xb8.G) Xb8.Gok (L:=mkL []) (l:=[]) hT [(0,([6],[]))] ([4,5],[]) (fun x s=>((x.1.1,s.1,x.1.2.2.1,x.1.2.2.2.1,s.2,x.1.2.2.2.2.2),x.2))
  (fun x s=>by simp only[B,mC,mB,mS,mO,mN];kernel_rfl)
end Xb7
namespace Xb8
def pts:List PT:=[.pt Xk,.cs (.sl .str)]
def FS:FS:=Yc8 [.sh,.sh] pts (fun x=>Xb8 x.1 x.2.1) fun t=>⟨[.cs I64 t.1,.cs I64 t.2],[]⟩
theorem ok:Ycs PR 103 FS:=
 Ywm Xg Xf Proofs.Tryz.f103 h0 (.R (.R (.L (.R (.one (.fr 0)))))) (G:=G) Gok (L:=mkL [(0,Xb7.fr)]) (l:=[(0,.loop Xb7.c)]) ⟨Lam.cons Xb7.ok,trivial⟩
  (fun x=>by simp only[Xb8,mC,mB,mS,mO,mN];kernel_rfl)
end Xb8
def Xee (v:Fs_) (v2:List UInt8):Option (Int×(List UInt8)×Int):=
 (Xb6 v2).bind fun v3=>cond (v3.2 != 0) (some (0,([]:List UInt8),v3.2)) (cond ((v3.1.length:Int) == 0) (some (0,([]:List UInt8),4)) (cond (decide ((0:Int)≤(w64 ((v3.1.length:Int)-1)))&&decide ((w64 ((v3.1.length:Int)-1))≤(v3.1.length:Int))) ((Xb8 v ((v3.1.drop 0).take (((w64 ((v3.1.length:Int)-1)).toNat)-0))).bind fun v4=>cond (v4.2 != 0) (some (0,([]:List UInt8),v4.2)) (cond (inB v4.1 v.1.length) (cond ((v.1.getD v4.1.toNat Xa).1 != 2) (some (0,([]:List UInt8),9)) (cond (inB (w64 ((v3.1.length:Int)-1)) v3.1.length) ((some (v3.1.getD ((w64 ((v3.1.length:Int)-1)).toNat) [])).bind fun v5=>some (v4.1,v5,0)) none)) none)) none))
namespace Xee
def G:Gam:=mkG [(102,Xb6.FS),(103,Xb8.FS)]
def pts:List PT:=[.pt Xk,.cs .str]
def FS:FS:=Yc8 [.sh,.sh] pts (fun x=>Xee x.1 x.2.1) fun t=>⟨[.cs I64 t.1,.cs .str t.2.1,.cs I64 t.2.2],[]⟩
theorem ok:Ycs PR 58 FS:=
 Ywm Xg Xf Proofs.Tryz.f58 h0 .no (G:=G) (show GOk PR G from .cons Xb6.ok (.cons Xb8.ok .nil)) (L:=mkL []) (l:=[]) hT
  (fun x=>by simp only[Xee,mC,mB,mS,mO,mN];kernel_rfl)
end Xee
noncomputable def Xae (f:Fs_) (dir:Int) (name:List UInt8):Option Fs_:=cond (decide (List.length f.1≤1152921504606846976)) (Yd2 f dir name) none
noncomputable def Xae.FS:FS:=Yc8 [.mu,.sh,.sh] [.op (.cl .deep Yd0),.cl .sh (.int .i64),.cl .sh .str] (fun x=>cond (decide (List.length x.1.1≤1152921504606846976)) (Yd2 x.1 x.2.1 x.2.2.1) none) fun y=>⟨[],[.op (.cl .deep Yd0 y)]⟩
theorem Xae.ok:Ycs Go.Proofs.Tryz.prog 76 Xae.FS:=
 Ytq ⟨Go.Proofs.Tryz.f76,by kernel_rfl,by kernel_rfl,by kernel_rfl⟩ Go.Proofs.Te.take
def Xb9.B (v4:Nat) (v3:Int) (v5:Int) (v6:Fs_):Option ((Int×Fs_)⊕Fs_):=
 cond (decide (v5<v3)) (cond (inB v5 ((v6.1.getD v4 Xa).2.2.2.1.length)) ((some ((v6.1.getD v4 Xa).2.2.2.1.getD v5.toNat 0)).bind fun v7=>cond (inB v7 v6.2.1.length) (some (.inl (w64 (v5+1),(v6.1,v6.2.1.set v7.toNat [],v6.2.2)))) none) none) (some (.inr v6))
def Xb9 (v4:Nat) (v3:Int):(Int×Fs_)→Option Fs_:=
 Yam fun s=>Xb9.B v4 v3 s.1 s.2
def Xgs (v:Fs_) (v2:Int):Option Fs_:=
 cond (inB v2 v.1.length) ((some ((v.1.getD v2.toNat Xa).2.2.2.1.length:Int)).bind fun v3=>(Xb9 v2.toNat v3 (0,v)).bind fun v8=>some v8) none
namespace Xb9
noncomputable def c:=Yaq (Yal Proofs.Tryz.f133) [1,0,0]
def sp:SP:=⟨[(0,.loc 0 []),(13,.seg 0 [.f1,.el,.f2,.f2,.f2,.f1]),(14,.cs I64),(15,.cs I64)],[(0,.mem,.cd Xk)]⟩
def fr:=Yi1 sp (fun x s=>Xb9.B x.1.2.1.1 x.1.2.2.1 s.1 s.2) (fun x=>(x.1.2.2.2.1,x.2.1)) fun x (bb0:Fs_) _ kk0=>kk0 (.ex 0) ⟨[],[(0,some ⟨.mem,.cd Xk bb0⟩)]⟩
theorem ok:Ya5 PR 26 2 (.loop c) fr:=
 Ywg Xg Xf h0 [(0,([],[0]))] (fun x s=>((x.1.1,x.1.2.1,x.1.2.2.1,s.1,x.1.2.2.2.2),(s.2,x.2.2)))
  (fun x s=>by simp only[B,mC,mB,mS,mO,mN];kernel_rfl)
end Xb9
namespace Xgs
def pts:List PT:=[.op (.cd Xk),.cs I64]
def FS:FS:=Yc8 [.mu,.sh] pts (fun x=>Xgs x.1 x.2.1) fun t=>⟨[],[.op (.cd Xk t)]⟩
theorem ok:Ycs PR 133 FS:=
 Ywm Xg Xf Proofs.Tryz.f133 h0 (.R (.one (.fr 0))) (G:=(mkG [])) .nil (L:=mkL [(0,Xb9.fr)]) (l:=[(0,.loop Xb9.c)]) ⟨Lam.cons Xb9.ok,trivial⟩
  (fun x=>by simp only[Xgs,mC,mB,mS,mO,mN];kernel_rfl)
end Xgs
def Xef (v:Fs_) (v2:Int):Option Fs_:=
 (Xgs v v2).bind fun v3=>cond (inB v2 v3.1.length) (some (v3.1.set v2.toNat (0,0,0,[],[],()),v3.2)) none
namespace Xef
def G:Gam:=mkG [(133,Xgs.FS)]
def pts:List PT:=[.op (.cd Xk),.cs I64]
def FS:FS:=Yc8 [.mu,.sh] pts (fun x=>Xef x.1 x.2.1) fun t=>⟨[],[.op (.cd Xk t)]⟩
theorem ok:Ycs PR 111 FS:=
 Ywm Xg Xf Proofs.Tryz.f111 h0 .no (G:=G) (show GOk PR G from .cons Xgs.ok .nil) (L:=mkL []) (l:=[]) hT
  (fun x=>by simp only[Xef,mC,mB,mS,mO,mN];kernel_rfl)
end Xef
def Xdu (v:Fs_) (v2:Int) (v3:List UInt8):Option Fs_:=
 (Xaw v v2 v3).bind fun v4=>(Xae v v2 v3).bind fun v5=>cond (inB v4 v5.1.length) (cond ((v5.1.getD v4.toNat Xa).1 != 1) (some v5) ((some (decide ((v5.1.getD v4.toNat Xa).2.1>1))).bind fun v6=>cond v6 ((some (v5.1.set v4.toNat ((v5.1.getD v4.toNat Xa).1,w64 ((v5.1.getD v4.toNat Xa).2.1-1),(v5.1.getD v4.toNat Xa).2.2))).bind fun v7=>some (v7,v5.2)) ((Xbw v5.1 v4).bind fun v8=>cond (v8 == 0) ((Xef v5 v4).bind fun v9=>some v9) (some v5)))) none
namespace Xdu
def G:Gam:=mkG [(72,Xaw.FS),(76,Xae.FS),(98,Xbw.FS),(111,Xef.FS)]
def pts:List PT:=[.op (.cd Xk),.cs I64,.cs .str]
def FS:FS:=Yc8 [.mu,.sh,.sh] pts (fun x=>Xdu x.1 x.2.1 x.2.2.1) fun t=>⟨[],[.op (.cd Xk t)]⟩
theorem ok:Ycs PR 75 FS:=
 Ywm Xg Xf Proofs.Tryz.f75 h0 .no (G:=G) (show GOk PR G from .cons Xaw.ok (.cons Xae.ok (.cons Xbw.ok (.cons Xef.ok .nil)))) (L:=mkL []) (l:=[]) hT
  (fun x=>by simp only[Xdu,mC,mB,mS,mO,mN];kernel_rfl)
end Xdu
noncomputable def Xap (f:Fs_) (dir:Int) (name:List UInt8) (at_:Int):Option Fs_:=cond (decide (List.length f.1≤1152921504606846976)) (Yew f dir name at_) none
noncomputable def Xap.FS:FS:=Yc8 [.mu,.sh,.sh,.sh] [.op (.cl .deep Yd0),.cl .sh (.int .i64),.cl .sh .str,.cl .sh (.int .i64)] (fun x=>cond (decide (List.length x.1.1≤1152921504606846976)) (Yew x.1 x.2.1 x.2.2.1 x.2.2.2.1) none) fun y=>⟨[],[.op (.cl .deep Yd0 y)]⟩
theorem Xap.ok:Ycs Go.Proofs.Tryz.prog 77 Xap.FS:=
 Yt0 ⟨Go.Proofs.Tryz.f77,by kernel_rfl,by kernel_rfl,by kernel_rfl⟩ Go.Proofs.Pe.put
def Xgt (v:Fs_) (v2:List UInt8) (v3:List UInt8):Option (Int×Fs_):=
 (Xee v v2).bind fun v4=>cond (v4.2.2 != 0) (some (v4.2.2,v)) ((Xaw v v4.1 v4.2.1).bind fun v5=>cond (decide (v5<0)) (some (4,v)) ((Xee v v3).bind fun v6=>cond (v6.2.2 != 0) (some (v6.2.2,v)) (cond (inB v5 v.1.length) ((Xaw v v6.1 v6.2.1).bind fun v7=>cond ((v.1.getD v5.toNat Xa).1 == 2) ((Xa2 v.1 v5).bind fun v8=>(Xau v8 v6.1).bind fun v9=>cond v9 (some (1,v)) (cond (v7 == v5) (some (0,v)) (cond (cond (decide (v7<0)) (inB v6.1 v.1.length) true) ((some (cond (decide (v7<0)) (((v.1.getD v6.1.toNat Xa).2.2.2.2.1.length:Int) == 6) false)).bind fun v10=>cond (cond v10 (v6.1 != v4.1) false) (some (2,v)) (cond (cond (decide (v7≥0)) (inB v7 v.1.length) true) ((some (cond (decide (v7≥0)) (!(((v.1.getD v5.toNat Xa).1 == 2) == ((v.1.getD v7.toNat Xa).1 == 2))) false)).bind fun v11=>cond v11 (some (9,v)) (cond (cond (decide (v7≥0)) (inB v7 v.1.length) true) ((some (cond (decide (v7≥0)) (decide (((v.1.getD v7.toNat Xa).2.2.2.2.1.length:Int)>0)) false)).bind fun v12=>cond v12 (some (8,v)) (cond (decide (v7≥0)) ((Xdu v v6.1 v6.2.1).bind fun v13=>cond ((v.1.getD v5.toNat Xa).1 == 2) (cond (inB v7 v13.1.length) ((Xae (v13.1.set v7.toNat (0,0,0,[],[],()),v13.2) v4.1 v4.2.1).bind fun v14=>(Xap v14 v6.1 v6.2.1 v5).bind fun v15=>some (0,v15)) none) ((Xae v13 v4.1 v4.2.1).bind fun v16=>(Xap v16 v6.1 v6.2.1 v5).bind fun v17=>some (0,v17))) ((Xae v v4.1 v4.2.1).bind fun v18=>(Xap v18 v6.1 v6.2.1 v5).bind fun v19=>some (0,v19)))) none)) none)) none))) (cond (v7 == v5) (some (0,v)) (cond (cond (decide (v7<0)) (inB v6.1 v.1.length) true) ((some (cond (decide (v7<0)) (((v.1.getD v6.1.toNat Xa).2.2.2.2.1.length:Int) == 6) false)).bind fun v20=>cond (cond v20 (v6.1 != v4.1) false) (some (2,v)) (cond (cond (decide (v7≥0)) (inB v7 v.1.length) true) ((some (cond (decide (v7≥0)) (!(((v.1.getD v5.toNat Xa).1 == 2) == ((v.1.getD v7.toNat Xa).1 == 2))) false)).bind fun v21=>cond v21 (some (9,v)) (cond (cond (decide (v7≥0)) (inB v7 v.1.length) true) ((some (cond (decide (v7≥0)) (decide (((v.1.getD v7.toNat Xa).2.2.2.2.1.length:Int)>0)) false)).bind fun v22=>cond v22 (some (8,v)) (cond (decide (v7≥0)) ((Xdu v v6.1 v6.2.1).bind fun v23=>cond ((v.1.getD v5.toNat Xa).1 == 2) (cond (inB v7 v23.1.length) ((Xae (v23.1.set v7.toNat (0,0,0,[],[],()),v23.2) v4.1 v4.2.1).bind fun v24=>(Xap v24 v6.1 v6.2.1 v5).bind fun v25=>some (0,v25)) none) ((Xae v23 v4.1 v4.2.1).bind fun v26=>(Xap v26 v6.1 v6.2.1 v5).bind fun v27=>some (0,v27))) ((Xae v v4.1 v4.2.1).bind fun v28=>(Xap v28 v6.1 v6.2.1 v5).bind fun v29=>some (0,v29)))) none)) none)) none))) none)))
namespace Xgt
def G:Gam:=mkG [(58,Xee.FS),(72,Xaw.FS),(74,Xa2.FS),(73,Xau.FS),(75,Xdu.FS),(76,Xae.FS),(77,Xap.FS)]
def pts:List PT:=[.op (.cd Xk),.cs .str,.cs .str]
def FS:FS:=Yc8 [.mu,.sh,.sh] pts (fun x=>Xgt x.1 x.2.1 x.2.2.1) fun t=>⟨[.cs I64 t.1],[.op (.cd Xk t.2)]⟩
theorem ok:Ycs PR 38 FS:=
 Ywm Xg Xf Proofs.Tryz.f38 h0 .no (G:=G) (show GOk PR G from .cons Xee.ok (.cons Xaw.ok (.cons Xa2.ok (.cons Xau.ok (.cons Xdu.ok (.cons Xae.ok (.cons Xap.ok .nil))))))) (L:=mkL []) (l:=[]) hT
  (fun x=>by simp only[Xgt,mC,mB,mS,mO,mN];kernel_rfl)
end Xgt
def Xhk (v:Fs_) (v2:Xq):Option (Xq×Unit×Unit×Unit):=
 some ((v2.1,v2.2.1,v2.2.2.1,v2.2.2.2.1,v2.2.2.2.2.1,(v.1,v.2.1,v.2.2),v2.2.2.2.2.2.2),(),(),())
namespace Xhk
def pts:List PT:=[.op (.cd Xk),.cd Xi]
def FS:FS:=Yc8 [.mu,.mu] pts (fun x=>Xhk x.1 x.2.1) fun t=>⟨[.cd Xi t.1],[.op (.pr (.dead 1) (.pr (.dead 1) (.cs .unit t.2.1))),.pr (.dead 1) (.pr (.dead 1) (.pr (.dead 1) (.pr (.dead 1) (.pr (.dead 1) (.pr (.pr (.dead 1) (.pr (.dead 1) (.cs .unit t.2.2.1))) (.cs .unit t.2.2.2))))))]⟩
theorem ok:Ycs PR 24 FS:=
 Ywa Xg Xf Proofs.Tryz.f24 h0 .no (G:=(mkG [])) .nil (L:=mkL []) (l:=[]) hT
  (fun x=>by simp only[Xhk,mC,mB,mS,mO,mN];kernel_rfl)
end Xhk
def Xdh (v:Fs_) (v2:List UInt8) (v3:List UInt8):Option Xq:=
 (Xex v).bind fun v4=>cond (v4 != 0) (some (v4,0,0,[],[],([],[],()),())) ((Xb3 v).bind fun v5=>(Xgt (v5.1,v5.2.1,v5.2.2) v2 v3).bind fun v6=>(Xhk v6.2 (0,v6.1,0,[],[],([],[],()),())).bind fun v7=>some (v7.1.1,v7.1.2.1,v7.1.2.2.1,v7.1.2.2.2.1,v7.1.2.2.2.2.1,(v7.1.2.2.2.2.2.1.1,v7.1.2.2.2.2.2.1.2.1,v7.1.2.2.2.2.2.1.2.2),v7.1.2.2.2.2.2.2))
namespace Xdh
def G:Gam:=mkG [(22,Xex.FS),(23,Xb3.FS),(38,Xgt.FS),(24,Xhk.FS)]
def pts:List PT:=[.cs Xk,.cs .str,.cs .str]
def FS:FS:=Yc8 [.sh,.sh,.sh] pts (fun x=>Xdh x.1 x.2.1 x.2.2.1) fun t=>⟨[.cd Xi t],[]⟩
theorem ok:Ycs PR 15 FS:=
 Ywm Xg Xf Proofs.Tryz.f15 ⟨[3],[],[],0⟩ .no (G:=G) (show GOk PR G from .cons Xex.ok (.cons Xb3.ok (.cons Xgt.ok (.cons Xhk.ok .nil)))) (L:=mkL []) (l:=[]) hT
  (fun x=>by simp only[Xdh,mC,mB,mS,mO,mN];kernel_rfl)
end Xdh
def Xca.B (a:List Int) (b:List Int) (i_:Int):Option (Int⊕((Bool⊕Unit))):=
 cond (decide (i_<(a.length:Int))) (cond (inB i_ a.length) (cond (inB i_ b.length) (cond ((a.getD i_.toNat 0) != (b.getD i_.toNat 0)) (some (.inr (.inl false))) (some (.inl (w64 (i_+1))))) none) none) (some (.inr (.inr ())))
def Xca (a:List Int) (b:List Int):Int→Option ((Bool⊕Unit)):=
 Yam fun s=>Xca.B a b s
def Xdi (a:List Int) (b:List Int):Option Bool:=
 cond ((a.length:Int) != (b.length:Int)) (some false) ((Xca a b 0).bind fun o=>sel o (fun b2=>some b2) (fun c=>some true))
namespace Xca
noncomputable def c:=Yaq (Yal Proofs.Tryz.f26) [1,1,0,1,0,0]
def sp:SP:=⟨[(0,.cs SB),(1,.cs SB),(5,.cs I64)],[]⟩
def fr:=Yi1 sp (fun x s=>Xca.B x.1.1 x.1.2.1 s) (fun x=>x.1.2.2.1) fun x (oo0:(Bool⊕Unit)) _ kk0=>sel oo0 (fun bb0=>kk0 (.rt) ⟨[(4,.cs .bool bb0)],[]⟩) (fun cc0=>kk0 (.ex 0) ⟨[],[]⟩)
theorem ok:Ya5 PR 26 2 (.loop c) fr:=
 Ys4 Xg Xf h0 .no (G:=(mkG [])) .nil (L:=mkL []) (l:=[]) hT [(0,([],[]))] ([4],[]) (fun x s=>((x.1.1,x.1.2.1,s,x.1.2.2.2),x.2))
  (fun x s=>by simp only[B,mC,mB,mS,mO,mN];kernel_rfl)
end Xca
namespace Xdi
def pts:List PT:=[.cs SB,.cs SB]
def FS:FS:=Yc8 [.sh,.sh] pts (fun x=>Xdi x.1 x.2.1) fun t=>⟨[.cs .bool t],[]⟩
theorem ok:Ycs PR 26 FS:=
 Ywm Xg Xf Proofs.Tryz.f26 h0 (.R (.R (.L (.R (.one (.fr 0)))))) (G:=(mkG [])) .nil (L:=mkL [(0,Xca.fr)]) (l:=[(0,.loop Xca.c)]) ⟨Lam.cons Xca.ok,trivial⟩
  (fun x=>by simp only[Xdi,mC,mB,mS,mO,mN];kernel_rfl)
end Xdi
def Xcb.B (a:List (List UInt8)) (b:List (List UInt8)) (i_:Int):Option (Int⊕((Bool⊕Unit))):=
 cond (decide (i_<(a.length:Int))) (cond (inB i_ a.length) (cond (inB i_ b.length) (cond (!((a.getD i_.toNat []) == (b.getD i_.toNat []))) (some (.inr (.inl false))) (some (.inl (w64 (i_+1))))) none) none) (some (.inr (.inr ())))
def Xcb (a:List (List UInt8)) (b:List (List UInt8)):Int→Option ((Bool⊕Unit)):=
 Yam fun s=>Xcb.B a b s
def Xe2 (a:List (List UInt8)) (b:List (List UInt8)):Option Bool:=
 cond ((a.length:Int) != (b.length:Int)) (some false) ((Xcb a b 0).bind fun o=>sel o (fun b2=>some b2) (fun c=>some true))
namespace Xcb
noncomputable def c:=Yaq (Yal Proofs.Tryz.f27) [1,1,0,1,0,0]
def sp:SP:=⟨[(0,.cs (.sl .str)),(1,.cs (.sl .str)),(5,.cs I64)],[]⟩
def fr:=Yi1 sp (fun x s=>Xcb.B x.1.1 x.1.2.1 s) (fun x=>x.1.2.2.1) fun x (oo0:(Bool⊕Unit)) _ kk0=>sel oo0 (fun bb0=>kk0 (.rt) ⟨[(4,.cs .bool bb0)],[]⟩) (fun cc0=>kk0 (.ex 0) ⟨[],[]⟩)
theorem ok:Ya5 PR 26 2 (.loop c) fr:=
 Ys4 Xg Xf h0 .no (G:=(mkG [])) .nil (L:=mkL []) (l:=[]) hT [(0,([],[]))] ([4],[]) (fun x s=>((x.1.1,x.1.2.1,s,x.1.2.2.2),x.2))
  (fun x s=>by simp only[B,mC,mB,mS,mO,mN];kernel_rfl)
end Xcb
namespace Xe2
def pts:List PT:=[.cs (.sl .str),.cs (.sl .str)]
def FS:FS:=Yc8 [.sh,.sh] pts (fun x=>Xe2 x.1 x.2.1) fun t=>⟨[.cs .bool t],[]⟩
theorem ok:Ycs PR 27 FS:=
 Ywm Xg Xf Proofs.Tryz.f27 h0 (.R (.R (.L (.R (.one (.fr 0)))))) (G:=(mkG [])) .nil (L:=mkL [(0,Xcb.fr)]) (l:=[(0,.loop Xcb.c)]) ⟨Lam.cons Xcb.ok,trivial⟩
  (fun x=>by simp only[Xe2,mC,mB,mS,mO,mN];kernel_rfl)
end Xe2
def Xcc.B (a:List Int) (b:List Int) (i_:Int):Option (Int⊕((Bool⊕Unit))):=
 cond (decide (i_<(a.length:Int))) (cond (inB i_ a.length) (cond (inB i_ b.length) (cond ((a.getD i_.toNat 0) != (b.getD i_.toNat 0)) (some (.inr (.inl false))) (some (.inl (w64 (i_+1))))) none) none) (some (.inr (.inr ())))
def Xcc (a:List Int) (b:List Int):Int→Option ((Bool⊕Unit)):=
 Yam fun s=>Xcc.B a b s
def Xe3 (a:List Int) (b:List Int):Option Bool:=
 cond ((a.length:Int) != (b.length:Int)) (some false) ((Xcc a b 0).bind fun o=>sel o (fun b2=>some b2) (fun c=>some true))
namespace Xcc
noncomputable def c:=Yaq (Yal Proofs.Tryz.f105) [1,1,0,1,0,0]
def sp:SP:=⟨[(0,.cs SI),(1,.cs SI),(5,.cs I64)],[]⟩
def fr:=Yi1 sp (fun x s=>Xcc.B x.1.1 x.1.2.1 s) (fun x=>x.1.2.2.1) fun x (oo0:(Bool⊕Unit)) _ kk0=>sel oo0 (fun bb0=>kk0 (.rt) ⟨[(4,.cs .bool bb0)],[]⟩) (fun cc0=>kk0 (.ex 0) ⟨[],[]⟩)
theorem ok:Ya5 PR 26 2 (.loop c) fr:=
 Ys4 Xg Xf h0 .no (G:=(mkG [])) .nil (L:=mkL []) (l:=[]) hT [(0,([],[]))] ([4],[]) (fun x s=>((x.1.1,x.1.2.1,s,x.1.2.2.2),x.2))
  (fun x s=>by simp only[B,mC,mB,mS,mO,mN];kernel_rfl)
end Xcc
namespace Xe3
def pts:List PT:=[.cs SI,.cs SI]
def FS:FS:=Yc8 [.sh,.sh] pts (fun x=>Xe3 x.1 x.2.1) fun t=>⟨[.cs .bool t],[]⟩
theorem ok:Ycs PR 105 FS:=
 Ywm Xg Xf Proofs.Tryz.f105 h0 (.R (.R (.L (.R (.one (.fr 0)))))) (G:=(mkG [])) .nil (L:=mkL [(0,Xcc.fr)]) (l:=[(0,.loop Xcc.c)]) ⟨Lam.cons Xcc.ok,trivial⟩
  (fun x=>by simp only[Xe3,mC,mB,mS,mO,mN];kernel_rfl)
end Xe3
def Xe4 (a:Xe) (b:Xe):Option Bool:=
 cond (!(a.1 == b.1)) (some false) (cond (a.2.1 != b.2.1) (some false) (some true))
namespace Xe4
def pts:List PT:=[.cs Xh,.cs Xh]
def FS:FS:=Yc8 [.sh,.sh] pts (fun x=>Xe4 x.1 x.2.1) fun t=>⟨[.cs .bool t],[]⟩
theorem ok:Ycs PR 131 FS:=
 Ywm Xg Xf Proofs.Tryz.f131 ⟨[2,3],[],[],0⟩ .no (G:=(mkG [])) .nil (L:=mkL []) (l:=[]) hT
  (fun x=>by simp only[Xe4,mC,mB,mS,mO,mN];kernel_rfl)
end Xe4
def Xcd.B (a:List Xe) (b:List Xe) (i_:Int):Option (Int⊕((Bool⊕Unit))):=
 cond (decide (i_<(a.length:Int))) (cond (inB i_ a.length) (cond (inB i_ b.length) ((Xe4 (a.getD i_.toNat Xj) (b.getD i_.toNat Xj)).bind fun r=>cond (!r) (some (.inr (.inl false))) (some (.inl (w64 (i_+1))))) none) none) (some (.inr (.inr ())))
def Xcd (a:List Xe) (b:List Xe):Int→Option ((Bool⊕Unit)):=
 Yam fun s=>Xcd.B a b s
def Xce (a:List Xe) (b:List Xe):Option Bool:=
 cond ((a.length:Int) != (b.length:Int)) (some false) ((Xcd a b 0).bind fun o=>sel o (fun b2=>some b2) (fun c=>some true))
namespace Xce
def G:Gam:=mkG [(131,Xe4.FS)]
theorem Gok:GOk PR G:=.cons Xe4.ok .nil
end Xce
namespace Xcd
noncomputable def c:=Yaq (Yal Proofs.Tryz.f106) [1,1,0,1,0,0]
def sp:SP:=⟨[(0,.cs (.sl Xh)),(1,.cs (.sl Xh)),(5,.cs I64)],[]⟩
def fr:=Yi1 sp (fun x s=>Xcd.B x.1.1 x.1.2.1 s) (fun x=>x.1.2.2.1) fun x (oo0:(Bool⊕Unit)) _ kk0=>sel oo0 (fun bb0=>kk0 (.rt) ⟨[(4,.cs .bool bb0)],[]⟩) (fun cc0=>kk0 (.ex 0) ⟨[],[]⟩)
theorem ok:Ya5 PR 27 2 (.loop c) fr:=
 Ys4 Xg Xf h0 .no (G:=Xce.G) Xce.Gok (L:=mkL []) (l:=[]) hT [(0,([],[]))] ([4],[]) (fun x s=>((x.1.1,x.1.2.1,s,x.1.2.2.2),x.2))
  (fun x s=>by simp only[B,mC,mB,mS,mO,mN];kernel_rfl)
end Xcd
namespace Xce
def pts:List PT:=[.cs (.sl Xh),.cs (.sl Xh)]
def FS:FS:=Yc8 [.sh,.sh] pts (fun x=>Xce x.1 x.2.1) fun t=>⟨[.cs .bool t],[]⟩
theorem ok:Ycs PR 106 FS:=
 Ywm Xg Xf Proofs.Tryz.f106 h0 (.R (.R (.L (.R (.one (.fr 0)))))) (G:=G) Gok (L:=mkL [(0,Xcd.fr)]) (l:=[(0,.loop Xcd.c)]) ⟨Lam.cons Xcd.ok,trivial⟩
  (fun x=>by simp only[Xce,mC,mB,mS,mO,mN];kernel_rfl)
end Xce
def Xe5 (a:Xb) (b:Xb):Option Bool:=
 cond (a.1 != b.1) (some false) (cond (a.2.1 != b.2.1) (some false) (cond (a.2.2.1 != b.2.2.1) (some false) ((Xe3 a.2.2.2.1 b.2.2.2.1).bind fun r=>cond (!r) (some false) ((Xce a.2.2.2.2.1 b.2.2.2.2.1).bind fun r2=>cond (!r2) (some false) (some true)))))
namespace Xe5
def G:Gam:=mkG [(105,Xe3.FS),(106,Xce.FS)]
def pts:List PT:=[.cs Xd,.cs Xd]
def FS:FS:=Yc8 [.sh,.sh] pts (fun x=>Xe5 x.1 x.2.1) fun t=>⟨[.cs .bool t],[]⟩
theorem ok:Ycs PR 60 FS:=
 Ywm Xg Xf Proofs.Tryz.f60 ⟨[2,3],[],[],0⟩ .no (G:=G) (show GOk PR G from .cons Xe3.ok (.cons Xce.ok .nil)) (L:=mkL []) (l:=[]) hT
  (fun x=>by simp only[Xe5,mC,mB,mS,mO,mN];kernel_rfl)
end Xe5
def Xcf.B (a:List Xb) (b:List Xb) (i_:Int):Option (Int⊕((Bool⊕Unit))):=
 cond (decide (i_<(a.length:Int))) (cond (inB i_ a.length) (cond (inB i_ b.length) ((Xe5 (a.getD i_.toNat Xa) (b.getD i_.toNat Xa)).bind fun r=>cond (!r) (some (.inr (.inl false))) (some (.inl (w64 (i_+1))))) none) none) (some (.inr (.inr ())))
def Xcf (a:List Xb) (b:List Xb):Int→Option ((Bool⊕Unit)):=
 Yam fun s=>Xcf.B a b s
def Xcg (a:List Xb) (b:List Xb):Option Bool:=
 cond ((a.length:Int) != (b.length:Int)) (some false) ((Xcf a b 0).bind fun o=>sel o (fun b2=>some b2) (fun c=>some true))
namespace Xcg
def G:Gam:=mkG [(60,Xe5.FS)]
theorem Gok:GOk PR G:=.cons Xe5.ok .nil
end Xcg
namespace Xcf
noncomputable def c:=Yaq (Yal Proofs.Tryz.f28) [1,1,0,1,0,0]
def sp:SP:=⟨[(0,.cs (.sl Xd)),(1,.cs (.sl Xd)),(5,.cs I64)],[]⟩
def fr:=Yi1 sp (fun x s=>Xcf.B x.1.1 x.1.2.1 s) (fun x=>x.1.2.2.1) fun x (oo0:(Bool⊕Unit)) _ kk0=>sel oo0 (fun bb0=>kk0 (.rt) ⟨[(4,.cs .bool bb0)],[]⟩) (fun cc0=>kk0 (.ex 0) ⟨[],[]⟩)
theorem ok:Ya5 PR 27 2 (.loop c) fr:=
 Ys4 Xg Xf h0 .no (G:=Xcg.G) Xcg.Gok (L:=mkL []) (l:=[]) hT [(0,([],[]))] ([4],[]) (fun x s=>((x.1.1,x.1.2.1,s,x.1.2.2.2),x.2))
  (fun x s=>by simp only[B,mC,mB,mS,mO,mN];kernel_rfl)
end Xcf
namespace Xcg
def pts:List PT:=[.cs (.sl Xd),.cs (.sl Xd)]
def FS:FS:=Yc8 [.sh,.sh] pts (fun x=>Xcg x.1 x.2.1) fun t=>⟨[.cs .bool t],[]⟩
theorem ok:Ycs PR 28 FS:=
 Ywm Xg Xf Proofs.Tryz.f28 h0 (.R (.R (.L (.R (.one (.fr 0)))))) (G:=G) Gok (L:=mkL [(0,Xcf.fr)]) (l:=[(0,.loop Xcf.c)]) ⟨Lam.cons Xcf.ok,trivial⟩
  (fun x=>by simp only[Xcg,mC,mB,mS,mO,mN];kernel_rfl)
end Xcg
def Xch.B (a:List (List Int)) (b:List (List Int)) (i_:Int):Option (Int⊕((Bool⊕Unit))):=
 cond (decide (i_<(a.length:Int))) (cond (inB i_ a.length) (cond (inB i_ b.length) ((Xdi (a.getD i_.toNat []) (b.getD i_.toNat [])).bind fun r=>cond (!r) (some (.inr (.inl false))) (some (.inl (w64 (i_+1))))) none) none) (some (.inr (.inr ())))
def Xch (a:List (List Int)) (b:List (List Int)):Int→Option ((Bool⊕Unit)):=
 Yam fun s=>Xch.B a b s
def Xci (a:List (List Int)) (b:List (List Int)):Option Bool:=
 cond ((a.length:Int) != (b.length:Int)) (some false) ((Xch a b 0).bind fun o=>sel o (fun b2=>some b2) (fun c=>some true))
namespace Xci
def G:Gam:=mkG [(26,Xdi.FS)]
theorem Gok:GOk PR G:=.cons Xdi.ok .nil
end Xci
namespace Xch
noncomputable def c:=Yaq (Yal Proofs.Tryz.f29) [1,1,0,1,0,0]
def sp:SP:=⟨[(0,.cs (.sl SB)),(1,.cs (.sl SB)),(5,.cs I64)],[]⟩
def fr:=Yi1 sp (fun x s=>Xch.B x.1.1 x.1.2.1 s) (fun x=>x.1.2.2.1) fun x (oo0:(Bool⊕Unit)) _ kk0=>sel oo0 (fun bb0=>kk0 (.rt) ⟨[(4,.cs .bool bb0)],[]⟩) (fun cc0=>kk0 (.ex 0) ⟨[],[]⟩)
theorem ok:Ya5 PR 27 2 (.loop c) fr:=
 Ys4 Xg Xf h0 .no (G:=Xci.G) Xci.Gok (L:=mkL []) (l:=[]) hT [(0,([],[]))] ([4],[]) (fun x s=>((x.1.1,x.1.2.1,s,x.1.2.2.2),x.2))
  (fun x s=>by simp only[B,mC,mB,mS,mO,mN];kernel_rfl)
end Xch
namespace Xci
def pts:List PT:=[.cs (.sl SB),.cs (.sl SB)]
def FS:FS:=Yc8 [.sh,.sh] pts (fun x=>Xci x.1 x.2.1) fun t=>⟨[.cs .bool t],[]⟩
theorem ok:Ycs PR 29 FS:=
 Ywm Xg Xf Proofs.Tryz.f29 h0 (.R (.R (.L (.R (.one (.fr 0)))))) (G:=G) Gok (L:=mkL [(0,Xch.fr)]) (l:=[(0,.loop Xch.c)]) ⟨Lam.cons Xch.ok,trivial⟩
  (fun x=>by simp only[Xci,mC,mB,mS,mO,mN];kernel_rfl)
end Xci
def Xdj (a:Fs_) (b:Fs_):Option Bool:=
 (Xcg a.1 b.1).bind fun r=>cond (!r) (some false) ((Xci a.2.1 b.2.1).bind fun r2=>cond (!r2) (some false) (some true))
namespace Xdj
def G:Gam:=mkG [(28,Xcg.FS),(29,Xci.FS)]
def pts:List PT:=[.cs Xk,.cs Xk]
def FS:FS:=Yc8 [.sh,.sh] pts (fun x=>Xdj x.1 x.2.1) fun t=>⟨[.cs .bool t],[]⟩
theorem ok:Ycs PR 10 FS:=
 Ywm Xg Xf Proofs.Tryz.f10 ⟨[2,3],[],[],0⟩ .no (G:=G) (show GOk PR G from .cons Xcg.ok (.cons Xci.ok .nil)) (L:=mkL []) (l:=[]) hT
  (fun x=>by simp only[Xdj,mC,mB,mS,mO,mN];kernel_rfl)
end Xdj
def Xdv (a:Xq) (b:Xq):Option Bool:=
 cond (a.1 != b.1) (some false) (cond (a.2.1 != b.2.1) (some false) (cond (a.2.2.1 != b.2.2.1) (some false) ((Xdi a.2.2.2.1 b.2.2.2.1).bind fun r=>cond (!r) (some false) ((Xe2 a.2.2.2.2.1 b.2.2.2.2.1).bind fun r2=>cond (!r2) (some false) ((Xdj a.2.2.2.2.2.1 b.2.2.2.2.2.1).bind fun r3=>cond (!r3) (some false) (some true))))))
namespace Xdv
def G:Gam:=mkG [(26,Xdi.FS),(27,Xe2.FS),(10,Xdj.FS)]
def pts:List PT:=[.cs Xi,.cs Xi]
def FS:FS:=Yc8 [.sh,.sh] pts (fun x=>Xdv x.1 x.2.1) fun t=>⟨[.cs .bool t],[]⟩
theorem ok:Ycs PR 9 FS:=
 Ywm Xg Xf Proofs.Tryz.f9 ⟨[2,3],[],[],0⟩ .no (G:=G) (show GOk PR G from .cons Xdi.ok (.cons Xe2.ok (.cons Xdj.ok .nil))) (L:=mkL []) (l:=[]) hT
  (fun x=>by simp only[Xdv,mC,mB,mS,mO,mN];kernel_rfl)
end Xdv
def Xa5.B (k_:Int) (i_:Int) (a_:List Int):Option ((Int×Int×List Int)⊕(Int×List Int)):=
 cond (decide (i_<(a_.length:Int))) (cond (inB i_ a_.length) (some (.inl (w64 (k_+1),w64 (i_+1),a_.set i_.toNat k_))) none) (some (.inr (k_,a_)))
def Xa5 :(Int×Int×List Int)→Option (Int×List Int):=
 Yam fun s=>Xa5.B s.1 s.2.1 s.2.2
def Xe6 (a:List Int) (k:Int):Option (Int×List Int):=
 (Xa5 (k,0,a)).bind fun o=>some (o.1,o.2)
namespace Xa5
noncomputable def c:=Yaq (Yal Proofs.Tryz.f61) [1,0,1,0,0]
def sp:SP:=⟨[(0,.seg 0 []),(1,.cs I64),(5,.cs I64)],[(0,.reg,.cd SI)]⟩
def fr:=Yi1 sp (fun x s=>Xa5.B  s.1 s.2.1 s.2.2) (fun x=>(x.1.2.1,x.1.2.2.1,x.2.1)) fun x (bb0:Int×List Int) _ kk0=>kk0 (.ex 0) ⟨[(1,.cs I64 bb0.1)],[sr 0 (.cd SI bb0.2)]⟩
theorem ok:Ya5 PR 19 2 (.loop c) fr:=
 Ywg Xg Xf h0 [(0,([1],[0]))] (fun x s=>((x.1.1,s.1,s.2.1,x.1.2.2.2),(s.2.2,x.2.2)))
  (fun x s=>by simp only[B,mC,mB,mS,mO,mN];kernel_rfl)
end Xa5
namespace Xe6
def pts:List PT:=[.cd SI,.cs I64]
def FS:FS:=Yc8 [.mu,.sh] pts (fun x=>Xe6 x.1 x.2.1) fun t=>⟨[.cs I64 t.1],[.cd SI t.2]⟩
theorem ok:Ycs PR 61 FS:=
 Ywm Xg Xf Proofs.Tryz.f61 h0 (.R (.L (.R (.one (.fr 0))))) (G:=(mkG [])) .nil (L:=mkL [(0,Xa5.fr)]) (l:=[(0,.loop Xa5.c)]) ⟨Lam.cons Xa5.ok,trivial⟩
  (fun x=>by simp only[Xe6,mC,mB,mS,mO,mN];kernel_rfl)
end Xe6
def Xcj.B (k_:Int) (out_:List UInt8):Option ((Int×List UInt8)⊕(List UInt8)):=
 cond (decide (k_>0)) (cond (!((10:Int) == 0)) ((some (IntKind.u8.wrap (w64 ((48:Int)+(k_.tmod 10))))).bind fun v=>cond (decide ((([v]).map fun n=>UInt8.ofNat n.toNat).length+out_.length≤2147483648)) (cond (!((10:Int) == 0)) (some (.inl (w64 (k_.tdiv 10),(([v]).map fun n=>UInt8.ofNat n.toNat)++out_))) none) none) none) (some (.inr out_))
def Xcj :(Int×List UInt8)→Option (List UInt8):=
 Yam fun s=>Xcj.B s.1 s.2
def Xai (k:Int):Option (List UInt8):=
 cond (decide (k≤0)) (some ([109,48]:List UInt8)) ((Xcj (k,([]:List UInt8))).bind fun o=>cond (decide (([109]:List UInt8).length+o.length≤2147483648)) (some (([109]:List UInt8)++o)) none)
namespace Xcj
noncomputable def c:=Yaq (Yal Proofs.Tryz.f63) [1,1,1,0,0,0]
def sp:SP:=⟨[(0,.cs I64),(3,.cs .str)],[]⟩
def fr:=Yi1 sp (fun x s=>Xcj.B  s.1 s.2) (fun x=>(x.1.1,x.1.2.1)) fun x (bb0:List UInt8) _ kk0=>kk0 (.ex 0) ⟨[(3,.cs .str bb0)],[]⟩
theorem ok:Ya5 PR 20 1 (.loop c) fr:=
 Ywg Xg Xf h0 [(0,([3],[]))] (fun x s=>((s.1,s.2,x.1.2.2),x.2))
  (fun x s=>by simp only[B,mC,mB,mS,mO,mN];kernel_rfl)
end Xcj
namespace Xai
def pts:List PT:=[.cs I64]
def FS:FS:=Yc8 [.sh] pts (fun x=>Xai x.1) fun t=>⟨[.cs .str t],[]⟩
theorem ok:Ycs PR 63 FS:=
 Ywm Xg Xf Proofs.Tryz.f63 h0 (.R (.R (.R (.L (.one (.fr 0)))))) (G:=(mkG [])) .nil (L:=mkL [(0,Xcj.fr)]) (l:=[(0,.loop Xcj.c)]) ⟨Lam.cons Xcj.ok,trivial⟩
  (fun x=>by simp only[Xai,mC,mB,mS,mO,mN];kernel_rfl)
end Xai
def Xa6.B (k_:Int) (i_:Int) (a_:List Xe):Option ((Int×Int×List Xe)⊕(Int×List Xe)):=
 cond (decide (i_<(a_.length:Int))) ((Xai k_).bind fun r=>cond (inB i_ a_.length) ((some (a_.set i_.toNat (r,(a_.getD i_.toNat Xj).2))).bind fun a_2=>cond (inB i_ a_2.length) ((some (a_2.set i_.toNat ((a_2.getD i_.toNat Xj).1,w64 (k_+1),(a_2.getD i_.toNat Xj).2.2))).bind fun a_3=>some (.inl (w64 ((w64 (k_+1))+1),w64 (i_+1),a_3))) none) none) (some (.inr (k_,a_)))
def Xa6 :(Int×Int×List Xe)→Option (Int×List Xe):=
 Yam fun s=>Xa6.B s.1 s.2.1 s.2.2
def Xck (a:List Xe) (k:Int):Option (Int×List Xe):=
 (Xa6 (k,0,a)).bind fun o=>some (o.1,o.2)
namespace Xck
def G:Gam:=mkG [(63,Xai.FS)]
theorem Gok:GOk PR G:=.cons Xai.ok .nil
end Xck
namespace Xa6
noncomputable def c:=Yaq (Yal Proofs.Tryz.f62) [1,0,1,0,0]
def sp:SP:=⟨[(0,.seg 0 []),(1,.cs I64),(5,.cs I64)],[(0,.reg,.cd (.sl Xh))]⟩
def fr:=Yi1 sp (fun x s=>Xa6.B  s.1 s.2.1 s.2.2) (fun x=>(x.1.2.1,x.1.2.2.1,x.2.1)) fun x (bb0:Int×List Xe) _ kk0=>kk0 (.ex 0) ⟨[(1,.cs I64 bb0.1)],[sr 0 (.cd (.sl Xh) bb0.2)]⟩
theorem ok:Ya5 PR 28 2 (.loop c) fr:=
 Ywo Xg Xf h0 (G:=Xck.G) Xck.Gok [(0,([1],[0]))] (fun x s=>((x.1.1,s.1,s.2.1,x.1.2.2.2),(s.2.2,x.2.2)))
  (fun x s=>by simp only[B,mC,mB,mS,mO,mN];kernel_rfl)
end Xa6
namespace Xck
def pts:List PT:=[.cd (.sl Xh),.cs I64]
def FS:FS:=Yc8 [.mu,.sh] pts (fun x=>Xck x.1 x.2.1) fun t=>⟨[.cs I64 t.1],[.cd (.sl Xh) t.2]⟩
theorem ok:Ycs PR 62 FS:=
 Ywm Xg Xf Proofs.Tryz.f62 h0 (.R (.L (.R (.one (.fr 0))))) (G:=G) Gok (L:=mkL [(0,Xa6.fr)]) (l:=[(0,.loop Xa6.c)]) ⟨Lam.cons Xa6.ok,trivial⟩
  (fun x=>by simp only[Xck,mC,mB,mS,mO,mN];kernel_rfl)
end Xck
def Xa7.B (k_:Int) (i_:Int) (a_:List Xb):Option ((Int×Int×List Xb)⊕(Int×List Xb)):=
 cond (decide (i_<(a_.length:Int))) (cond (inB i_ a_.length) ((some (a_.set i_.toNat (k_,(a_.getD i_.toNat Xa).2))).bind fun a_2=>cond (inB i_ a_2.length) ((some (a_2.set i_.toNat ((a_2.getD i_.toNat Xa).1,w64 (k_+1),(a_2.getD i_.toNat Xa).2.2))).bind fun a_3=>cond (inB i_ a_3.length) ((some (a_3.set i_.toNat ((a_3.getD i_.toNat Xa).1,(a_3.getD i_.toNat Xa).2.1,w64 ((w64 (k_+1))+1),(a_3.getD i_.toNat Xa).2.2.2))).bind fun a_4=>cond (inB i_ a_4.length) ((Xe6 (a_4.getD i_.toNat Xa).2.2.2.1 (w64 ((w64 ((w64 (k_+1))+1))+1))).bind fun r=>cond (inB i_ ((a_4.set i_.toNat ((a_4.getD i_.toNat Xa).1,(a_4.getD i_.toNat Xa).2.1,(a_4.getD i_.toNat Xa).2.2.1,r.2,(a_4.getD i_.toNat Xa).2.2.2.2)).length)) ((Xck ((a_4.set i_.toNat ((a_4.getD i_.toNat Xa).1,(a_4.getD i_.toNat Xa).2.1,(a_4.getD i_.toNat Xa).2.2.1,r.2,(a_4.getD i_.toNat Xa).2.2.2.2)).getD i_.toNat Xa).2.2.2.2.1 r.1).bind fun r2=>some (.inl (r2.1,w64 (i_+1),(a_4.set i_.toNat ((a_4.getD i_.toNat Xa).1,(a_4.getD i_.toNat Xa).2.1,(a_4.getD i_.toNat Xa).2.2.1,r.2,(a_4.getD i_.toNat Xa).2.2.2.2)).set i_.toNat (((a_4.set i_.toNat ((a_4.getD i_.toNat Xa).1,(a_4.getD i_.toNat Xa).2.1,(a_4.getD i_.toNat Xa).2.2.1,r.2,(a_4.getD i_.toNat Xa).2.2.2.2)).getD i_.toNat Xa).1,((a_4.set i_.toNat ((a_4.getD i_.toNat Xa).1,(a_4.getD i_.toNat Xa).2.1,(a_4.getD i_.toNat Xa).2.2.1,r.2,(a_4.getD i_.toNat Xa).2.2.2.2)).getD i_.toNat Xa).2.1,((a_4.set i_.toNat ((a_4.getD i_.toNat Xa).1,(a_4.getD i_.toNat Xa).2.1,(a_4.getD i_.toNat Xa).2.2.1,r.2,(a_4.getD i_.toNat Xa).2.2.2.2)).getD i_.toNat Xa).2.2.1,((a_4.set i_.toNat ((a_4.getD i_.toNat Xa).1,(a_4.getD i_.toNat Xa).2.1,(a_4.getD i_.toNat Xa).2.2.1,r.2,(a_4.getD i_.toNat Xa).2.2.2.2)).getD i_.toNat Xa).2.2.2.1,r2.2,((a_4.set i_.toNat ((a_4.getD i_.toNat Xa).1,(a_4.getD i_.toNat Xa).2.1,(a_4.getD i_.toNat Xa).2.2.1,r.2,(a_4.getD i_.toNat Xa).2.2.2.2)).getD i_.toNat Xa).2.2.2.2.2)))) none) none) none) none) none) (some (.inr (k_,a_)))
def Xa7 :(Int×Int×List Xb)→Option (Int×List Xb):=
 Yam fun s=>Xa7.B s.1 s.2.1 s.2.2
def Xcl (a:List Xb) (k:Int):Option (Int×List Xb):=
 (Xa7 (k,0,a)).bind fun o=>some (o.1,o.2)
namespace Xcl
def G:Gam:=mkG [(61,Xe6.FS),(62,Xck.FS)]
theorem Gok:GOk PR G:=.cons Xe6.ok (.cons Xck.ok .nil)
end Xcl
namespace Xa7
noncomputable def c:=Yaq (Yal Proofs.Tryz.f30) [1,0,1,0,0]
def sp:SP:=⟨[(0,.seg 0 []),(1,.cs I64),(5,.cs I64)],[(0,.reg,.cd (.sl Xd))]⟩
def fr:=Yi1 sp (fun x s=>Xa7.B  s.1 s.2.1 s.2.2) (fun x=>(x.1.2.1,x.1.2.2.1,x.2.1)) fun x (bb0:Int×List Xb) _ kk0=>kk0 (.ex 0) ⟨[(1,.cs I64 bb0.1)],[sr 0 (.cd (.sl Xd) bb0.2)]⟩
theorem ok:Ya5 PR 48 2 (.loop c) fr:=
 Ywo Xg Xf h0 (G:=Xcl.G) Xcl.Gok [(0,([1],[0]))] (fun x s=>((x.1.1,s.1,s.2.1,x.1.2.2.2),(s.2.2,x.2.2)))
  (fun x s=>by simp only[B,mC,mB,mS,mO,mN];kernel_rfl)
end Xa7
namespace Xcl
def pts:List PT:=[.cd (.sl Xd),.cs I64]
def FS:FS:=Yc8 [.mu,.sh] pts (fun x=>Xcl x.1 x.2.1) fun t=>⟨[.cs I64 t.1],[.cd (.sl Xd) t.2]⟩
theorem ok:Ycs PR 30 FS:=
 Ywm Xg Xf Proofs.Tryz.f30 h0 (.R (.L (.R (.one (.fr 0))))) (G:=G) Gok (L:=mkL [(0,Xa7.fr)]) (l:=[(0,.loop Xa7.c)]) ⟨Lam.cons Xa7.ok,trivial⟩
  (fun x=>by simp only[Xcl,mC,mB,mS,mO,mN];kernel_rfl)
end Xcl
def Xa8.B (k_:Int) (i_:Int) (a_:List Int):Option ((Int×Int×List Int)⊕(Int×List Int)):=
 cond (decide (i_<(a_.length:Int))) (cond (inB i_ a_.length) (some (.inl (w64 (k_+1),w64 (i_+1),a_.set i_.toNat (IntKind.u8.wrap k_)))) none) (some (.inr (k_,a_)))
def Xa8 :(Int×Int×List Int)→Option (Int×List Int):=
 Yam fun s=>Xa8.B s.1 s.2.1 s.2.2
def Xdk (a:List Int) (k:Int):Option (Int×List Int):=
 (Xa8 (k,0,a)).bind fun o=>some (o.1,o.2)
namespace Xa8
noncomputable def c:=Yaq (Yal Proofs.Tryz.f32) [1,0,1,0,0]
def sp:SP:=⟨[(0,.seg 0 []),(1,.cs I64),(5,.cs I64)],[(0,.reg,.cd SB)]⟩
def fr:=Yi1 sp (fun x s=>Xa8.B  s.1 s.2.1 s.2.2) (fun x=>(x.1.2.1,x.1.2.2.1,x.2.1)) fun x (bb0:Int×List Int) _ kk0=>kk0 (.ex 0) ⟨[(1,.cs I64 bb0.1)],[sr 0 (.cd SB bb0.2)]⟩
theorem ok:Ya5 PR 20 2 (.loop c) fr:=
 Ywg Xg Xf h0 [(0,([1],[0]))] (fun x s=>((x.1.1,s.1,s.2.1,x.1.2.2.2),(s.2.2,x.2.2)))
  (fun x s=>by simp only[B,mC,mB,mS,mO,mN];kernel_rfl)
end Xa8
namespace Xdk
def pts:List PT:=[.cd SB,.cs I64]
def FS:FS:=Yc8 [.mu,.sh] pts (fun x=>Xdk x.1 x.2.1) fun t=>⟨[.cs I64 t.1],[.cd SB t.2]⟩
theorem ok:Ycs PR 32 FS:=
 Ywm Xg Xf Proofs.Tryz.f32 h0 (.R (.L (.R (.one (.fr 0))))) (G:=(mkG [])) .nil (L:=mkL [(0,Xa8.fr)]) (l:=[(0,.loop Xa8.c)]) ⟨Lam.cons Xa8.ok,trivial⟩
  (fun x=>by simp only[Xdk,mC,mB,mS,mO,mN];kernel_rfl)
end Xdk
def Xa9.B (k_:Int) (i_:Int) (a_:List (List Int)):Option ((Int×Int×List (List Int))⊕(Int×List (List Int))):=
 cond (decide (i_<(a_.length:Int))) (cond (inB i_ a_.length) ((Xdk (a_.getD i_.toNat []) k_).bind fun r=>some (.inl (r.1,w64 (i_+1),a_.set i_.toNat r.2))) none) (some (.inr (k_,a_)))
def Xa9 :(Int×Int×List (List Int))→Option (Int×List (List Int)):=
 Yam fun s=>Xa9.B s.1 s.2.1 s.2.2
def Xcm (a:List (List Int)) (k:Int):Option (Int×List (List Int)):=
 (Xa9 (k,0,a)).bind fun o=>some (o.1,o.2)
namespace Xcm
def G:Gam:=mkG [(32,Xdk.FS)]
theorem Gok:GOk PR G:=.cons Xdk.ok .nil
end Xcm
namespace Xa9
noncomputable def c:=Yaq (Yal Proofs.Tryz.f31) [1,0,1,0,0]
def sp:SP:=⟨[(0,.seg 0 []),(1,.cs I64),(5,.cs I64)],[(0,.reg,.cd (.sl SB))]⟩
def fr:=Yi1 sp (fun x s=>Xa9.B  s.1 s.2.1 s.2.2) (fun x=>(x.1.2.1,x.1.2.2.1,x.2.1)) fun x (bb0:Int×List (List Int)) _ kk0=>kk0 (.ex 0) ⟨[(1,.cs I64 bb0.1)],[sr 0 (.cd (.sl SB) bb0.2)]⟩
theorem ok:Ya5 PR 19 2 (.loop c) fr:=
 Ywo Xg Xf h0 (G:=Xcm.G) Xcm.Gok [(0,([1],[0]))] (fun x s=>((x.1.1,s.1,s.2.1,x.1.2.2.2),(s.2.2,x.2.2)))
  (fun x s=>by simp only[B,mC,mB,mS,mO,mN];kernel_rfl)
end Xa9
namespace Xcm
def pts:List PT:=[.cd (.sl SB),.cs I64]
def FS:FS:=Yc8 [.mu,.sh] pts (fun x=>Xcm x.1 x.2.1) fun t=>⟨[.cs I64 t.1],[.cd (.sl SB) t.2]⟩
theorem ok:Ycs PR 31 FS:=
 Ywm Xg Xf Proofs.Tryz.f31 h0 (.R (.L (.R (.one (.fr 0))))) (G:=G) Gok (L:=mkL [(0,Xa9.fr)]) (l:=[(0,.loop Xa9.c)]) ⟨Lam.cons Xa9.ok,trivial⟩
  (fun x=>by simp only[Xcm,mC,mB,mS,mO,mN];kernel_rfl)
end Xcm
def Xcn (a:Fs_) (k:Int):Option (Int×Fs_):=
 (Xcl a.1 k).bind fun r=>(Xcm a.2.1 r.1).bind fun r2=>some (r2.1,(r.2,r2.2,a.2.2))
namespace Xcn
def G:Gam:=mkG [(30,Xcl.FS),(31,Xcm.FS)]
def pts:List PT:=[.cd Xk,.cs I64]
def FS:FS:=Yc8 [.mu,.sh] pts (fun x=>Xcn x.1 x.2.1) fun t=>⟨[.cs I64 t.1],[.cd Xk t.2]⟩
theorem ok:Ycs PR 11 FS:=
 Ywm Xg Xf Proofs.Tryz.f11 ⟨[2],[],[],0⟩ .no (G:=G) (show GOk PR G from .cons Xcl.ok (.cons Xcm.ok .nil)) (L:=mkL []) (l:=[]) hT
  (fun x=>by simp only[Xcn,mC,mB,mS,mO,mN];kernel_rfl)
end Xcn
def Xba.B (k_:Int) (i_:Int) (a_:List (List UInt8)):Option ((Int×Int×List (List UInt8))⊕(Int×List (List UInt8))):=
 cond (decide (i_<(a_.length:Int))) ((Xai k_).bind fun r=>cond (inB i_ a_.length) (some (.inl (w64 (k_+1),w64 (i_+1),a_.set i_.toNat r))) none) (some (.inr (k_,a_)))
def Xba :(Int×Int×List (List UInt8))→Option (Int×List (List UInt8)):=
 Yam fun s=>Xba.B s.1 s.2.1 s.2.2
def Xco (a:List (List UInt8)) (k:Int):Option (Int×List (List UInt8)):=
 (Xba (k,0,a)).bind fun o=>some (o.1,o.2)
namespace Xco
def G:Gam:=mkG [(63,Xai.FS)]
theorem Gok:GOk PR G:=.cons Xai.ok .nil
end Xco
namespace Xba
noncomputable def c:=Yaq (Yal Proofs.Tryz.f33) [1,0,1,0,0]
def sp:SP:=⟨[(0,.seg 0 []),(1,.cs I64),(5,.cs I64)],[(0,.reg,.cd (.sl .str))]⟩
def fr:=Yi1 sp (fun x s=>Xba.B  s.1 s.2.1 s.2.2) (fun x=>(x.1.2.1,x.1.2.2.1,x.2.1)) fun x (bb0:Int×List (List UInt8)) _ kk0=>kk0 (.ex 0) ⟨[(1,.cs I64 bb0.1)],[sr 0 (.cd (.sl .str) bb0.2)]⟩
theorem ok:Ya5 PR 20 2 (.loop c) fr:=
 Ywo Xg Xf h0 (G:=Xco.G) Xco.Gok [(0,([1],[0]))] (fun x s=>((x.1.1,s.1,s.2.1,x.1.2.2.2),(s.2.2,x.2.2)))
  (fun x s=>by simp only[B,mC,mB,mS,mO,mN];kernel_rfl)
end Xba
namespace Xco
def pts:List PT:=[.cd (.sl .str),.cs I64]
def FS:FS:=Yc8 [.mu,.sh] pts (fun x=>Xco x.1 x.2.1) fun t=>⟨[.cs I64 t.1],[.cd (.sl .str) t.2]⟩
theorem ok:Ycs PR 33 FS:=
 Ywm Xg Xf Proofs.Tryz.f33 h0 (.R (.L (.R (.one (.fr 0))))) (G:=G) Gok (L:=mkL [(0,Xba.fr)]) (l:=[(0,.loop Xba.c)]) ⟨Lam.cons Xba.ok,trivial⟩
  (fun x=>by simp only[Xco,mC,mB,mS,mO,mN];kernel_rfl)
end Xco
end Mf
