import Derived.Test.YtbfbhdehdgnkjaaGreatDoorMf4
import Derived.Test.YtbfbhdehdgnkjaaGreatDoorPathOfJ
import Derived.Test.YtbfbhdehdgnkjaaGreatDoorProg
import Derived.KernelRfl
import Derived.Shelf.SortM.Plain
import Derived.Shelf.SortM.SortNone
import Derived.Shelf.SlGeneric
import Derived.Ground.SlgmProg
set_option linter.unusedVariables false
set_option linter.unusedSimpArgs false
namespace Go.Proofs
open Go.Shelf
def Tryz.Xhh:Go.Shelf.Ren:=⟨fun | 5=>76 | 8=>91 | 7=>90 | 19=>111 | 20=>112 | 10=>102 | 11=>103 | 12=>104 | 13=>105 | 14=>106 | 15=>107 | 16=>108 | 17=>109 | 18=>110 | 30=>123 | 31=>124 | 32=>125 | 33=>126 | 34=>127 | 35=>128 | 40=>136 | n=>n,fun | 23=>56 | 25=>2 | 3=>3 | 32=>118 | 22=>56 | 0=>0 | 44=>135 | 46=>137 | 4=>4 | 36=>127 | 35=>126 | 41=>132 | 5=>5 | 9=>9 | 53=>151 | 57=>155 | 63=>163 | 64=>164 | n=>n,fun | n=>n⟩
theorem Tryz.Xht:Go.Proofs.SlLaysM.n5 Tryz.prog Tryz.Xhh:={
 mixed:=by kernel_rfl
 f5:=⟨Tryz.f76.name,by decide,Tryz.func76.trans (congrArg some (by kernel_rfl))⟩
 f7:=⟨Tryz.f90.name,by decide,Tryz.func90.trans (congrArg some (by kernel_rfl))⟩
 f8:=Tryz.func91.trans (congrArg some (by kernel_rfl))
 f10:=⟨Tryz.f102.name,by decide,Tryz.func102.trans (congrArg some (by kernel_rfl))⟩
 f11:=⟨Tryz.f103.name,by decide,Tryz.func103.trans (congrArg some (by kernel_rfl))⟩
 f12:=⟨Tryz.f104.name,by decide,Tryz.func104.trans (congrArg some (by kernel_rfl))⟩
 f13:=⟨Tryz.f105.name,by decide,Tryz.func105.trans (congrArg some (by kernel_rfl))⟩
 f14:=⟨Tryz.f106.name,by decide,Tryz.func106.trans (congrArg some (by kernel_rfl))⟩
 f15:=⟨Tryz.f107.name,by decide,Tryz.func107.trans (congrArg some (by kernel_rfl))⟩
 f16:=⟨Tryz.f108.name,by decide,Tryz.func108.trans (congrArg some (by kernel_rfl))⟩
 f17:=⟨Tryz.f109.name,by decide,Tryz.func109.trans (congrArg some (by kernel_rfl))⟩
 f18:=⟨Tryz.f110.name,by decide,Tryz.func110.trans (congrArg some (by kernel_rfl))⟩
 f19:=Tryz.func111.trans (congrArg some (by kernel_rfl))
 f20:=Tryz.func112.trans (congrArg some (by kernel_rfl))
 f30:=⟨Tryz.f123.name,by decide,Tryz.func123.trans (congrArg some (by kernel_rfl))⟩
 f31:=Tryz.func124.trans (congrArg some (by kernel_rfl))
 f32:=Tryz.func125.trans (congrArg some (by kernel_rfl))
 f33:=⟨Tryz.f126.name,by decide,Tryz.func126.trans (congrArg some (by kernel_rfl))⟩
 f34:=⟨Tryz.f127.name,by decide,Tryz.func127.trans (congrArg some (by kernel_rfl))⟩
 f35:=⟨Tryz.f128.name,by decide,Tryz.func128.trans (congrArg some (by kernel_rfl))⟩
 f40:=⟨Tryz.f136.name,by decide,Tryz.func136.trans (congrArg some (by kernel_rfl))⟩
 t0:=Tryz.underlying0
 a0:=Tryz.isAgg0
 z0:=Tryz.sizeOf0
 v0:=Tryz.zeroValue0
 t3:=Tryz.underlying3
 a3:=Tryz.isAgg3
 z3:=Tryz.sizeOf3
 v3:=Tryz.zeroValue3
 t4:=Tryz.underlying4
 a4:=Tryz.isAgg4
 z4:=Tryz.sizeOf4
 v4:=Tryz.zeroValue4
 t5:=Tryz.underlying5
 a5:=Tryz.isAgg5
 z5:=Tryz.sizeOf5
 v5:=Tryz.zeroValue5
 t9:=Tryz.underlying9
 a9:=Tryz.isAgg9
 z9:=Tryz.sizeOf9
 v9:=Tryz.zeroValue9
 t22:=Tryz.underlying56
 a22:=Tryz.isAgg56
 z22:=Tryz.sizeOf56
 v22:=Tryz.zeroValue56
 t23:=Tryz.underlying56
 a23:=Tryz.isAgg56
 z23:=Tryz.sizeOf56
 v23:=Tryz.zeroValue56
 t25:=Tryz.underlying2
 a25:=Tryz.isAgg2
 z25:=Tryz.sizeOf2
 v25:=Tryz.zeroValue2
 t32:=Tryz.underlying118
 a32:=Tryz.isAgg118
 z32:=Tryz.sizeOf118
 v32:=Tryz.zeroValue118
 t35:=Tryz.underlying126
 a35:=Tryz.isAgg126
 z35:=Tryz.sizeOf126
 v35:=Tryz.zeroValue126
 t36:=Tryz.underlying127
 a36:=Tryz.isAgg127
 z36:=Tryz.sizeOf127
 v36:=Tryz.zeroValue127
 t41:=Tryz.underlying132
 a41:=Tryz.isAgg132
 z41:=Tryz.sizeOf132
 v41:=Tryz.zeroValue132
 t44:=Tryz.underlying135
 a44:=Tryz.isAgg135
 z44:=Tryz.sizeOf135
 v44:=Tryz.zeroValue135
 t46:=Tryz.underlying137
 a46:=Tryz.isAgg137
 z46:=Tryz.sizeOf137
 v46:=Tryz.zeroValue137
 t53:=Tryz.underlying151
 a53:=Tryz.isAgg151
 z53:=Tryz.sizeOf151
 v53:=Tryz.zeroValue151
 t57:=Tryz.underlying155
 a57:=Tryz.isAgg155
 z57:=Tryz.sizeOf155
 v57:=Tryz.zeroValue155
 t63:=Tryz.underlying163
 a63:=Tryz.isAgg163
 z63:=Tryz.sizeOf163
 v63:=Tryz.zeroValue163
 t64:=Tryz.underlying164
 a64:=Tryz.isAgg164
 z64:=Tryz.sizeOf164
 v64:=Tryz.zeroValue164 }
end Go.Proofs
noncomputable section
namespace Mf
open Go
set_option maxRecDepth 100000
abbrev Xl:Ty:=(.pair .str (.pair (.int .i64) .unit))
abbrev Xf:Type:=(List UInt8)×Int×Unit
def Xm:Xf:=([],0,())
abbrev Xb:Ty:=(.pair (.int .i64) (.pair (.int .i64) (.pair (.int .i64) (.pair (.sl (.int .i64)) (.pair (.sl Xl) .unit)))))
abbrev Xa:Type:=Int×Int×Int×(List Int)×(List Xf)×Unit
def Xc:Xa:=(0,0,0,[],[],())
abbrev Xn:Ty:=(.pair (.sl Xb) (.pair (.sl (.sl (.int .u8))) .unit))
abbrev Fs_:Type:=(List Xa)×(List (List Int))×Unit
def Xky:Fs_:=([],[],())
abbrev Xq:Ty:=(.pair (.int .i64) (.pair .str .unit))
abbrev Xr:Type:=Int×(List UInt8)×Unit
def Xid:Xr:=(0,[],())
abbrev Xaz:Ty:=(.pair (.int .u8) (.pair (.int .u8) .unit))
abbrev Xga:Type:=Int×Int×Unit
def Xh9:Xga:=(0,0,())
abbrev Xco:Ty:=(.pair (.int .i64) (.pair (.int .i64) (.pair .bool (.pair (.int .u8) .unit))))
abbrev Xgb:Type:=Int×Int×Bool×Int×Unit
def Xia:Xgb:=(0,0,false,0,())
abbrev Xaj:Ty:=(.pair .str (.pair (.int .u64) .unit))
abbrev Xci:Type:=(List UInt8)×Int×Unit
def Xhj:Xci:=([],0,())
abbrev PR:Program:=Go.Proofs.Tryz.prog
def tb:Tb:=[(2,⟨.int .i64,(.int .i64),8⟩),(3,⟨.int .i64,(.int .i64),8⟩),(4,⟨.bool,.bool,1⟩),(5,⟨.int .u8,(.int .u8),1⟩),(6,⟨.int .u8,(.int .u8),1⟩),(7,⟨.st [0,1,2,3],Xco,24⟩),(8,⟨.st [0,1,2,3],Xco,24⟩),(9,⟨.str,.str,16⟩),(10,⟨.str,.str,16⟩),(11,⟨.str,.str,16⟩),(12,⟨.int .u64,(.int .u64),8⟩),(13,⟨.st [0,1],Xaj,24⟩),(14,⟨.st [0,1],Xaj,24⟩),(21,⟨.int .i32,(.int .i32),4⟩),(22,⟨.sl 63,(.sl Xb),24⟩),(23,⟨.sl 65,(.sl (.sl (.int .u8))),24⟩),(24,⟨.st [0,1],Xn,48⟩),(25,⟨.st [0,1],Xn,48⟩),(27,⟨.st [0,1],Xq,24⟩),(28,⟨.st [0,1],Xq,24⟩),(30,⟨.sl 59,(.sl Xb),24⟩),(31,⟨.st [0,1],Xn,48⟩),(32,⟨.st [0,1],Xn,48⟩),(42,⟨.sl 9,(.sl .str),24⟩),(56,⟨.sl 2,(.sl (.int .i64)),24⟩),(57,⟨.sl 70,(.sl Xl),24⟩),(58,⟨.st [0,1,2,3,4],Xb,72⟩),(59,⟨.st [0,1,2,3,4],Xb,72⟩),(61,⟨.sl 102,(.sl Xl),24⟩),(62,⟨.st [0,1,2,3,4],Xb,72⟩),(63,⟨.st [0,1,2,3,4],Xb,72⟩),(65,⟨.sl 5,(.sl (.int .u8)),24⟩),(69,⟨.st [0,1],Xl,24⟩),(70,⟨.st [0,1],Xl,24⟩),(92,⟨.arr 20 2,(.arr 20 (.int .i64)),160⟩),(102,⟨.st [0,1],Xl,24⟩),(104,⟨.sl 4,(.sl .bool),24⟩),(118,⟨.int .u64,(.int .u64),8⟩),(119,⟨.sl 42,(.sl (.sl .str)),24⟩),(126,⟨.int .i64,(.int .i64),8⟩),(135,⟨.int .u32,(.int .u32),4⟩),(137,⟨.int .u64,(.int .u64),8⟩),(151,⟨.int .u64,(.int .u64),8⟩),(170,⟨.arr 256 5,(.arr 256 (.int .u8)),256⟩),(171,⟨.st [0,1],Xaz,2⟩),(172,⟨.st [0,1],Xaz,2⟩),(173,⟨.arr 16 172,(.arr 16 Xaz),32⟩),(182,⟨.int .u8,(.int .u8),1⟩),(183,⟨.int .u8,(.int .u8),1⟩),(185,⟨.int .i32,(.int .i32),4⟩),(186,⟨.int .i32,(.int .i32),4⟩)]
theorem Xe:Yag Go.Proofs.Tryz.prog tb:=Yve (by kernel_rfl)
theorem Xd:Go.Proofs.Tryz.prog.follows .mixedOrders=true:=by kernel_rfl
def Zq0 (a:List Int) (left:Int):Option Int:=
 cond (decide ((w64 (left-(a.length:Int)))<0)) (some (-1)) (some (w64 (left-(a.length:Int))))
namespace Zq0
def pts:List PT:=[.cs SI,.cs I64]
def FS:FS:=Yc6 [.sh,.sh] pts (fun x=>Zq0 x.1 x.2.1) fun t=>⟨[.cs I64 t],[]⟩
theorem ok:Ycv PR 48 FS:=
 Yvf Xe Xd Proofs.Tryz.f48 h0 .no (G:=(mkG [])) .nil (L:=mkL []) (l:=[]) hT
  (fun x=>by simp only[Zq0,mC,mB,mS,mO,mN];kernel_rfl)
end Zq0
def Zq1 (a:Xf) (left:Int):Option Int:=
 cond (decide ((w64 (left-(a.1.length:Int)))<0)) (some (-1)) (some (w64 (left-(a.1.length:Int))))
namespace Zq1
def pts:List PT:=[.cs Xl,.cs I64]
def FS:FS:=Yc6 [.sh,.sh] pts (fun x=>Zq1 x.1 x.2.1) fun t=>⟨[.cs I64 t],[]⟩
theorem ok:Ycv PR 70 FS:=
 Yvf Xe Xd Proofs.Tryz.f70 ⟨[2],[],[],0⟩ .no (G:=(mkG [])) .nil (L:=mkL []) (l:=[]) hT
  (fun x=>by simp only[Zq1,mC,mB,mS,mO,mN];kernel_rfl)
end Zq1
def Zq2.B (a:List Xf) (left_:Int) (i_:Int):Option ((Int×Int)⊕((Int⊕Int))):=
 cond (decide (i_<(a.length:Int))) (cond (inB i_ a.length) ((Zq1 (a.getD i_.toNat Xm) left_).bind fun r=>cond (decide (r<0)) (some (.inr (.inl (-1)))) (some (.inl (r,w64 (i_+1))))) none) (some (.inr (.inr left_)))
def Zq2 (a:List Xf):(Int×Int)→Option ((Int⊕Int)):=
 Yap fun s=>Zq2.B a s.1 s.2
def Zq3 (a:List Xf) (left:Int):Option Int:=
 cond (decide ((w64 (left-(a.length:Int)))<0)) (some (-1)) ((Zq2 a (w64 (left-(a.length:Int)),0)).bind fun o=>sel o (fun b=>some b) (fun c=>some c))
namespace Zq3
def G:Gam:=mkG [(70,Zq1.FS)]
theorem Gok:GOk PR G:=.cons Zq1.ok .nil
end Zq3
namespace Zq2
def c:=Yal (Yah Proofs.Tryz.f49) [1,1,1,0,1,0,0]
def sp:SP:=⟨[(0,.cs (.sl Xl)),(1,.cs I64),(5,.cs I64)],[]⟩
def fr:=Yig sp (fun x s=>Zq2.B x.1.1 s.1 s.2) (fun x=>(x.1.2.1,x.1.2.2.1)) fun x (oo0:(Int⊕Int)) _ kk0=>sel oo0 (fun bb0=>kk0 (.rt) ⟨[(4,.cs I64 bb0)],[]⟩) (fun cc0=>kk0 (.ex 0) ⟨[(1,.cs I64 cc0)],[]⟩)
theorem ok:Ya6 PR 27 2 (.loop c) fr:=
 Yr7 Xe Xd h0 .no (G:=Zq3.G) Zq3.Gok (L:=mkL []) (l:=[]) hT [(0,([1],[]))] ([4],[]) (fun x s=>((x.1.1,s.1,s.2,x.1.2.2.2),x.2))
  (fun x s=>by simp only[B,mC,mB,mS,mO,mN];kernel_rfl)
end Zq2
namespace Zq3
def pts:List PT:=[.cs (.sl Xl),.cs I64]
def FS:FS:=Yc6 [.sh,.sh] pts (fun x=>Zq3 x.1 x.2.1) fun t=>⟨[.cs I64 t],[]⟩
theorem ok:Ycv PR 49 FS:=
 Yvf Xe Xd Proofs.Tryz.f49 h0 (.R (.R (.R (.L (.R (.one (.fr 0))))))) (G:=G) Gok (L:=mkL [(0,Zq2.fr)]) (l:=[(0,.loop Zq2.c)]) ⟨Lam.cons Zq2.ok,trivial⟩
  (fun x=>by simp only[Zq3,mC,mB,mS,mO,mN];kernel_rfl)
end Zq3
def Zq4 (a:Xa) (left:Int):Option Int:=
 (Zq0 a.2.2.2.1 left).bind fun r=>cond (decide (r<0)) (some (-1)) ((Zq3 a.2.2.2.2.1 r).bind fun r2=>cond (decide (r2<0)) (some (-1)) (some r2))
namespace Zq4
def G:Gam:=mkG [(48,Zq0.FS),(49,Zq3.FS)]
def pts:List PT:=[.cs Xb,.cs I64]
def FS:FS:=Yc6 [.sh,.sh] pts (fun x=>Zq4 x.1 x.2.1) fun t=>⟨[.cs I64 t],[]⟩
theorem ok:Ycv PR 30 FS:=
 Yvf Xe Xd Proofs.Tryz.f30 ⟨[2],[],[],0⟩ .no (G:=G) (show GOk PR G from .cons Zq0.ok (.cons Zq3.ok .nil)) (L:=mkL []) (l:=[]) hT
  (fun x=>by simp only[Zq4,mC,mB,mS,mO,mN];kernel_rfl)
end Zq4
def Zq5.B (a:List Xa) (left_:Int) (i_:Int):Option ((Int×Int)⊕((Int⊕Int))):=
 cond (decide (i_<(a.length:Int))) (cond (inB i_ a.length) ((Zq4 (a.getD i_.toNat Xc) left_).bind fun r=>cond (decide (r<0)) (some (.inr (.inl (-1)))) (some (.inl (r,w64 (i_+1))))) none) (some (.inr (.inr left_)))
def Zq5 (a:List Xa):(Int×Int)→Option ((Int⊕Int)):=
 Yap fun s=>Zq5.B a s.1 s.2
def Zq6 (a:List Xa) (left:Int):Option Int:=
 cond (decide ((w64 (left-(a.length:Int)))<0)) (some (-1)) ((Zq5 a (w64 (left-(a.length:Int)),0)).bind fun o=>sel o (fun b=>some b) (fun c=>some c))
namespace Zq6
def G:Gam:=mkG [(30,Zq4.FS)]
theorem Gok:GOk PR G:=.cons Zq4.ok .nil
end Zq6
namespace Zq5
def c:=Yal (Yah Proofs.Tryz.f13) [1,1,1,0,1,0,0]
def sp:SP:=⟨[(0,.cs (.sl Xb)),(1,.cs I64),(5,.cs I64)],[]⟩
def fr:=Yig sp (fun x s=>Zq5.B x.1.1 s.1 s.2) (fun x=>(x.1.2.1,x.1.2.2.1)) fun x (oo0:(Int⊕Int)) _ kk0=>sel oo0 (fun bb0=>kk0 (.rt) ⟨[(4,.cs I64 bb0)],[]⟩) (fun cc0=>kk0 (.ex 0) ⟨[(1,.cs I64 cc0)],[]⟩)
theorem ok:Ya6 PR 27 2 (.loop c) fr:=
 Yr7 Xe Xd h0 .no (G:=Zq6.G) Zq6.Gok (L:=mkL []) (l:=[]) hT [(0,([1],[]))] ([4],[]) (fun x s=>((x.1.1,s.1,s.2,x.1.2.2.2),x.2))
  (fun x s=>by simp only[B,mC,mB,mS,mO,mN];kernel_rfl)
end Zq5
namespace Zq6
def pts:List PT:=[.cs (.sl Xb),.cs I64]
def FS:FS:=Yc6 [.sh,.sh] pts (fun x=>Zq6 x.1 x.2.1) fun t=>⟨[.cs I64 t],[]⟩
theorem ok:Ycv PR 13 FS:=
 Yvf Xe Xd Proofs.Tryz.f13 h0 (.R (.R (.R (.L (.R (.one (.fr 0))))))) (G:=G) Gok (L:=mkL [(0,Zq5.fr)]) (l:=[(0,.loop Zq5.c)]) ⟨Lam.cons Zq5.ok,trivial⟩
  (fun x=>by simp only[Zq6,mC,mB,mS,mO,mN];kernel_rfl)
end Zq6
def Zq7 (a:List Int) (left:Int):Option Int:=
 cond (decide ((w64 (left-(a.length:Int)))<0)) (some (-1)) (some (w64 (left-(a.length:Int))))
namespace Zq7
def pts:List PT:=[.cs SB,.cs I64]
def FS:FS:=Yc6 [.sh,.sh] pts (fun x=>Zq7 x.1 x.2.1) fun t=>⟨[.cs I64 t],[]⟩
theorem ok:Ycv PR 31 FS:=
 Yvf Xe Xd Proofs.Tryz.f31 h0 .no (G:=(mkG [])) .nil (L:=mkL []) (l:=[]) hT
  (fun x=>by simp only[Zq7,mC,mB,mS,mO,mN];kernel_rfl)
end Zq7
def Zq8.B (a:List (List Int)) (left_:Int) (i_:Int):Option ((Int×Int)⊕((Int⊕Int))):=
 cond (decide (i_<(a.length:Int))) (cond (inB i_ a.length) ((Zq7 (a.getD i_.toNat []) left_).bind fun r=>cond (decide (r<0)) (some (.inr (.inl (-1)))) (some (.inl (r,w64 (i_+1))))) none) (some (.inr (.inr left_)))
def Zq8 (a:List (List Int)):(Int×Int)→Option ((Int⊕Int)):=
 Yap fun s=>Zq8.B a s.1 s.2
def Zq9 (a:List (List Int)) (left:Int):Option Int:=
 cond (decide ((w64 (left-(a.length:Int)))<0)) (some (-1)) ((Zq8 a (w64 (left-(a.length:Int)),0)).bind fun o=>sel o (fun b=>some b) (fun c=>some c))
namespace Zq9
def G:Gam:=mkG [(31,Zq7.FS)]
theorem Gok:GOk PR G:=.cons Zq7.ok .nil
end Zq9
namespace Zq8
def c:=Yal (Yah Proofs.Tryz.f14) [1,1,1,0,1,0,0]
def sp:SP:=⟨[(0,.cs (.sl SB)),(1,.cs I64),(5,.cs I64)],[]⟩
def fr:=Yig sp (fun x s=>Zq8.B x.1.1 s.1 s.2) (fun x=>(x.1.2.1,x.1.2.2.1)) fun x (oo0:(Int⊕Int)) _ kk0=>sel oo0 (fun bb0=>kk0 (.rt) ⟨[(4,.cs I64 bb0)],[]⟩) (fun cc0=>kk0 (.ex 0) ⟨[(1,.cs I64 cc0)],[]⟩)
theorem ok:Ya6 PR 27 2 (.loop c) fr:=
 Yr7 Xe Xd h0 .no (G:=Zq9.G) Zq9.Gok (L:=mkL []) (l:=[]) hT [(0,([1],[]))] ([4],[]) (fun x s=>((x.1.1,s.1,s.2,x.1.2.2.2),x.2))
  (fun x s=>by simp only[B,mC,mB,mS,mO,mN];kernel_rfl)
end Zq8
namespace Zq9
def pts:List PT:=[.cs (.sl SB),.cs I64]
def FS:FS:=Yc6 [.sh,.sh] pts (fun x=>Zq9 x.1 x.2.1) fun t=>⟨[.cs I64 t],[]⟩
theorem ok:Ycv PR 14 FS:=
 Yvf Xe Xd Proofs.Tryz.f14 h0 (.R (.R (.R (.L (.R (.one (.fr 0))))))) (G:=G) Gok (L:=mkL [(0,Zq8.fr)]) (l:=[(0,.loop Zq8.c)]) ⟨Lam.cons Zq8.ok,trivial⟩
  (fun x=>by simp only[Zq9,mC,mB,mS,mO,mN];kernel_rfl)
end Zq9
def Xgc (a:Fs_) (left:Int):Option Int:=
 (Zq6 a.1 left).bind fun r=>cond (decide (r<0)) (some (-1)) ((Zq9 a.2.1 r).bind fun r2=>cond (decide (r2<0)) (some (-1)) (some r2))
namespace Xgc
def G:Gam:=mkG [(13,Zq6.FS),(14,Zq9.FS)]
def pts:List PT:=[.cs Xn,.cs I64]
def FS:FS:=Yc6 [.sh,.sh] pts (fun x=>Xgc x.1 x.2.1) fun t=>⟨[.cs I64 t],[]⟩
theorem ok:Ycv PR 5 FS:=
 Yvf Xe Xd Proofs.Tryz.f5 ⟨[2],[],[],0⟩ .no (G:=G) (show GOk PR G from .cons Zq6.ok (.cons Zq9.ok .nil)) (L:=mkL []) (l:=[]) hT
  (fun x=>by simp only[Xgc,mC,mB,mS,mO,mN];kernel_rfl)
end Xgc
def Xdu.B (a:List Int) (i_:Int) (out_:List Int):Option ((Int×List Int)⊕(List Int)):=
 cond (decide (i_<(a.length:Int))) (cond (inB i_ a.length) (cond (inB i_ out_.length) (some (.inl (w64 (i_+1),out_.set i_.toNat (a.getD i_.toNat 0)))) none) none) (some (.inr out_))
def Xdu (a:List Int):(Int×List Int)→Option (List Int):=
 Yap fun s=>Xdu.B a s.1 s.2
def Xgd (a:List Int):Option (List Int):=
 cond (decide ((0:Int)≤(a.length:Int))&&(decide ((a.length:Int)≤(a.length:Int))&&decide ((a.length:Int)≤2147483648))) ((Xdu a (0,List.replicate (a.length:Int).toNat 0)).bind fun o=>some o) none
namespace Xdu
def c:=Yal (Yah Proofs.Tryz.f55) [1,1,0,1,0,0]
def sp:SP:=⟨[(0,.cs SI),(3,.seg 3 []),(4,.cs I64)],[(3,.reg,.cd SI)]⟩
def fr:=Yig sp (fun x s=>Xdu.B x.1.1 s.1 s.2) (fun x=>(x.1.2.2.1,x.2.1)) fun x (bb0:List Int) _ kk0=>kk0 (.ex 0) ⟨[(3,.seg 3 [])],[sr 3 (.cd SI bb0)]⟩
theorem ok:Ya6 PR 22 1 (.loop c) fr:=
 Yu9 Xe Xd h0 [(0,([3],[3]))] (fun x s=>((x.1.1,x.1.2.1,s.1,x.1.2.2.2),(s.2,x.2.2)))
  (fun x s=>by simp only[B,mC,mB,mS,mO,mN];kernel_rfl)
end Xdu
namespace Xgd
def pts:List PT:=[.cs SI]
def FS:FS:=Yc6 [.sh] pts (fun x=>Xgd x.1) fun t=>⟨[.cd SI t],[]⟩
theorem ok:Ycv PR 55 FS:=
 Yvf Xe Xd Proofs.Tryz.f55 h0 (.R (.R (.L (.R (.one (.fr 0)))))) (G:=(mkG [])) .nil (L:=mkL [(0,Xdu.fr)]) (l:=[(0,.loop Xdu.c)]) ⟨Lam.cons Xdu.ok,trivial⟩
  (fun x=>by simp only[Xgd,mC,mB,mS,mO,mN];kernel_rfl)
end Xgd
def Xge (a:Xf):Option Xf:=
 some (a.1,a.2.1,())
namespace Xge
def pts:List PT:=[.cs Xl]
def FS:FS:=Yc6 [.sh] pts (fun x=>Xge x.1) fun t=>⟨[.cs Xl t],[]⟩
theorem ok:Ycv PR 73 FS:=
 Yvf Xe Xd Proofs.Tryz.f73 ⟨[1],[],[],0⟩ .no (G:=(mkG [])) .nil (L:=mkL []) (l:=[]) hT
  (fun x=>by simp only[Xge,mC,mB,mS,mO,mN];kernel_rfl)
end Xge
def Xdv.B (a:List Xf) (i_:Int) (out_:List Xf):Option ((Int×List Xf)⊕(List Xf)):=
 cond (decide (i_<(a.length:Int))) (cond (inB i_ a.length) ((Xge (a.getD i_.toNat Xm)).bind fun r=>cond (inB i_ out_.length) (some (.inl (w64 (i_+1),out_.set i_.toNat r))) none) none) (some (.inr out_))
def Xdv (a:List Xf):(Int×List Xf)→Option (List Xf):=
 Yap fun s=>Xdv.B a s.1 s.2
def Xdw (a:List Xf):Option (List Xf):=
 cond (decide ((0:Int)≤(a.length:Int))&&(decide ((a.length:Int)≤(a.length:Int))&&decide ((a.length:Int)≤2147483648))) ((Xdv a (0,List.replicate (a.length:Int).toNat Xm)).bind fun o=>some o) none
namespace Xdw
def G:Gam:=mkG [(73,Xge.FS)]
theorem Gok:GOk PR G:=.cons Xge.ok .nil
end Xdw
namespace Xdv
def c:=Yal (Yah Proofs.Tryz.f56) [1,1,0,1,0,0]
def sp:SP:=⟨[(0,.cs (.sl Xl)),(3,.seg 3 []),(4,.cs I64)],[(3,.reg,.cd (.sl Xl))]⟩
def fr:=Yig sp (fun x s=>Xdv.B x.1.1 s.1 s.2) (fun x=>(x.1.2.2.1,x.2.1)) fun x (bb0:List Xf) _ kk0=>kk0 (.ex 0) ⟨[(3,.seg 3 [])],[sr 3 (.cd (.sl Xl) bb0)]⟩
theorem ok:Ya6 PR 23 1 (.loop c) fr:=
 Yvh Xe Xd h0 (G:=Xdw.G) Xdw.Gok [(0,([3],[3]))] (fun x s=>((x.1.1,x.1.2.1,s.1,x.1.2.2.2),(s.2,x.2.2)))
  (fun x s=>by simp only[B,mC,mB,mS,mO,mN];kernel_rfl)
end Xdv
namespace Xdw
def pts:List PT:=[.cs (.sl Xl)]
def FS:FS:=Yc6 [.sh] pts (fun x=>Xdw x.1) fun t=>⟨[.cd (.sl Xl) t],[]⟩
theorem ok:Ycv PR 56 FS:=
 Yvf Xe Xd Proofs.Tryz.f56 h0 (.R (.R (.L (.R (.one (.fr 0)))))) (G:=G) Gok (L:=mkL [(0,Xdv.fr)]) (l:=[(0,.loop Xdv.c)]) ⟨Lam.cons Xdv.ok,trivial⟩
  (fun x=>by simp only[Xdw,mC,mB,mS,mO,mN];kernel_rfl)
end Xdw
def Xgf (a:Xa):Option Xa:=
 (Xgd a.2.2.2.1).bind fun r=>(Xdw a.2.2.2.2.1).bind fun r2=>some (a.1,a.2.1,a.2.2.1,r,r2,())
namespace Xgf
def G:Gam:=mkG [(55,Xgd.FS),(56,Xdw.FS)]
def pts:List PT:=[.cs Xb]
def FS:FS:=Yc6 [.sh] pts (fun x=>Xgf x.1) fun t=>⟨[.cd Xb t],[]⟩
theorem ok:Ycv PR 37 FS:=
 Yvf Xe Xd Proofs.Tryz.f37 ⟨[1],[],[],0⟩ .no (G:=G) (show GOk PR G from .cons Xgd.ok (.cons Xdw.ok .nil)) (L:=mkL []) (l:=[]) hT
  (fun x=>by simp only[Xgf,mC,mB,mS,mO,mN];kernel_rfl)
end Xgf
def Xdx.B (a:List Xa) (i_:Int) (out_:List Xa):Option ((Int×List Xa)⊕(List Xa)):=
 cond (decide (i_<(a.length:Int))) (cond (inB i_ a.length) ((Xgf (a.getD i_.toNat Xc)).bind fun r=>cond (inB i_ out_.length) ((some (out_.set i_.toNat (r.1,r.2.1,r.2.2.1,r.2.2.2.1,r.2.2.2.2.1,r.2.2.2.2.2))).bind fun out_2=>some (.inl (w64 (i_+1),out_2))) none) none) (some (.inr out_))
def Xdx (a:List Xa):(Int×List Xa)→Option (List Xa):=
 Yap fun s=>Xdx.B a s.1 s.2
def Xdy (a:List Xa):Option (List Xa):=
 cond (decide ((0:Int)≤(a.length:Int))&&(decide ((a.length:Int)≤(a.length:Int))&&decide ((a.length:Int)≤2147483648))) ((Xdx a (0,List.replicate (a.length:Int).toNat Xc)).bind fun o=>some o) none
namespace Xdy
def G:Gam:=mkG [(37,Xgf.FS)]
theorem Gok:GOk PR G:=.cons Xgf.ok .nil
end Xdy
namespace Xdx
def c:=Yal (Yah Proofs.Tryz.f20) [1,1,0,1,0,0]
def sp:SP:=⟨[(0,.cs (.sl Xb)),(3,.seg 3 []),(4,.cs I64)],[(3,.reg,.cd (.sl Xb))]⟩
def fr:=Yig sp (fun x s=>Xdx.B x.1.1 s.1 s.2) (fun x=>(x.1.2.2.1,x.2.1)) fun x (bb0:List Xa) _ kk0=>kk0 (.ex 0) ⟨[(3,.seg 3 [])],[sr 3 (.cd (.sl Xb) bb0)]⟩
theorem ok:Ya6 PR 23 1 (.loop c) fr:=
 Yvh Xe Xd h0 (G:=Xdy.G) Xdy.Gok [(0,([3],[3]))] (fun x s=>((x.1.1,x.1.2.1,s.1,x.1.2.2.2),(s.2,x.2.2)))
  (fun x s=>by simp only[B,mC,mB,mS,mO,mN];kernel_rfl)
end Xdx
namespace Xdy
def pts:List PT:=[.cs (.sl Xb)]
def FS:FS:=Yc6 [.sh] pts (fun x=>Xdy x.1) fun t=>⟨[.cd (.sl Xb) t],[]⟩
theorem ok:Ycv PR 20 FS:=
 Yvf Xe Xd Proofs.Tryz.f20 h0 (.R (.R (.L (.R (.one (.fr 0)))))) (G:=G) Gok (L:=mkL [(0,Xdx.fr)]) (l:=[(0,.loop Xdx.c)]) ⟨Lam.cons Xdx.ok,trivial⟩
  (fun x=>by simp only[Xdy,mC,mB,mS,mO,mN];kernel_rfl)
end Xdy
def Xdz.B (a:List Int) (i_:Int) (out_:List Int):Option ((Int×List Int)⊕(List Int)):=
 cond (decide (i_<(a.length:Int))) (cond (inB i_ a.length) (cond (inB i_ out_.length) (some (.inl (w64 (i_+1),out_.set i_.toNat (a.getD i_.toNat 0)))) none) none) (some (.inr out_))
def Xdz (a:List Int):(Int×List Int)→Option (List Int):=
 Yap fun s=>Xdz.B a s.1 s.2
def Xgg (a:List Int):Option (List Int):=
 cond (decide ((0:Int)≤(a.length:Int))&&(decide ((a.length:Int)≤(a.length:Int))&&decide ((a.length:Int)≤2147483648))) ((Xdz a (0,List.replicate (a.length:Int).toNat 0)).bind fun o=>some o) none
namespace Xdz
def c:=Yal (Yah Proofs.Tryz.f38) [1,1,0,1,0,0]
def sp:SP:=⟨[(0,.cs SB),(3,.seg 3 []),(4,.cs I64)],[(3,.reg,.cd SB)]⟩
def fr:=Yig sp (fun x s=>Xdz.B x.1.1 s.1 s.2) (fun x=>(x.1.2.2.1,x.2.1)) fun x (bb0:List Int) _ kk0=>kk0 (.ex 0) ⟨[(3,.seg 3 [])],[sr 3 (.cd SB bb0)]⟩
theorem ok:Ya6 PR 22 1 (.loop c) fr:=
 Yu9 Xe Xd h0 [(0,([3],[3]))] (fun x s=>((x.1.1,x.1.2.1,s.1,x.1.2.2.2),(s.2,x.2.2)))
  (fun x s=>by simp only[B,mC,mB,mS,mO,mN];kernel_rfl)
end Xdz
namespace Xgg
def pts:List PT:=[.cs SB]
def FS:FS:=Yc6 [.sh] pts (fun x=>Xgg x.1) fun t=>⟨[.cd SB t],[]⟩
theorem ok:Ycv PR 38 FS:=
 Yvf Xe Xd Proofs.Tryz.f38 h0 (.R (.R (.L (.R (.one (.fr 0)))))) (G:=(mkG [])) .nil (L:=mkL [(0,Xdz.fr)]) (l:=[(0,.loop Xdz.c)]) ⟨Lam.cons Xdz.ok,trivial⟩
  (fun x=>by simp only[Xgg,mC,mB,mS,mO,mN];kernel_rfl)
end Xgg
def Xd0.B (a:List (List Int)) (i_:Int) (out_:List (List Int)):Option ((Int×List (List Int))⊕(List (List Int))):=
 cond (decide (i_<(a.length:Int))) (cond (inB i_ a.length) ((Xgg (a.getD i_.toNat [])).bind fun r=>cond (inB i_ out_.length) (some (.inl (w64 (i_+1),out_.set i_.toNat r))) none) none) (some (.inr out_))
def Xd0 (a:List (List Int)):(Int×List (List Int))→Option (List (List Int)):=
 Yap fun s=>Xd0.B a s.1 s.2
def Xd1 (a:List (List Int)):Option (List (List Int)):=
 cond (decide ((0:Int)≤(a.length:Int))&&(decide ((a.length:Int)≤(a.length:Int))&&decide ((a.length:Int)≤2147483648))) ((some (List.replicate (a.length:Int).toNat ([]:List Int))).bind fun v=>(Xd0 a (0,v)).bind fun o=>some o) none
namespace Xd1
def G:Gam:=mkG [(38,Xgg.FS)]
theorem Gok:GOk PR G:=.cons Xgg.ok .nil
end Xd1
namespace Xd0
def c:=Yal (Yah Proofs.Tryz.f21) [1,1,0,1,0,0]
def sp:SP:=⟨[(0,.cs (.sl SB)),(3,.seg 3 []),(4,.cs I64)],[(3,.reg,.cd (.sl SB))]⟩
def fr:=Yig sp (fun x s=>Xd0.B x.1.1 s.1 s.2) (fun x=>(x.1.2.2.1,x.2.1)) fun x (bb0:List (List Int)) _ kk0=>kk0 (.ex 0) ⟨[(3,.seg 3 [])],[sr 3 (.cd (.sl SB) bb0)]⟩
theorem ok:Ya6 PR 23 1 (.loop c) fr:=
 Yvh Xe Xd h0 (G:=Xd1.G) Xd1.Gok [(0,([3],[3]))] (fun x s=>((x.1.1,x.1.2.1,s.1,x.1.2.2.2),(s.2,x.2.2)))
  (fun x s=>by simp only[B,mC,mB,mS,mO,mN];kernel_rfl)
end Xd0
namespace Xd1
def pts:List PT:=[.cs (.sl SB)]
def FS:FS:=Yc6 [.sh] pts (fun x=>Xd1 x.1) fun t=>⟨[.cd (.sl SB) t],[]⟩
theorem ok:Ycv PR 21 FS:=
 Yvf Xe Xd Proofs.Tryz.f21 h0 (.R (.R (.L (.R (.one (.fr 0)))))) (G:=G) Gok (L:=mkL [(0,Xd0.fr)]) (l:=[(0,.loop Xd0.c)]) ⟨Lam.cons Xd0.ok,trivial⟩
  (fun x=>by simp only[Xd1,mC,mB,mS,mO,mN];kernel_rfl)
end Xd1
def Xfm (a:Fs_):Option Fs_:=
 (Xdy a.1).bind fun r=>(Xd1 a.2.1).bind fun r2=>some (r,r2,())
namespace Xfm
def G:Gam:=mkG [(20,Xdy.FS),(21,Xd1.FS)]
def pts:List PT:=[.cs Xn]
def FS:FS:=Yc6 [.sh] pts (fun x=>Xfm x.1) fun t=>⟨[.cd Xn t],[]⟩
theorem ok:Ycv PR 7 FS:=
 Yvf Xe Xd Proofs.Tryz.f7 ⟨[1],[],[],0⟩ .no (G:=G) (show GOk PR G from .cons Xdy.ok (.cons Xd1.ok .nil)) (L:=mkL []) (l:=[]) hT
  (fun x=>by simp only[Xfm,mC,mB,mS,mO,mN];kernel_rfl)
end Xfm
def Xaw (v:Int) (v2:Int) (v3:Int):Option Bool:=
 some (cond (decide (v≥v2)) (decide (v≤v3)) false)
namespace Xaw
def pts:List PT:=[.cs I64,.cs I64,.cs I64]
def FS:FS:=Yc6 [.sh,.sh,.sh] pts (fun x=>Xaw x.1 x.2.1 x.2.2.1) fun t=>⟨[.cs .bool t],[]⟩
theorem ok:Ycv PR 26 FS:=
 Yvf Xe Xd Proofs.Tryz.f26 h0 .no (G:=(mkG [])) .nil (L:=mkL []) (l:=[]) hT
  (fun x=>by simp only[Xaw,mC,mB,mS,mO,mN];kernel_rfl)
end Xaw
def Xg0 (v:Int):Option Bool:=
 (Xaw v 0 32).bind fun v2=>some v2
namespace Xg0
def G:Gam:=mkG [(26,Xaw.FS)]
def pts:List PT:=[.cs I64]
def FS:FS:=Yc6 [.sh] pts (fun x=>Xg0 x.1) fun t=>⟨[.cs .bool t],[]⟩
theorem ok:Ycv PR 97 FS:=
 Yvf Xe Xd Proofs.Tryz.f97 h0 .no (G:=G) (show GOk PR G from .cons Xaw.ok .nil) (L:=mkL []) (l:=[]) hT
  (fun x=>by simp only[Xg0,mC,mB,mS,mO,mN];kernel_rfl)
end Xg0
def Xg1 (v:Int):Option Int:=
 cond (!((8:Int) == 0)) (some (w64 ((w64 ((w64 (v+8))-1)).tdiv 8))) none
namespace Xg1
def pts:List PT:=[.cs I64]
def FS:FS:=Yc6 [.sh] pts (fun x=>Xg1 x.1) fun t=>⟨[.cs I64 t],[]⟩
theorem ok:Ycv PR 98 FS:=
 Yvf Xe Xd Proofs.Tryz.f98 h0 .no (G:=(mkG [])) .nil (L:=mkL []) (l:=[]) hT
  (fun x=>by simp only[Xg1,mC,mB,mS,mO,mN];kernel_rfl)
end Xg1
def Xez.B (v:Xa) (v5:Int):Option (Int⊕((Int⊕Unit))):=
 cond (decide (v5<(v.2.2.2.1.length:Int))) (cond (inB v5 v.2.2.2.1.length) ((Xaw (v.2.2.2.1.getD v5.toNat 0) 0 19).bind fun v6=>cond (!v6) (some (.inr (.inl 3))) (some (.inl (w64 (v5+1))))) none) (some (.inr (.inr ())))
def Xez (v:Xa):Int→Option ((Int⊕Unit)):=
 Yap fun s=>Xez.B v s
def Xdj.B (v:Xa) (v10:Int) (v11:Int):Option (Int⊕((Int⊕Unit))):=
 cond (decide (v11<v10)) (cond (inB v11 v.2.2.2.1.length) (cond (inB v10 v.2.2.2.1.length) ((some ((v.2.2.2.1.getD v11.toNat 0) == (v.2.2.2.1.getD v10.toNat 0))).bind fun v12=>cond v12 (some (.inr (.inl 7))) (some (.inl (w64 (v11+1))))) none) none) (some (.inr (.inr ())))
def Xdj (v:Xa) (v10:Int):Int→Option ((Int⊕Unit)):=
 Yap fun s=>Xdj.B v v10 s
def Xd2.B (v:Xa) (v10:Int):Option (Int⊕((Int⊕Unit))):=
 cond (decide (v10<(v.2.2.2.1.length:Int))) ((Xdj v v10 0).bind fun v13=>sel v13 (fun v14=>some (.inr (.inl v14))) (fun v15=>some (.inl (w64 (v10+1))))) (some (.inr (.inr ())))
def Xd2 (v:Xa):Int→Option ((Int⊕Unit)):=
 Yap fun s=>Xd2.B v s
def Xb7 (v:Xa):Option Int:=
 (Xaw v.2.1 1 60).bind fun v2=>cond (!v2) (some 3) ((Xg0 v.2.2.1).bind fun v3=>cond (!v3) (some 3) ((Xg1 v.2.2.1).bind fun v4=>cond ((v.2.2.2.1.length:Int) != v4) (some 1) ((Xez v 0).bind fun v7=>sel v7 (fun v8=>some v8) (fun v9=>(Xd2 v 0).bind fun v16=>sel v16 (fun v17=>some v17) (fun v18=>some 0)))))
namespace Xb7
def G:Gam:=mkG [(26,Xaw.FS),(97,Xg0.FS),(98,Xg1.FS)]
theorem Gok:GOk PR G:=.cons Xaw.ok (.cons Xg0.ok (.cons Xg1.ok .nil))
end Xb7
namespace Xez
def c:=Yal (Yah Proofs.Tryz.f87) [1,1,1,0,1,0,0]
def sp:SP:=⟨[(0,.pt Xb),(3,.cs I64)],[]⟩
def fr:=Yig sp (fun x s=>Xez.B x.1.1 s) (fun x=>x.1.2.1) fun x (oo0:(Int⊕Unit)) _ kk0=>sel oo0 (fun bb0=>kk0 (.rt) ⟨[(2,.cs I64 bb0)],[]⟩) (fun cc0=>kk0 (.ex 0) ⟨[(0,.pt Xb x.1.1)],[]⟩)
theorem ok:Ya6 PR 78 1 (.loop c) fr:=
 Yr7 Xe Xd h0 .no (G:=Xb7.G) Xb7.Gok (L:=mkL []) (l:=[]) hT [(0,([0],[]))] ([2],[]) (fun x s=>((x.1.1,s,x.1.2.2),x.2))
  (fun x s=>by simp only[B,mC,mB,mS,mO,mN];kernel_rfl)
end Xez
namespace Xdj
def c:=Yal (Yah Proofs.Tryz.f87) [1,1,1,1,0,1,0,0,1,0,0,1,0,0]
def sp:SP:=⟨[(0,.pt Xb),(4,.cs I64),(5,.cs I64)],[]⟩
def fr:=Yig sp (fun x s=>Xdj.B x.1.1 x.1.2.1 s) (fun x=>x.1.2.2.1) fun x (oo0:(Int⊕Unit)) _ kk0=>sel oo0 (fun bb0=>kk0 (.rt) ⟨[(2,.cs I64 bb0)],[]⟩) (fun cc0=>kk0 (.ex 4) ⟨[(0,.pt Xb x.1.1),(4,.cs I64 x.1.2.1)],[]⟩)
theorem ok:Ya6 PR 78 1 (.loop c) fr:=
 Yr7 Xe Xd h0 .no (G:=Xb7.G) Xb7.Gok (L:=mkL []) (l:=[]) hT [(4,([0,4],[]))] ([2],[]) (fun x s=>((x.1.1,x.1.2.1,s,x.1.2.2.2),x.2))
  (fun x s=>by simp only[B,mC,mB,mS,mO,mN];kernel_rfl)
end Xdj
namespace Xd2
def c:=Yal (Yah Proofs.Tryz.f87) [1,1,1,1,0,1,0,0]
def sp:SP:=⟨[(0,.pt Xb),(4,.cs I64)],[]⟩
def fr:=Yig sp (fun x s=>Xd2.B x.1.1 s) (fun x=>x.1.2.1) fun x (oo0:(Int⊕Unit)) _ kk0=>sel oo0 (fun bb0=>kk0 (.rt) ⟨[(2,.cs I64 bb0)],[]⟩) (fun cc0=>kk0 (.ex 2) ⟨[],[]⟩)
theorem ok:Ya6 PR 78 1 (.loop c) fr:=
 Yr7 Xe Xd h0 (.R (.L (.one (.R (.one (.fr 2)))))) (G:=Xb7.G) Xb7.Gok (L:=mkL [(2,Xdj.fr)]) (l:=[(2,.loop Xdj.c)]) ⟨Lam.cons Xdj.ok,trivial⟩ [(2,([],[]))] ([2],[]) (fun x s=>((x.1.1,s,x.1.2.2),x.2))
  (fun x s=>by simp only[B,mC,mB,mS,mO,mN];kernel_rfl)
end Xd2
namespace Xb7
def pts:List PT:=[.pt Xb]
def FS:FS:=Yc6 [.sh] pts (fun x=>Xb7 x.1) fun t=>⟨[.cs I64 t],[]⟩
theorem ok:Ycv PR 87 FS:=
 Yvf Xe Xd Proofs.Tryz.f87 h0 (.R (.R (.R (.two (.R (.one (.fr 0))) (.L (.R (.one (.fr 1)))))))) (G:=G) Gok (L:=mkL [(0,Xez.fr),(2,Xdj.fr),(1,Xd2.fr)]) (l:=[(0,.loop Xez.c),(1,.loop Xd2.c)]) ⟨Lam.cons Xez.ok,Lam.skip rfl (Lam.skip rfl (Lam.cons Xd2.ok)),trivial⟩
  (fun x=>by simp only[Xb7,mC,mB,mS,mO,mN];kernel_rfl)
end Xb7
def Xe0.B (v:List UInt8) (v2:Int):Option (Int⊕((Int⊕Unit))):=
 cond (decide (v2<(v.length:Int))) (cond (inB v2 v.length) (cond (cond (!(decide (((v.getD v2.toNat 0).toNat:Int)<97))) (inB v2 v.length) true) ((some (cond (decide (((v.getD v2.toNat 0).toNat:Int)<97)) true (decide (((v.getD v2.toNat 0).toNat:Int)>122)))).bind fun v3=>cond v3 (some (.inr (.inl 5))) (some (.inl (w64 (v2+1))))) none) none) (some (.inr (.inr ())))
def Xe0 (v:List UInt8):Int→Option ((Int⊕Unit)):=
 Yap fun s=>Xe0.B v s
def Xgh (v:List UInt8):Option Int:=
 (Xe0 v 0).bind fun v4=>sel v4 (fun v5=>some v5) (fun v6=>cond (v == ([]:List UInt8)) (some 5) (cond (decide ((v.length:Int)>4)) (some 2) (some 0)))
namespace Xe0
def c:=Yal (Yah Proofs.Tryz.f99) [1,0,1,0,0]
def sp:SP:=⟨[(0,.cs .str),(3,.cs I64)],[]⟩
def fr:=Yig sp (fun x s=>Xe0.B x.1.1 s) (fun x=>x.1.2.1) fun x (oo0:(Int⊕Unit)) _ kk0=>sel oo0 (fun bb0=>kk0 (.rt) ⟨[(2,.cs I64 bb0)],[]⟩) (fun cc0=>kk0 (.ex 0) ⟨[(0,.cs .str x.1.1)],[]⟩)
theorem ok:Ya6 PR 25 1 (.loop c) fr:=
 Yr7 Xe Xd h0 .no (G:=(mkG [])) .nil (L:=mkL []) (l:=[]) hT [(0,([0],[]))] ([2],[]) (fun x s=>((x.1.1,s,x.1.2.2),x.2))
  (fun x s=>by simp only[B,mC,mB,mS,mO,mN];kernel_rfl)
end Xe0
namespace Xgh
def pts:List PT:=[.cs .str]
def FS:FS:=Yc6 [.sh] pts (fun x=>Xgh x.1) fun t=>⟨[.cs I64 t],[]⟩
theorem ok:Ycv PR 99 FS:=
 Yvf Xe Xd Proofs.Tryz.f99 h0 (.R (.L (.R (.one (.fr 0))))) (G:=(mkG [])) .nil (L:=mkL [(0,Xe0.fr)]) (l:=[(0,.loop Xe0.c)]) ⟨Lam.cons Xe0.ok,trivial⟩
  (fun x=>by simp only[Xgh,mC,mB,mS,mO,mN];kernel_rfl)
end Xgh
def Xd3.B (v:Xa) (v2:Int):Option (Int⊕((Int⊕Unit))):=
 cond (decide (v2<(v.2.2.2.2.1.length:Int))) (cond (inB v2 v.2.2.2.2.1.length) ((Xgh (v.2.2.2.2.1.getD v2.toNat Xm).1).bind fun v3=>cond (v3 != 0) (some (.inr (.inl v3))) (cond (inB v2 v.2.2.2.2.1.length) ((Xaw (v.2.2.2.2.1.getD v2.toNat Xm).2.1 0 9).bind fun v4=>cond (!v4) (some (.inr (.inl 3))) (cond (cond (decide (v2>0)) (inB v2 v.2.2.2.2.1.length) true) (cond (cond (decide (v2>0)) (inB (w64 (v2-1)) v.2.2.2.2.1.length) true) ((some (cond (decide (v2>0)) (leB (v.2.2.2.2.1.getD v2.toNat Xm).1 (v.2.2.2.2.1.getD (w64 (v2-1)).toNat Xm).1 || (v.2.2.2.2.1.getD v2.toNat Xm).1 == (v.2.2.2.2.1.getD (w64 (v2-1)).toNat Xm).1) false)).bind fun v5=>cond v5 (some (.inr (.inl 1))) (some (.inl (w64 (v2+1))))) none) none)) none)) none) (some (.inr (.inr ())))
def Xd3 (v:Xa):Int→Option ((Int⊕Unit)):=
 Yap fun s=>Xd3.B v s
def Xd4 (v:Xa):Option Int:=
 cond (decide ((v.2.2.2.2.1.length:Int)>6)) (some 2) ((Xd3 v 0).bind fun v6=>sel v6 (fun v7=>some v7) (fun v8=>some 0))
namespace Xd4
def G:Gam:=mkG [(99,Xgh.FS),(26,Xaw.FS)]
theorem Gok:GOk PR G:=.cons Xgh.ok (.cons Xaw.ok .nil)
end Xd4
namespace Xd3
def c:=Yal (Yah Proofs.Tryz.f88) [1,1,0,1,0,0]
def sp:SP:=⟨[(0,.pt Xb),(3,.cs I64)],[]⟩
def fr:=Yig sp (fun x s=>Xd3.B x.1.1 s) (fun x=>x.1.2.1) fun x (oo0:(Int⊕Unit)) _ kk0=>sel oo0 (fun bb0=>kk0 (.rt) ⟨[(2,.cs I64 bb0)],[]⟩) (fun cc0=>kk0 (.ex 0) ⟨[],[]⟩)
theorem ok:Ya6 PR 64 1 (.loop c) fr:=
 Yr7 Xe Xd h0 .no (G:=Xd4.G) Xd4.Gok (L:=mkL []) (l:=[]) hT [(0,([],[]))] ([2],[]) (fun x s=>((x.1.1,s,x.1.2.2),x.2))
  (fun x s=>by simp only[B,mC,mB,mS,mO,mN];kernel_rfl)
end Xd3
namespace Xd4
def pts:List PT:=[.pt Xb]
def FS:FS:=Yc6 [.sh] pts (fun x=>Xd4 x.1) fun t=>⟨[.cs I64 t],[]⟩
theorem ok:Ycv PR 88 FS:=
 Yvf Xe Xd Proofs.Tryz.f88 h0 (.R (.R (.L (.R (.one (.fr 0)))))) (G:=G) Gok (L:=mkL [(0,Xd3.fr)]) (l:=[(0,.loop Xd3.c)]) ⟨Lam.cons Xd3.ok,trivial⟩
  (fun x=>by simp only[Xd4,mC,mB,mS,mO,mN];kernel_rfl)
end Xd4
def Xgi (v:Xa):Option Int:=
 (Xaw v.1 0 2).bind fun v2=>cond (!v2) (some 1) ((some (cond (v.1 != 1) (cond (cond (v.2.1 != 0) true (v.2.2.1 != 0)) true (decide ((v.2.2.2.1.length:Int)>0))) false)).bind fun v3=>(some (cond v3 true (cond (v.1 != 2) (decide ((v.2.2.2.2.1.length:Int)>0)) false))).bind fun v4=>cond v4 (some 1) (cond (v.1 == 1) ((Xb7 v).bind fun v5=>some v5) (cond (v.1 == 2) ((Xd4 v).bind fun v6=>some v6) (some 0))))
namespace Xgi
def G:Gam:=mkG [(26,Xaw.FS),(87,Xb7.FS),(88,Xd4.FS)]
def pts:List PT:=[.pt Xb]
def FS:FS:=Yc6 [.sh] pts (fun x=>Xgi x.1) fun t=>⟨[.cs I64 t],[]⟩
theorem ok:Ycv PR 71 FS:=
 Yvf Xe Xd Proofs.Tryz.f71 h0 .no (G:=G) (show GOk PR G from .cons Xaw.ok (.cons Xb7.ok (.cons Xd4.ok .nil))) (L:=mkL []) (l:=[]) hT
  (fun x=>by simp only[Xgi,mC,mB,mS,mO,mN];kernel_rfl)
end Xgi
def Xe1.B (v:List Xa) (v2:Int):Option (Int⊕((Int⊕Unit))):=
 cond (decide (v2<(v.length:Int))) (cond (inB v2 v.length) ((Xgi (v.getD v2.toNat Xc)).bind fun v3=>cond (v3 != 0) (some (.inr (.inl v3))) (some (.inl (w64 (v2+1))))) none) (some (.inr (.inr ())))
def Xe1 (v:List Xa):Int→Option ((Int⊕Unit)):=
 Yap fun s=>Xe1.B v s
def Xd5 (v:List Xa):Option Int:=
 cond (decide ((v.length:Int)>10)) (some 2) ((Xe1 v 0).bind fun v4=>sel v4 (fun v5=>some v5) (fun v6=>some 0))
namespace Xd5
def G:Gam:=mkG [(71,Xgi.FS)]
theorem Gok:GOk PR G:=.cons Xgi.ok .nil
end Xd5
namespace Xe1
def c:=Yal (Yah Proofs.Tryz.f50) [1,1,0,1,0,0]
def sp:SP:=⟨[(0,.cs (.sl Xb)),(3,.cs I64)],[]⟩
def fr:=Yig sp (fun x s=>Xe1.B x.1.1 s) (fun x=>x.1.2.1) fun x (oo0:(Int⊕Unit)) _ kk0=>sel oo0 (fun bb0=>kk0 (.rt) ⟨[(2,.cs I64 bb0)],[]⟩) (fun cc0=>kk0 (.ex 0) ⟨[],[]⟩)
theorem ok:Ya6 PR 21 1 (.loop c) fr:=
 Yr7 Xe Xd h0 .no (G:=Xd5.G) Xd5.Gok (L:=mkL []) (l:=[]) hT [(0,([],[]))] ([2],[]) (fun x s=>((x.1.1,s,x.1.2.2),x.2))
  (fun x s=>by simp only[B,mC,mB,mS,mO,mN];kernel_rfl)
end Xe1
namespace Xd5
def pts:List PT:=[.cs (.sl Xb)]
def FS:FS:=Yc6 [.sh] pts (fun x=>Xd5 x.1) fun t=>⟨[.cs I64 t],[]⟩
theorem ok:Ycv PR 50 FS:=
 Yvf Xe Xd Proofs.Tryz.f50 h0 (.R (.R (.L (.R (.one (.fr 0)))))) (G:=G) Gok (L:=mkL [(0,Xe1.fr)]) (l:=[(0,.loop Xe1.c)]) ⟨Lam.cons Xe1.ok,trivial⟩
  (fun x=>by simp only[Xd5,mC,mB,mS,mO,mN];kernel_rfl)
end Xd5
def Xdk.B (v:List Xa) (v2:Int) (v4:Int) (v5:Int) (v6:Int):Option ((Int×Int)⊕Int):=
 cond (inB v4 v.length) ((some ((v.getD v4.toNat Xc).2.2.2.1.length:Int)).bind fun v7=>cond (decide (v6<v7)) (cond (inB v4 v.length) (cond (inB v6 ((v.getD v4.toNat Xc).2.2.2.1.length)) ((some ((v.getD v4.toNat Xc).2.2.2.1.getD v6.toNat 0)).bind fun v8=>cond (v8 == v2) (some (.inl (w64 (v5+1),w64 (v6+1)))) (some (.inl (v5,w64 (v6+1))))) none) none) (some (.inr v5))) none
def Xdk (v:List Xa) (v2:Int) (v4:Int):(Int×Int)→Option Int:=
 Yap fun s=>Xdk.B v v2 v4 s.1 s.2
def Xd6.B (v:List Xa) (v2:Int) (v3:Int) (v4:Int):Option ((Int×Int)⊕Int):=
 cond (decide (v4<(v.length:Int))) ((Xdk v v2 v4 (v3,0)).bind fun v9=>some (.inl (v9,w64 (v4+1)))) (some (.inr v3))
def Xd6 (v:List Xa) (v2:Int):(Int×Int)→Option Int:=
 Yap fun s=>Xd6.B v v2 s.1 s.2
def Xgj (v:List Xa) (v2:Int):Option Int:=
 (Xd6 v v2 (0,0)).bind fun v10=>some v10
namespace Xdk
def c:=Yal (Yah Proofs.Tryz.f72) [1,1,0,1,0,0,1,0,0,1,0,0]
def sp:SP:=⟨[(0,.cs (.sl Xb)),(1,.cs I64),(5,.cs I64),(6,.cs I64),(7,.cs I64)],[]⟩
def fr:=Yig sp (fun x s=>Xdk.B x.1.1 x.1.2.1 x.1.2.2.2.1 s.1 s.2) (fun x=>(x.1.2.2.1,x.1.2.2.2.2.1)) fun x (bb0:Int) _ kk0=>kk0 (.ex 2) ⟨[(0,.cs (.sl Xb) x.1.1),(1,.cs I64 x.1.2.1),(5,.cs I64 bb0),(6,.cs I64 x.1.2.2.2.1)],[]⟩
theorem ok:Ya6 PR 37 2 (.loop c) fr:=
 Yu9 Xe Xd h0 [(2,([0,1,5,6],[]))] (fun x s=>((x.1.1,x.1.2.1,s.1,x.1.2.2.2.1,s.2,x.1.2.2.2.2.2),x.2))
  (fun x s=>by simp only[B,mC,mB,mS,mO,mN];kernel_rfl)
end Xdk
namespace Xd6
def c:=Yal (Yah Proofs.Tryz.f72) [1,1,0,1,0,0]
def sp:SP:=⟨[(0,.cs (.sl Xb)),(1,.cs I64),(5,.cs I64),(6,.cs I64)],[]⟩
def fr:=Yig sp (fun x s=>Xd6.B x.1.1 x.1.2.1 s.1 s.2) (fun x=>(x.1.2.2.1,x.1.2.2.2.1)) fun x (bb0:Int) _ kk0=>kk0 (.ex 0) ⟨[(5,.cs I64 bb0)],[]⟩
theorem ok:Ya6 PR 37 2 (.loop c) fr:=
 Yvg Xe Xd h0 (.R (.L (.one (.R (.one (.fr 1)))))) (L:=mkL [(1,Xdk.fr)]) (l:=[(1,.loop Xdk.c)]) ⟨Lam.cons Xdk.ok,trivial⟩ [(0,([5],[]))] (fun x s=>((x.1.1,x.1.2.1,s.1,s.2,x.1.2.2.2.2),x.2))
  (fun x s=>by simp only[B,mC,mB,mS,mO,mN];kernel_rfl)
end Xd6
namespace Xgj
def pts:List PT:=[.cs (.sl Xb),.cs I64]
def FS:FS:=Yc6 [.sh,.sh] pts (fun x=>Xgj x.1 x.2.1) fun t=>⟨[.cs I64 t],[]⟩
theorem ok:Ycv PR 72 FS:=
 Yvf Xe Xd Proofs.Tryz.f72 h0 (.R (.R (.L (.R (.one (.fr 0)))))) (G:=(mkG [])) .nil (L:=mkL [(1,Xdk.fr),(0,Xd6.fr)]) (l:=[(0,.loop Xd6.c)]) ⟨Lam.skip rfl (Lam.cons Xd6.ok),trivial⟩
  (fun x=>by simp only[Xgj,mC,mB,mS,mO,mN];kernel_rfl)
end Xgj
def Xe2.B (v:List Xa) (v2:Bool) (v3:Int) (v4:List Int):Option ((Bool×Int×List Int)⊕(Bool×List Int)):=
 cond (decide (v3<20)) ((Xgj v v3).bind fun v5=>cond (decide (v5>0)) (cond (decide ((v4++([v3])).length≤2147483648)) (some (.inl (cond v2 (decide (v5≤1)) false,w64 (v3+1),v4++([v3])))) none) (some (.inl (cond v2 (decide (v5≤1)) false,w64 (v3+1),v4)))) (some (.inr (v2,v4)))
def Xe2 (v:List Xa):(Bool×Int×List Int)→Option (Bool×List Int):=
 Yap fun s=>Xe2.B v s.1 s.2.1 s.2.2
def Xd7 (v:List Xa):Option ((List Int)×Bool):=
 (Xe2 v (true,0,[])).bind fun v6=>some (v6.2,v6.1)
namespace Xd7
def G:Gam:=mkG [(72,Xgj.FS)]
theorem Gok:GOk PR G:=.cons Xgj.ok .nil
end Xd7
namespace Xe2
def c:=Yal (Yah Proofs.Tryz.f51) [1,1,1,0,1,0,0]
def sp:SP:=⟨[(0,.cs (.sl Xb)),(4,.seg 4 []),(5,.cs .bool),(6,.cs I64)],[(4,.reg,.cd SI)]⟩
def fr:=Yig sp (fun x s=>Xe2.B x.1.1 s.1 s.2.1 s.2.2) (fun x=>(x.1.2.2.1,x.1.2.2.2.1,x.2.1)) fun x (bb0:Bool×List Int) _ kk0=>kk0 (.ex 0) ⟨[(4,.seg 4 []),(5,.cs .bool bb0.1)],[sr 4 (.cd SI bb0.2)]⟩
theorem ok:Ya6 PR 29 1 (.loop c) fr:=
 Yvh Xe Xd h0 (G:=Xd7.G) Xd7.Gok [(0,([4,5],[4]))] (fun x s=>((x.1.1,x.1.2.1,s.1,s.2.1,x.1.2.2.2.2),(s.2.2,x.2.2)))
  (fun x s=>by simp only[B,mC,mB,mS,mO,mN];kernel_rfl)
end Xe2
namespace Xd7
def pts:List PT:=[.cs (.sl Xb)]
def FS:FS:=Yc6 [.sh] pts (fun x=>Xd7 x.1) fun t=>⟨[.cd SI t.1,.cs .bool t.2],[]⟩
theorem ok:Ycv PR 51 FS:=
 Yvf Xe Xd Proofs.Tryz.f51 h0 (.R (.R (.R (.L (.R (.one (.fr 0))))))) (G:=G) Gok (L:=mkL [(0,Xe2.fr)]) (l:=[(0,.loop Xe2.c)]) ⟨Lam.cons Xe2.ok,trivial⟩
  (fun x=>by simp only[Xd7,mC,mB,mS,mO,mN];kernel_rfl)
end Xd7
def Xe3.B (v:Fs_) (v4:Int):Option (Int⊕((Int⊕Unit))):=
 cond (decide (v4<(v.2.1.length:Int))) (cond (inB v4 v.2.1.length) ((some (decide (((v.2.1.getD v4.toNat []).length:Int)>8))).bind fun v5=>cond v5 (some (.inr (.inl 2))) (some (.inl (w64 (v4+1))))) none) (some (.inr (.inr ())))
def Xe3 (v:Fs_):Int→Option ((Int⊕Unit)):=
 Yap fun s=>Xe3.B v s
def Xdl.B (v:Fs_) (v10:Int) (v11:Int):Option (Int⊕((Int⊕Unit))):=
 cond (inB v10 v.1.length) ((some ((v.1.getD v10.toNat Xc).2.2.2.2.1.length:Int)).bind fun v12=>cond (decide (v11<v12)) (cond (inB v10 v.1.length) (cond (inB v11 ((v.1.getD v10.toNat Xc).2.2.2.2.1.length)) ((some ((v.1.getD v10.toNat Xc).2.2.2.2.1.getD v11.toNat Xm).2.1).bind fun v13=>cond (cond (!(decide (v13≥(v.1.length:Int)))) (inB v13 v.1.length) true) ((some (cond (decide (v13≥(v.1.length:Int))) true ((v.1.getD v13.toNat Xc).1 == 0))).bind fun v14=>cond v14 (some (.inr (.inl 4))) (some (.inl (w64 (v11+1))))) none) none) none) (some (.inr (.inr ())))) none
def Xdl (v:Fs_) (v10:Int):Int→Option ((Int⊕Unit)):=
 Yap fun s=>Xdl.B v v10 s
def Xe4.B (v:Fs_) (v10:Int):Option (Int⊕((Int⊕Unit))):=
 cond (decide (v10<(v.1.length:Int))) ((Xdl v v10 0).bind fun v15=>sel v15 (fun v16=>some (.inr (.inl v16))) (fun v17=>some (.inl (w64 (v10+1))))) (some (.inr (.inr ())))
def Xe4 (v:Fs_):Int→Option ((Int⊕Unit)):=
 Yap fun s=>Xe4.B v s
def Xb8 (v:Fs_):Option Int:=
 (Xd5 v.1).bind fun v2=>cond (v2 != 0) (some v2) (cond (cond (!((v.1.length:Int) == 0)) (inB 0 v.1.length) true) ((some (cond ((v.1.length:Int) == 0) true ((v.1.getD (0:Int).toNat Xc).1 != 2))).bind fun v3=>cond (cond v3 true ((v.2.1.length:Int) != 20)) (some 1) ((Xe3 v 0).bind fun v6=>sel v6 (fun v7=>some v7) (fun v8=>(Xd7 v.1).bind fun v9=>cond (!v9.2) (some 7) ((Xe4 v 0).bind fun v18=>sel v18 (fun v19=>some v19) (fun v20=>some 0))))) none)
namespace Xb8
def G:Gam:=mkG [(50,Xd5.FS),(51,Xd7.FS)]
theorem Gok:GOk PR G:=.cons Xd5.ok (.cons Xd7.ok .nil)
end Xb8
namespace Xe3
def c:=Yal (Yah Proofs.Tryz.f32) [1,1,1,0,1,0,0]
def sp:SP:=⟨[(0,.pt Xn),(4,.cs I64)],[]⟩
def fr:=Yig sp (fun x s=>Xe3.B x.1.1 s) (fun x=>x.1.2.1) fun x (oo0:(Int⊕Unit)) _ kk0=>sel oo0 (fun bb0=>kk0 (.rt) ⟨[(2,.cs I64 bb0)],[]⟩) (fun cc0=>kk0 (.ex 0) ⟨[(0,.pt Xn x.1.1)],[]⟩)
theorem ok:Ya6 PR 122 1 (.loop c) fr:=
 Yr7 Xe Xd h0 .no (G:=Xb8.G) Xb8.Gok (L:=mkL []) (l:=[]) hT [(0,([0],[]))] ([2],[]) (fun x s=>((x.1.1,s,x.1.2.2),x.2))
  (fun x s=>by simp only[B,mC,mB,mS,mO,mN];kernel_rfl)
end Xe3
namespace Xdl
def c:=Yal (Yah Proofs.Tryz.f32) [1,1,1,1,1,0,1,0,0,1,0,0,1,0,0]
def sp:SP:=⟨[(0,.pt Xn),(7,.cs I64),(8,.cs I64)],[]⟩
def fr:=Yig sp (fun x s=>Xdl.B x.1.1 x.1.2.1 s) (fun x=>x.1.2.2.1) fun x (oo0:(Int⊕Unit)) _ kk0=>sel oo0 (fun bb0=>kk0 (.rt) ⟨[(2,.cs I64 bb0)],[]⟩) (fun cc0=>kk0 (.ex 4) ⟨[(0,.pt Xn x.1.1),(7,.cs I64 x.1.2.1)],[]⟩)
theorem ok:Ya6 PR 122 1 (.loop c) fr:=
 Yr7 Xe Xd h0 .no (G:=Xb8.G) Xb8.Gok (L:=mkL []) (l:=[]) hT [(4,([0,7],[]))] ([2],[]) (fun x s=>((x.1.1,x.1.2.1,s,x.1.2.2.2),x.2))
  (fun x s=>by simp only[B,mC,mB,mS,mO,mN];kernel_rfl)
end Xdl
namespace Xe4
def c:=Yal (Yah Proofs.Tryz.f32) [1,1,1,1,1,0,1,0,0]
def sp:SP:=⟨[(0,.pt Xn),(7,.cs I64)],[]⟩
def fr:=Yig sp (fun x s=>Xe4.B x.1.1 s) (fun x=>x.1.2.1) fun x (oo0:(Int⊕Unit)) _ kk0=>sel oo0 (fun bb0=>kk0 (.rt) ⟨[(2,.cs I64 bb0)],[]⟩) (fun cc0=>kk0 (.ex 2) ⟨[],[]⟩)
theorem ok:Ya6 PR 122 1 (.loop c) fr:=
 Yr7 Xe Xd h0 (.R (.L (.one (.R (.one (.fr 2)))))) (G:=Xb8.G) Xb8.Gok (L:=mkL [(2,Xdl.fr)]) (l:=[(2,.loop Xdl.c)]) ⟨Lam.cons Xdl.ok,trivial⟩ [(2,([],[]))] ([2],[]) (fun x s=>((x.1.1,s,x.1.2.2),x.2))
  (fun x s=>by simp only[B,mC,mB,mS,mO,mN];kernel_rfl)
end Xe4
namespace Xb8
def pts:List PT:=[.pt Xn]
def FS:FS:=Yc6 [.sh] pts (fun x=>Xb8 x.1) fun t=>⟨[.cs I64 t],[]⟩
theorem ok:Ycv PR 32 FS:=
 Yvf Xe Xd Proofs.Tryz.f32 h0 (.R (.R (.R (.two (.R (.one (.fr 0))) (.R (.L (.R (.one (.fr 1))))))))) (G:=G) Gok (L:=mkL [(0,Xe3.fr),(2,Xdl.fr),(1,Xe4.fr)]) (l:=[(0,.loop Xe3.c),(1,.loop Xe4.c)]) ⟨Lam.cons Xe3.ok,Lam.skip rfl (Lam.skip rfl (Lam.cons Xe4.ok)),trivial⟩
  (fun x=>by simp only[Xb8,mC,mB,mS,mO,mN];kernel_rfl)
end Xb8
def Xcj.B (v:Fs_) (v3:Int) (v5:Int) (v7:Int) (v8:List Bool):Option ((Int×List Bool)⊕(List Bool)):=
 cond (inB v5 v8.length) (cond (cond (v8.getD v5.toNat false) (inB v5 v.1.length) true) ((some (cond (v8.getD v5.toNat false) (decide (v7<((v.1.getD v5.toNat Xc).2.2.2.2.1.length:Int))) false)).bind fun v9=>cond v9 (cond (inB v5 v.1.length) (cond (inB v7 ((v.1.getD v5.toNat Xc).2.2.2.2.1.length)) ((some ((v.1.getD v5.toNat Xc).2.2.2.2.1.getD v7.toNat Xm).2.1).bind fun v10=>cond (inB v10 v8.length) (some (.inl (w64 (v7+1),v8.set v10.toNat true))) none) none) none) (some (.inr v8))) none) none
def Xcj (v:Fs_) (v3:Int) (v5:Int):(Int×List Bool)→Option (List Bool):=
 Yap fun s=>Xcj.B v v3 v5 s.1 s.2
def Xdm.B (v:Fs_) (v3:Int) (v5:Int) (v6:List Bool):Option ((Int×List Bool)⊕(List Bool)):=
 cond (decide (v5<(v.1.length:Int))) ((Xcj v v3 v5 (0,v6)).bind fun v11=>some (.inl (w64 (v5+1),v11))) (some (.inr v6))
def Xdm (v:Fs_) (v3:Int):(Int×List Bool)→Option (List Bool):=
 Yap fun s=>Xdm.B v v3 s.1 s.2
def Xd8.B (v:Fs_) (v3:Int) (v4:List Bool):Option ((Int×List Bool)⊕(List Bool)):=
 cond (decide (v3<(v.1.length:Int))) ((Xdm v v3 (0,v4)).bind fun v12=>some (.inl (w64 (v3+1),v12))) (some (.inr v4))
def Xd8 (v:Fs_):(Int×List Bool)→Option (List Bool):=
 Yap fun s=>Xd8.B v s.1 s.2
def Xd9.B (v13:List Bool) (v14:Int) (v15:List Int):Option ((Int×List Int)⊕(List Int)):=
 cond (decide (v14<(v13.length:Int))) (cond (inB v14 v13.length) (cond (v13.getD v14.toNat false) (cond (decide ((v15++([v14])).length≤2147483648)) (some (.inl (w64 (v14+1),v15++([v14])))) none) (some (.inl (w64 (v14+1),v15)))) none) (some (.inr v15))
def Xd9 (v13:List Bool):(Int×List Int)→Option (List Int):=
 Yap fun s=>Xd9.B v13 s.1 s.2
def Xgk (v:Fs_):Option (List Int):=
 cond (decide ((0:Int)≤(v.1.length:Int))&&(decide ((v.1.length:Int)≤(v.1.length:Int))&&decide ((v.1.length:Int)≤2147483648))) (cond (inB 0 ((List.replicate (v.1.length:Int).toNat false).length)) ((some ((List.replicate (v.1.length:Int).toNat false).set ((0:Int).toNat) true)).bind fun v2=>(Xd8 v (0,v2)).bind fun v13=>(Xd9 v13 (0,[])).bind fun v16=>some v16) none) none
namespace Xcj
def c:=Yal (Yah Proofs.Tryz.f52) [1,1,1,0,1,0,0,1,0,0,1,0,0,1,0,0,1,0,0]
def sp:SP:=⟨[(0,.pt Xn),(3,.seg 3 []),(4,.cs I64),(5,.cs I64),(6,.cs I64)],[(3,.reg,.cd (.sl .bool))]⟩
def fr:=Yig sp (fun x s=>Xcj.B x.1.1 x.1.2.2.1 x.1.2.2.2.1 s.1 s.2) (fun x=>(x.1.2.2.2.2.1,x.2.1)) fun x (bb0:List Bool) _ kk0=>kk0 (.ex 4) ⟨[(0,.pt Xn x.1.1),(3,.seg 3 []),(4,.cs I64 x.1.2.2.1),(5,.cs I64 x.1.2.2.2.1)],[sr 3 (.cd (.sl .bool) bb0)]⟩
theorem ok:Ya6 PR 84 1 (.loop c) fr:=
 Yu9 Xe Xd h0 [(4,([0,3,4,5],[3]))] (fun x s=>((x.1.1,x.1.2.1,x.1.2.2.1,x.1.2.2.2.1,s.1,x.1.2.2.2.2.2),(s.2,x.2.2)))
  (fun x s=>by simp only[B,mC,mB,mS,mO,mN];kernel_rfl)
end Xcj
namespace Xdm
def c:=Yal (Yah Proofs.Tryz.f52) [1,1,1,0,1,0,0,1,0,0,1,0,0]
def sp:SP:=⟨[(0,.pt Xn),(3,.seg 3 []),(4,.cs I64),(5,.cs I64)],[(3,.reg,.cd (.sl .bool))]⟩
def fr:=Yig sp (fun x s=>Xdm.B x.1.1 x.1.2.2.1 s.1 s.2) (fun x=>(x.1.2.2.2.1,x.2.1)) fun x (bb0:List Bool) _ kk0=>kk0 (.ex 2) ⟨[(0,.pt Xn x.1.1),(3,.seg 3 []),(4,.cs I64 x.1.2.2.1)],[sr 3 (.cd (.sl .bool) bb0)]⟩
theorem ok:Ya6 PR 84 1 (.loop c) fr:=
 Yvg Xe Xd h0 (.R (.L (.one (.R (.one (.fr 2)))))) (L:=mkL [(2,Xcj.fr)]) (l:=[(2,.loop Xcj.c)]) ⟨Lam.cons Xcj.ok,trivial⟩ [(2,([0,3,4],[3]))] (fun x s=>((x.1.1,x.1.2.1,x.1.2.2.1,s.1,x.1.2.2.2.2),(s.2,x.2.2)))
  (fun x s=>by simp only[B,mC,mB,mS,mO,mN];kernel_rfl)
end Xdm
namespace Xd8
def c:=Yal (Yah Proofs.Tryz.f52) [1,1,1,0,1,0,0]
def sp:SP:=⟨[(0,.pt Xn),(3,.seg 3 []),(4,.cs I64)],[(3,.reg,.cd (.sl .bool))]⟩
def fr:=Yig sp (fun x s=>Xd8.B x.1.1 s.1 s.2) (fun x=>(x.1.2.2.1,x.2.1)) fun x (bb0:List Bool) _ kk0=>kk0 (.ex 0) ⟨[(3,.seg 3 [])],[sr 3 (.cd (.sl .bool) bb0)]⟩
theorem ok:Ya6 PR 84 1 (.loop c) fr:=
 Yvg Xe Xd h0 (.R (.L (.one (.R (.one (.fr 1)))))) (L:=mkL [(2,Xcj.fr),(1,Xdm.fr)]) (l:=[(1,.loop Xdm.c)]) ⟨Lam.skip rfl (Lam.cons Xdm.ok),trivial⟩ [(0,([3],[3]))] (fun x s=>((x.1.1,x.1.2.1,s.1,x.1.2.2.2),(s.2,x.2.2)))
  (fun x s=>by simp only[B,mC,mB,mS,mO,mN];kernel_rfl)
end Xd8
namespace Xd9
def c:=Yal (Yah Proofs.Tryz.f52) [1,1,1,1,1,0,1,0,0]
def sp:SP:=⟨[(3,.seg 3 []),(7,.seg 7 []),(8,.cs I64)],[(3,.reg,.cd (.sl .bool)),(7,.reg,.cd SI)]⟩
def fr:=Yig sp (fun x s=>Xd9.B x.2.1 s.1 s.2) (fun x=>(x.1.2.2.1,x.2.2.1)) fun x (bb0:List Int) _ kk0=>kk0 (.ex 6) ⟨[(7,.seg 7 [])],[sr 7 (.cd SI bb0)]⟩
theorem ok:Ya6 PR 84 1 (.loop c) fr:=
 Yu9 Xe Xd h0 [(6,([7],[7]))] (fun x s=>((x.1.1,x.1.2.1,s.1,x.1.2.2.2),(x.2.1,s.2,x.2.2.2)))
  (fun x s=>by simp only[B,mC,mB,mS,mO,mN];kernel_rfl)
end Xd9
namespace Xgk
def pts:List PT:=[.pt Xn]
def FS:FS:=Yc6 [.sh] pts (fun x=>Xgk x.1) fun t=>⟨[.cd SI t],[]⟩
theorem ok:Ycv PR 52 FS:=
 Yvf Xe Xd Proofs.Tryz.f52 h0 (.R (.R (.R (.two (.R (.one (.fr 0))) (.R (.L (.R (.one (.fr 3))))))))) (G:=(mkG [])) .nil (L:=mkL [(2,Xcj.fr),(1,Xdm.fr),(0,Xd8.fr),(3,Xd9.fr)]) (l:=[(0,.loop Xd8.c),(3,.loop Xd9.c)]) ⟨Lam.skip rfl (Lam.skip rfl (Lam.cons Xd8.ok)),Lam.skip rfl (Lam.skip rfl (Lam.skip rfl (Lam.cons Xd9.ok))),trivial⟩
  (fun x=>by simp only[Xgk,mC,mB,mS,mO,mN];kernel_rfl)
end Xgk
def Xdn.B (v:List Xa) (v2:Int) (v4:Int) (v5:Int) (v6:Int):Option ((Int×Int)⊕Int):=
 cond (inB v4 v.length) ((some ((v.getD v4.toNat Xc).2.2.2.2.1.length:Int)).bind fun v7=>cond (decide (v6<v7)) (cond (inB v4 v.length) (cond (inB v6 ((v.getD v4.toNat Xc).2.2.2.2.1.length)) ((some ((v.getD v4.toNat Xc).2.2.2.2.1.getD v6.toNat Xm).2.1).bind fun v8=>cond (v8 == v2) (some (.inl (w64 (v5+1),w64 (v6+1)))) (some (.inl (v5,w64 (v6+1))))) none) none) (some (.inr v5))) none
def Xdn (v:List Xa) (v2:Int) (v4:Int):(Int×Int)→Option Int:=
 Yap fun s=>Xdn.B v v2 v4 s.1 s.2
def Xea.B (v:List Xa) (v2:Int) (v3:Int) (v4:Int):Option ((Int×Int)⊕Int):=
 cond (decide (v4<(v.length:Int))) ((Xdn v v2 v4 (v3,0)).bind fun v9=>some (.inl (v9,w64 (v4+1)))) (some (.inr v3))
def Xea (v:List Xa) (v2:Int):(Int×Int)→Option Int:=
 Yap fun s=>Xea.B v v2 s.1 s.2
def Xgl (v:List Xa) (v2:Int):Option Int:=
 (Xea v v2 (0,0)).bind fun v10=>some v10
namespace Xdn
def c:=Yal (Yah Proofs.Tryz.f53) [1,1,0,1,0,0,1,0,0,1,0,0]
def sp:SP:=⟨[(0,.cs (.sl Xb)),(1,.cs I64),(5,.cs I64),(6,.cs I64),(7,.cs I64)],[]⟩
def fr:=Yig sp (fun x s=>Xdn.B x.1.1 x.1.2.1 x.1.2.2.2.1 s.1 s.2) (fun x=>(x.1.2.2.1,x.1.2.2.2.2.1)) fun x (bb0:Int) _ kk0=>kk0 (.ex 2) ⟨[(0,.cs (.sl Xb) x.1.1),(1,.cs I64 x.1.2.1),(5,.cs I64 bb0),(6,.cs I64 x.1.2.2.2.1)],[]⟩
theorem ok:Ya6 PR 38 2 (.loop c) fr:=
 Yu9 Xe Xd h0 [(2,([0,1,5,6],[]))] (fun x s=>((x.1.1,x.1.2.1,s.1,x.1.2.2.2.1,s.2,x.1.2.2.2.2.2),x.2))
  (fun x s=>by simp only[B,mC,mB,mS,mO,mN];kernel_rfl)
end Xdn
namespace Xea
def c:=Yal (Yah Proofs.Tryz.f53) [1,1,0,1,0,0]
def sp:SP:=⟨[(0,.cs (.sl Xb)),(1,.cs I64),(5,.cs I64),(6,.cs I64)],[]⟩
def fr:=Yig sp (fun x s=>Xea.B x.1.1 x.1.2.1 s.1 s.2) (fun x=>(x.1.2.2.1,x.1.2.2.2.1)) fun x (bb0:Int) _ kk0=>kk0 (.ex 0) ⟨[(5,.cs I64 bb0)],[]⟩
theorem ok:Ya6 PR 38 2 (.loop c) fr:=
 Yvg Xe Xd h0 (.R (.L (.one (.R (.one (.fr 1)))))) (L:=mkL [(1,Xdn.fr)]) (l:=[(1,.loop Xdn.c)]) ⟨Lam.cons Xdn.ok,trivial⟩ [(0,([5],[]))] (fun x s=>((x.1.1,x.1.2.1,s.1,s.2,x.1.2.2.2.2),x.2))
  (fun x s=>by simp only[B,mC,mB,mS,mO,mN];kernel_rfl)
end Xea
namespace Xgl
def pts:List PT:=[.cs (.sl Xb),.cs I64]
def FS:FS:=Yc6 [.sh,.sh] pts (fun x=>Xgl x.1 x.2.1) fun t=>⟨[.cs I64 t],[]⟩
theorem ok:Ycv PR 53 FS:=
 Yvf Xe Xd Proofs.Tryz.f53 h0 (.R (.R (.L (.R (.one (.fr 0)))))) (G:=(mkG [])) .nil (L:=mkL [(1,Xdn.fr),(0,Xea.fr)]) (l:=[(0,.loop Xea.c)]) ⟨Lam.skip rfl (Lam.cons Xea.ok),trivial⟩
  (fun x=>by simp only[Xgl,mC,mB,mS,mO,mN];kernel_rfl)
end Xgl
def Xe5.B (v:List Int) (v2:Int) (v3:Int):Option (Int⊕((Bool⊕Unit))):=
 cond (decide (v3<(v.length:Int))) (cond (inB v3 v.length) (cond ((v.getD v3.toNat 0) == v2) (some (.inr (.inl true))) (some (.inl (w64 (v3+1))))) none) (some (.inr (.inr ())))
def Xe5 (v:List Int) (v2:Int):Int→Option ((Bool⊕Unit)):=
 Yap fun s=>Xe5.B v v2 s
def Xfn (v:List Int) (v2:Int):Option Bool:=
 (Xe5 v v2 0).bind fun v4=>sel v4 (fun v5=>some v5) (fun v6=>some false)
namespace Xe5
def c:=Yal (Yah Proofs.Tryz.f27) [1,0,1,0,0]
def sp:SP:=⟨[(0,.cs SI),(1,.cs I64),(5,.cs I64)],[]⟩
def fr:=Yig sp (fun x s=>Xe5.B x.1.1 x.1.2.1 s) (fun x=>x.1.2.2.1) fun x (oo0:(Bool⊕Unit)) _ kk0=>sel oo0 (fun bb0=>kk0 (.rt) ⟨[(4,.cs .bool bb0)],[]⟩) (fun cc0=>kk0 (.ex 0) ⟨[],[]⟩)
theorem ok:Ya6 PR 18 2 (.loop c) fr:=
 Yr7 Xe Xd h0 .no (G:=(mkG [])) .nil (L:=mkL []) (l:=[]) hT [(0,([],[]))] ([4],[]) (fun x s=>((x.1.1,x.1.2.1,s,x.1.2.2.2),x.2))
  (fun x s=>by simp only[B,mC,mB,mS,mO,mN];kernel_rfl)
end Xe5
namespace Xfn
def pts:List PT:=[.cs SI,.cs I64]
def FS:FS:=Yc6 [.sh,.sh] pts (fun x=>Xfn x.1 x.2.1) fun t=>⟨[.cs .bool t],[]⟩
theorem ok:Ycv PR 27 FS:=
 Yvf Xe Xd Proofs.Tryz.f27 h0 (.R (.L (.R (.one (.fr 0))))) (G:=(mkG [])) .nil (L:=mkL [(0,Xe5.fr)]) (l:=[(0,.loop Xe5.c)]) ⟨Lam.cons Xe5.ok,trivial⟩
  (fun x=>by simp only[Xfn,mC,mB,mS,mO,mN];kernel_rfl)
end Xfn
def Xe6.B (v:Fs_) (v2:List Int) (v3:Int):Option (Int⊕((Bool⊕Unit))):=
 cond (decide (v3<(v.1.length:Int))) (cond (inB v3 v.1.length) ((Xgl v.1 v3).bind fun v4=>cond ((v.1.getD v3.toNat Xc).1 == 0) (some (.inl (w64 (v3+1)))) (cond ((v.1.getD v3.toNat Xc).1 == 1) (cond (v4 != (v.1.getD v3.toNat Xc).2.1) (some (.inr (.inl false))) ((Xfn v2 v3).bind fun v5=>cond (!v5) (some (.inr (.inl false))) (some (.inl (w64 (v3+1)))))) (cond (v3 == 0) (cond (v4 != 0) (some (.inr (.inl false))) ((Xfn v2 v3).bind fun v6=>cond (!v6) (some (.inr (.inl false))) (some (.inl (w64 (v3+1)))))) (cond (v4 != 1) (some (.inr (.inl false))) ((Xfn v2 v3).bind fun v7=>cond (!v7) (some (.inr (.inl false))) (some (.inl (w64 (v3+1))))))))) none) (some (.inr (.inr ())))
def Xe6 (v:Fs_) (v2:List Int):Int→Option ((Bool⊕Unit)):=
 Yap fun s=>Xe6.B v v2 s
def Xeb (v:Fs_):Option Bool:=
 (Xgk v).bind fun v2=>(Xe6 v v2 0).bind fun v8=>sel v8 (fun v9=>some v9) (fun v10=>some true)
namespace Xeb
def G:Gam:=mkG [(52,Xgk.FS),(53,Xgl.FS),(27,Xfn.FS)]
theorem Gok:GOk PR G:=.cons Xgk.ok (.cons Xgl.ok (.cons Xfn.ok .nil))
end Xeb
namespace Xe6
def c:=Yal (Yah Proofs.Tryz.f33) [1,1,0,1,0,0]
def sp:SP:=⟨[(0,.pt Xn),(3,.seg 3 []),(4,.cs I64)],[(3,.reg,.cd SI)]⟩
def fr:=Yig sp (fun x s=>Xe6.B x.1.1 x.2.1 s) (fun x=>x.1.2.2.1) fun x (oo0:(Bool⊕Unit)) _ kk0=>sel oo0 (fun bb0=>kk0 (.rt) ⟨[(2,.cs .bool bb0)],[]⟩) (fun cc0=>kk0 (.ex 0) ⟨[],[]⟩)
theorem ok:Ya6 PR 59 1 (.loop c) fr:=
 Yr7 Xe Xd h0 .no (G:=Xeb.G) Xeb.Gok (L:=mkL []) (l:=[]) hT [(0,([],[]))] ([2],[]) (fun x s=>((x.1.1,x.1.2.1,s,x.1.2.2.2),x.2))
  (fun x s=>by simp only[B,mC,mB,mS,mO,mN];kernel_rfl)
end Xe6
namespace Xeb
def pts:List PT:=[.pt Xn]
def FS:FS:=Yc6 [.sh] pts (fun x=>Xeb x.1) fun t=>⟨[.cs .bool t],[]⟩
theorem ok:Ycv PR 33 FS:=
 Yvf Xe Xd Proofs.Tryz.f33 h0 (.R (.R (.L (.R (.one (.fr 0)))))) (G:=G) Gok (L:=mkL [(0,Xe6.fr)]) (l:=[(0,.loop Xe6.c)]) ⟨Lam.cons Xe6.ok,trivial⟩
  (fun x=>by simp only[Xeb,mC,mB,mS,mO,mN];kernel_rfl)
end Xeb
def Xgm (v:Int) (v2:Int):Option Int:=
 cond (decide (v<v2)) (some v) (some v2)
namespace Xgm
def pts:List PT:=[.cs I64,.cs I64]
def FS:FS:=Yc6 [.sh,.sh] pts (fun x=>Xgm x.1 x.2.1) fun t=>⟨[.cs I64 t],[]⟩
theorem ok:Ycv PR 54 FS:=
 Yvf Xe Xd Proofs.Tryz.f54 h0 .no (G:=(mkG [])) .nil (L:=mkL []) (l:=[]) hT
  (fun x=>by simp only[Xgm,mC,mB,mS,mO,mN];kernel_rfl)
end Xgm
def Xdo.B (v:Fs_) (v2:Int) (v4:Xa) (v5:Int) (v6:List Int):Option ((Int×List Int)⊕(List Int)):=
 cond (decide (v5<(v4.2.2.2.1.length:Int))) (cond (inB v5 v4.2.2.2.1.length) ((Xgm 8 (w64 (v4.2.2.1-(w64 (v5*8))))).bind fun v7=>cond (inB (v4.2.2.2.1.getD v5.toNat 0) v6.length) (some (.inl (w64 (v5+1),v6.set ((v4.2.2.2.1.getD v5.toNat 0).toNat) v7))) none) none) (some (.inr v6))
def Xdo (v:Fs_) (v2:Int) (v4:Xa):(Int×List Int)→Option (List Int):=
 Yap fun s=>Xdo.B v v2 v4 s.1 s.2
def Xec.B (v:Fs_) (v2:Int) (v3:List Int):Option ((Int×List Int)⊕(List Int)):=
 cond (decide (v2<(v.1.length:Int))) (cond (inB v2 v.1.length) ((Xdo v v2 (v.1.getD v2.toNat Xc) (0,v3)).bind fun v8=>some (.inl (w64 (v2+1),v8))) none) (some (.inr v3))
def Xec (v:Fs_):(Int×List Int)→Option (List Int):=
 Yap fun s=>Xec.B v s.1 s.2
def Xe7.B (v:Fs_) (v9:List Int) (v10:Int):Option (Int⊕((Bool⊕Unit))):=
 cond (decide (v10<(v.2.1.length:Int))) (cond (inB v10 v.2.1.length) (cond (inB v10 v9.length) ((some (((v.2.1.getD v10.toNat []).length:Int) != (v9.getD v10.toNat 0))).bind fun v11=>cond v11 (some (.inr (.inl false))) (some (.inl (w64 (v10+1))))) none) none) (some (.inr (.inr ())))
def Xe7 (v:Fs_) (v9:List Int):Int→Option ((Bool⊕Unit)):=
 Yap fun s=>Xe7.B v v9 s
def Xb9 (v:Fs_):Option Bool:=
 cond (decide ((0:Int)≤(20:Int))&&(decide ((20:Int)≤(20:Int))&&decide ((20:Int)≤2147483648))) ((Xec v (0,List.replicate (20:Int).toNat 0)).bind fun v9=>(Xe7 v v9 0).bind fun v12=>sel v12 (fun v13=>some v13) (fun v14=>some true)) none
namespace Xb9
def G:Gam:=mkG [(54,Xgm.FS)]
theorem Gok:GOk PR G:=.cons Xgm.ok .nil
end Xb9
namespace Xdo
def c:=Yal (Yah Proofs.Tryz.f34) [1,1,0,1,0,0,1,0,0,1,1,0,0]
def sp:SP:=⟨[(0,.pt Xn),(3,.seg 3 []),(4,.cs I64),(5,.pt Xb),(6,.cs I64)],[(3,.reg,.cd SI)]⟩
def fr:=Yig sp (fun x s=>Xdo.B x.1.1 x.1.2.2.1 x.1.2.2.2.1 s.1 s.2) (fun x=>(x.1.2.2.2.2.1,x.2.1)) fun x (bb0:List Int) _ kk0=>kk0 (.ex 2) ⟨[(0,.pt Xn x.1.1),(3,.seg 3 []),(4,.cs I64 x.1.2.2.1)],[sr 3 (.cd SI bb0)]⟩
theorem ok:Ya6 PR 72 1 (.loop c) fr:=
 Yvh Xe Xd h0 (G:=Xb9.G) Xb9.Gok [(2,([0,3,4],[3]))] (fun x s=>((x.1.1,x.1.2.1,x.1.2.2.1,x.1.2.2.2.1,s.1,x.1.2.2.2.2.2),(s.2,x.2.2)))
  (fun x s=>by simp only[B,mC,mB,mS,mO,mN];kernel_rfl)
end Xdo
namespace Xec
def c:=Yal (Yah Proofs.Tryz.f34) [1,1,0,1,0,0]
def sp:SP:=⟨[(0,.pt Xn),(3,.seg 3 []),(4,.cs I64)],[(3,.reg,.cd SI)]⟩
def fr:=Yig sp (fun x s=>Xec.B x.1.1 s.1 s.2) (fun x=>(x.1.2.2.1,x.2.1)) fun x (bb0:List Int) _ kk0=>kk0 (.ex 0) ⟨[(0,.pt Xn x.1.1),(3,.seg 3 [])],[sr 3 (.cd SI bb0)]⟩
theorem ok:Ya6 PR 72 1 (.loop c) fr:=
 Yvi Xe Xd h0 (.R (.L (.one (.R (.R (.one (.fr 1))))))) (G:=Xb9.G) Xb9.Gok (L:=mkL [(1,Xdo.fr)]) (l:=[(1,.loop Xdo.c)]) ⟨Lam.cons Xdo.ok,trivial⟩ [(0,([0,3],[3]))] (fun x s=>((x.1.1,x.1.2.1,s.1,x.1.2.2.2),(s.2,x.2.2)))
  (fun x s=>by simp only[B,mC,mB,mS,mO,mN];kernel_rfl)
end Xec
namespace Xe7
def c:=Yal (Yah Proofs.Tryz.f34) [1,1,1,0,1,0,0]
def sp:SP:=⟨[(0,.pt Xn),(3,.seg 3 []),(7,.cs I64)],[(3,.reg,.cd SI)]⟩
def fr:=Yig sp (fun x s=>Xe7.B x.1.1 x.2.1 s) (fun x=>x.1.2.2.1) fun x (oo0:(Bool⊕Unit)) _ kk0=>sel oo0 (fun bb0=>kk0 (.rt) ⟨[(2,.cs .bool bb0)],[]⟩) (fun cc0=>kk0 (.ex 4) ⟨[],[]⟩)
theorem ok:Ya6 PR 72 1 (.loop c) fr:=
 Yr7 Xe Xd h0 .no (G:=Xb9.G) Xb9.Gok (L:=mkL []) (l:=[]) hT [(4,([],[]))] ([2],[]) (fun x s=>((x.1.1,x.1.2.1,s,x.1.2.2.2),x.2))
  (fun x s=>by simp only[B,mC,mB,mS,mO,mN];kernel_rfl)
end Xe7
namespace Xb9
def pts:List PT:=[.pt Xn]
def FS:FS:=Yc6 [.sh] pts (fun x=>Xb9 x.1) fun t=>⟨[.cs .bool t],[]⟩
theorem ok:Ycv PR 34 FS:=
 Yvf Xe Xd Proofs.Tryz.f34 h0 (.R (.R (.two (.R (.one (.fr 0))) (.L (.R (.one (.fr 2))))))) (G:=G) Gok (L:=mkL [(1,Xdo.fr),(0,Xec.fr),(2,Xe7.fr)]) (l:=[(0,.loop Xec.c),(2,.loop Xe7.c)]) ⟨Lam.skip rfl (Lam.cons Xec.ok),Lam.skip rfl (Lam.skip rfl (Lam.cons Xe7.ok)),trivial⟩
  (fun x=>by simp only[Xb9,mC,mB,mS,mO,mN];kernel_rfl)
end Xb9
def Xgn (v:Fs_):Option Int:=
 (Xb8 v).bind fun v2=>cond (v2 != 0) (some v2) ((Xeb v).bind fun v3=>cond (!v3) (some 1) ((Xb9 v).bind fun v4=>cond (!v4) (some 1) (some 0)))
namespace Xgn
def G:Gam:=mkG [(32,Xb8.FS),(33,Xeb.FS),(34,Xb9.FS)]
def pts:List PT:=[.pt Xn]
def FS:FS:=Yc6 [.sh] pts (fun x=>Xgn x.1) fun t=>⟨[.cs I64 t],[]⟩
theorem ok:Ycv PR 15 FS:=
 Yvf Xe Xd Proofs.Tryz.f15 h0 .no (G:=G) (show GOk PR G from .cons Xb8.ok (.cons Xeb.ok (.cons Xb9.ok .nil))) (L:=mkL []) (l:=[]) hT
  (fun x=>by simp only[Xgn,mC,mB,mS,mO,mN];kernel_rfl)
end Xgn
def Xg2 (v:Fs_) (v2:Int):Option Bool:=
 (Xaw v2 0 (w64 ((v.1.length:Int)-1))).bind fun v3=>some v3
namespace Xg2
def G:Gam:=mkG [(26,Xaw.FS)]
def pts:List PT:=[.pt Xn,.cs I64]
def FS:FS:=Yc6 [.sh,.sh] pts (fun x=>Xg2 x.1 x.2.1) fun t=>⟨[.cs .bool t],[]⟩
theorem ok:Ycv PR 16 FS:=
 Yvf Xe Xd Proofs.Tryz.f16 h0 .no (G:=G) (show GOk PR G from .cons Xaw.ok .nil) (L:=mkL []) (l:=[]) hT
  (fun x=>by simp only[Xg2,mC,mB,mS,mO,mN];kernel_rfl)
end Xg2
abbrev X5.Ty:Type:=Fs_→Int→(List UInt8)→Int→Option (List (List UInt8))
def Xcr.B (self:X5.Ty) (v:Fs_) (v2:Int) (v3:List UInt8) (v4:Int) (v5:Int) (v6:List (List UInt8)):Option ((Int×List (List UInt8))⊕(List (List UInt8))):=
 cond (cond (decide (v4>0)) (inB v2 v.1.length) true) ((some (cond (decide (v4>0)) (decide (v5<((v.1.getD v2.toNat Xc).2.2.2.2.1.length:Int))) false)).bind fun v7=>cond v7 (cond (inB v2 v.1.length) (cond (inB v5 ((v.1.getD v2.toNat Xc).2.2.2.2.1.length)) ((some ((v.1.getD v2.toNat Xc).2.2.2.2.1.getD v5.toNat Xm)).bind fun v8=>cond (decide (v3.length+([47]:List UInt8).length≤2147483648)) (cond (decide ((v3++([47]:List UInt8)).length+v8.1.length≤2147483648)) (cond (decide ((v6++([(v3++([47]:List UInt8))++v8.1])).length≤2147483648)) (cond (inB v8.2.1 v.1.length) (cond ((v.1.getD v8.2.1.toNat Xc).1 == 2) ((self v v8.2.1 ((v3++([47]:List UInt8))++v8.1) (w64 (v4-1))).bind fun v9=>(some ((v6++([(v3++([47]:List UInt8))++v8.1]))++v9)).bind fun v10=>cond (decide (v10.length≤2147483648)) (some (.inl (w64 (v5+1),v10))) none) (some (.inl (w64 (v5+1),v6++([(v3++([47]:List UInt8))++v8.1]))))) none) none) none) none) none) none) (some (.inr v6))) none
def Xcr (self:X5.Ty) (v:Fs_) (v2:Int) (v3:List UInt8) (v4:Int):(Int×List (List UInt8))→Option (List (List UInt8)):=
 Yap fun s=>Xcr.B self v v2 v3 v4 s.1 s.2
def X5.step (self:X5.Ty) (v:Fs_) (v2:Int) (v3:List UInt8) (v4:Int):Option (List (List UInt8)):=
 (Xcr self v v2 v3 v4 (0,[])).bind fun v11=>some v11
def X5.R:Nat→X5.Ty
 |0=>fun _ _ _ _=>none
 |k+1=>fun v v2 v3 v4=>X5.step (X5.R k) v v2 v3 v4
def X5 (v:Fs_) (v2:Int) (v3:List UInt8) (v4:Int):Option (List (List UInt8)):=
 X5.R 40 v v2 v3 v4
namespace X5
def pts:List PT:=[.pt Xn,.cs I64,.cs .str,.cs I64]
noncomputable def FSr (self:Ty):FS:=Yc6 [.sh,.sh,.sh,.sh] pts (fun x=>self x.1 x.2.1 x.2.2.1 x.2.2.2.1) fun t=>⟨[.cd (.sl .str) t],[]⟩
noncomputable def G (self:Ty):Gam:=mkG [(35,FSr self)]
theorem Gok (self:Ty) (hs:Ycv PR 35 (FSr self)):GOk PR (G self):=.cons hs .nil
end X5
namespace Xcr
def c:=Yal (Yah Proofs.Tryz.f35) [1,1,0,1,0,0]
def sp:SP:=⟨[(0,.pt Xn),(1,.cs I64),(2,.cs .str),(3,.cs I64),(9,.seg 9 []),(10,.cs I64)],[(9,.reg,.cd (.sl .str))]⟩
noncomputable def fr (self:X5.Ty):=Yig sp (fun x s=>Xcr.B self x.1.1 x.1.2.1 x.1.2.2.1 x.1.2.2.2.1 s.1 s.2) (fun x=>(x.1.2.2.2.2.2.1,x.2.1)) fun x (bb0:List (List UInt8)) _ kk0=>kk0 (.ex 0) ⟨[(9,.seg 9 [])],[sr 9 (.cd (.sl .str) bb0)]⟩
theorem ok (self:X5.Ty) (hs:Ycv PR 35 (X5.FSr self)):Ya6 PR 71 4 (.loop c) (fr self):=
 Yvh Xe Xd h0 (G:=X5.G self) (X5.Gok self hs) [(0,([9],[9]))] (fun x s=>((x.1.1,x.1.2.1,x.1.2.2.1,x.1.2.2.2.1,x.1.2.2.2.2.1,s.1,x.1.2.2.2.2.2.2),(s.2,x.2.2)))
  (fun x s=>by simp only[B,mC,mB,mS,mO,mN];kernel_rfl)
end Xcr
namespace X5
def FS:FS:=Yc6 [.sh,.sh,.sh,.sh] pts (fun x=>X5 x.1 x.2.1 x.2.2.1 x.2.2.2.1) fun t=>⟨[.cd (.sl .str) t],[]⟩
theorem okS (self:Ty) (hs:Ycv PR 35 (FSr self)):Ycv PR 35 (FSr (step self)):=
 Yvf Xe Xd Proofs.Tryz.f35 h0 (.R (.R (.L (.R (.one (.fr 0)))))) (G:=(G self)) (Gok self hs) (L:=mkL [(0,Xcr.fr self)]) (l:=[(0,.loop Xcr.c)]) ⟨Lam.cons (Xcr.ok self hs),trivial⟩
  (fun x=>by simp only[step,mC,mB,mS,mO,mN];kernel_rfl)
theorem okR:∀ k,Ycv PR 35 (FSr (R k))
 |0=>Ycv.bot
 |k+1=>okS _ (okR k)
theorem ok:Ycv PR 35 FS:=okR 40
end X5
def Xgo (v:Fs_):Option (List (List UInt8)):=
 (X5 v 0 ([]:List UInt8) 6).bind fun v2=>cond (decide ((v2.length:Int)>60)) (cond (decide ((0:Int)≤(60:Int))&&decide ((60:Int)≤(v2.length:Int))) (some ((v2.drop 0).take (((60:Int).toNat)-0))) none) (some v2)
namespace Xgo
def G:Gam:=mkG [(35,X5.FS)]
def pts:List PT:=[.pt Xn]
def FS:FS:=Yc6 [.sh] pts (fun x=>Xgo x.1) fun t=>⟨[.cd (.sl .str) t],[]⟩
theorem ok:Ycv PR 17 FS:=
 Yvf Xe Xd Proofs.Tryz.f17 h0 .no (G:=G) (show GOk PR G from .cons X5.ok .nil) (L:=mkL []) (l:=[]) hT
  (fun x=>by simp only[Xgo,mC,mB,mS,mO,mN];kernel_rfl)
end Xgo
def Xcs.B (v:List UInt8) (v2:Int) (v3:Int) (v4:Int) (v5:List (List UInt8)):Option ((Int×Int×List (List UInt8))⊕(List (List UInt8))):=
 cond (decide (v4≤(v.length:Int))) (cond (cond (!(v4 == (v.length:Int))) (inB v4 v.length) true) ((some (cond (v4 == (v.length:Int)) true (((v.getD v4.toNat 0).toNat:Int) == v2))).bind fun v6=>cond v6 (cond (decide ((0:Int)≤v4)&&decide (v4≤(v.length:Int))&&(decide ((0:Int)≤v3)&&decide (v3≤v4))) (cond (decide ((v5++([(v.take v4.toNat).drop v3.toNat])).length≤2147483648)) (some (.inl (w64 (v4+1),w64 (v4+1),v5++([(v.take v4.toNat).drop v3.toNat])))) none) none) (some (.inl (v3,w64 (v4+1),v5)))) none) (some (.inr v5))
def Xcs (v:List UInt8) (v2:Int):(Int×Int×List (List UInt8))→Option (List (List UInt8)):=
 Yap fun s=>Xcs.B v v2 s.1 s.2.1 s.2.2
def Xf0 (v:List UInt8) (v2:Int):Option (List (List UInt8)):=
 (Xcs v v2 (0,0,[])).bind fun v7=>some v7
namespace Xcs
def c:=Yal (Yah Proofs.Tryz.f19) [1,1,1,0,1,0,0]
def sp:SP:=⟨[(0,.cs .str),(1,.cs U8),(5,.seg 5 []),(6,.cs I64),(7,.cs I64)],[(5,.reg,.cd (.sl .str))]⟩
def fr:=Yig sp (fun x s=>Xcs.B x.1.1 x.1.2.1 s.1 s.2.1 s.2.2) (fun x=>(x.1.2.2.2.1,x.1.2.2.2.2.1,x.2.1)) fun x (bb0:List (List UInt8)) _ kk0=>kk0 (.ex 0) ⟨[(5,.seg 5 [])],[sr 5 (.cd (.sl .str) bb0)]⟩
theorem ok:Ya6 PR 36 2 (.loop c) fr:=
 Yu9 Xe Xd h0 [(0,([5],[5]))] (fun x s=>((x.1.1,x.1.2.1,x.1.2.2.1,s.1,s.2.1,x.1.2.2.2.2.2),(s.2.2,x.2.2)))
  (fun x s=>by simp only[B,mC,mB,mS,mO,mN];kernel_rfl)
end Xcs
namespace Xf0
def pts:List PT:=[.cs .str,.cs U8]
def FS:FS:=Yc6 [.sh,.sh] pts (fun x=>Xf0 x.1 x.2.1) fun t=>⟨[.cd (.sl .str) t],[]⟩
theorem ok:Ycv PR 19 FS:=
 Yvf Xe Xd Proofs.Tryz.f19 h0 (.R (.R (.R (.L (.R (.one (.fr 0))))))) (G:=(mkG [])) .nil (L:=mkL [(0,Xcs.fr)]) (l:=[(0,.loop Xcs.c)]) ⟨Lam.cons Xcs.ok,trivial⟩
  (fun x=>by simp only[Xf0,mC,mB,mS,mO,mN];kernel_rfl)
end Xf0
def Xe8.B (v:List Xf) (v2:List UInt8) (v3:Int):Option (Int⊕((Int⊕Unit))):=
 cond (decide (v3<(v.length:Int))) (cond (inB v3 v.length) (cond ((v.getD v3.toNat Xm).1 == v2) (some (.inr (.inl v3))) (some (.inl (w64 (v3+1))))) none) (some (.inr (.inr ())))
def Xe8 (v:List Xf) (v2:List UInt8):Int→Option ((Int⊕Unit)):=
 Yap fun s=>Xe8.B v v2 s
def Xgp (v:List Xf) (v2:List UInt8):Option Int:=
 (Xe8 v v2 0).bind fun v4=>sel v4 (fun v5=>some v5) (fun v6=>some (-1))
namespace Xe8
def c:=Yal (Yah Proofs.Tryz.f36) [1,0,1,0,0]
def sp:SP:=⟨[(0,.cs (.sl Xl)),(1,.cs .str),(5,.cs I64)],[]⟩
def fr:=Yig sp (fun x s=>Xe8.B x.1.1 x.1.2.1 s) (fun x=>x.1.2.2.1) fun x (oo0:(Int⊕Unit)) _ kk0=>sel oo0 (fun bb0=>kk0 (.rt) ⟨[(4,.cs I64 bb0)],[]⟩) (fun cc0=>kk0 (.ex 0) ⟨[],[]⟩)
theorem ok:Ya6 PR 20 2 (.loop c) fr:=
 Yr7 Xe Xd h0 .no (G:=(mkG [])) .nil (L:=mkL []) (l:=[]) hT [(0,([],[]))] ([4],[]) (fun x s=>((x.1.1,x.1.2.1,s,x.1.2.2.2),x.2))
  (fun x s=>by simp only[B,mC,mB,mS,mO,mN];kernel_rfl)
end Xe8
namespace Xgp
def pts:List PT:=[.cs (.sl Xl),.cs .str]
def FS:FS:=Yc6 [.sh,.sh] pts (fun x=>Xgp x.1 x.2.1) fun t=>⟨[.cs I64 t],[]⟩
theorem ok:Ycv PR 36 FS:=
 Yvf Xe Xd Proofs.Tryz.f36 h0 (.R (.L (.R (.one (.fr 0))))) (G:=(mkG [])) .nil (L:=mkL [(0,Xe8.fr)]) (l:=[(0,.loop Xe8.c)]) ⟨Lam.cons Xe8.ok,trivial⟩
  (fun x=>by simp only[Xgp,mC,mB,mS,mO,mN];kernel_rfl)
end Xgp
def Xed.B (v:Fs_) (v2:List (List UInt8)) (v3:Int) (v4:Int):Option ((Int×Int)⊕(((Int×Int)⊕Int))):=
 cond (decide (v4<(v2.length:Int))) (cond (inB v3 v.1.length) (cond ((v.1.getD v3.toNat Xc).1 != 2) (some (.inr (.inl (0,9)))) (cond (inB v3 v.1.length) (cond (inB v4 v2.length) ((Xgp (v.1.getD v3.toNat Xc).2.2.2.2.1 (v2.getD v4.toNat [])).bind fun v5=>cond (decide (v5<0)) (some (.inr (.inl (0,4)))) (cond (inB v3 v.1.length) (cond (inB v5 ((v.1.getD v3.toNat Xc).2.2.2.2.1.length)) ((some ((v.1.getD v3.toNat Xc).2.2.2.2.1.getD v5.toNat Xm).2.1).bind fun v6=>some (.inl (v6,w64 (v4+1)))) none) none)) none) none)) none) (some (.inr (.inr v3)))
def Xed (v:Fs_) (v2:List (List UInt8)):(Int×Int)→Option (((Int×Int)⊕Int)):=
 Yap fun s=>Xed.B v v2 s.1 s.2
def Xee (v:Fs_) (v2:List (List UInt8)):Option (Int×Int):=
 (Xed v v2 (0,0)).bind fun v7=>sel v7 (fun v8=>some (v8.1,v8.2)) (fun v9=>some (v9,0))
namespace Xee
def G:Gam:=mkG [(36,Xgp.FS)]
theorem Gok:GOk PR G:=.cons Xgp.ok .nil
end Xee
namespace Xed
def c:=Yal (Yah Proofs.Tryz.f18) [1,1,0,1,0,0]
def sp:SP:=⟨[(0,.pt Xn),(1,.cs (.sl .str)),(6,.cs I64),(7,.cs I64)],[]⟩
def fr:=Yig sp (fun x s=>Xed.B x.1.1 x.1.2.1 s.1 s.2) (fun x=>(x.1.2.2.1,x.1.2.2.2.1)) fun x (oo0:((Int×Int)⊕Int)) _ kk0=>sel oo0 (fun bb0=>kk0 (.rt) ⟨[(4,.cs I64 bb0.1),(5,.cs I64 bb0.2)],[]⟩) (fun cc0=>kk0 (.ex 0) ⟨[(6,.cs I64 cc0)],[]⟩)
theorem ok:Ya6 PR 52 2 (.loop c) fr:=
 Yr7 Xe Xd h0 .no (G:=Xee.G) Xee.Gok (L:=mkL []) (l:=[]) hT [(0,([6],[]))] ([4,5],[]) (fun x s=>((x.1.1,x.1.2.1,s.1,s.2,x.1.2.2.2.2),x.2))
  (fun x s=>by simp only[B,mC,mB,mS,mO,mN];kernel_rfl)
end Xed
namespace Xee
def pts:List PT:=[.pt Xn,.cs (.sl .str)]
def FS:FS:=Yc6 [.sh,.sh] pts (fun x=>Xee x.1 x.2.1) fun t=>⟨[.cs I64 t.1,.cs I64 t.2],[]⟩
theorem ok:Ycv PR 18 FS:=
 Yvf Xe Xd Proofs.Tryz.f18 h0 (.R (.R (.L (.R (.one (.fr 0)))))) (G:=G) Gok (L:=mkL [(0,Xed.fr)]) (l:=[(0,.loop Xed.c)]) ⟨Lam.cons Xed.ok,trivial⟩
  (fun x=>by simp only[Xee,mC,mB,mS,mO,mN];kernel_rfl)
end Xee
def Xe9.B (v2:Int) (v:Fs_) (v7:Xr) (v5:List (List UInt8)) (v6:Int):Option (Int⊕((Xr⊕Unit))):=
 cond (decide (v6<(v5.length:Int))) (cond (inB v6 v5.length) (cond (decide ((0:Int)≤(1:Int))&&decide ((1:Int)≤((v5.getD v6.toNat []).length:Int))) ((some (((v5.getD v6.toNat []).take ((v5.getD v6.toNat []).length)).drop ((1:Int).toNat))).bind fun v8=>(Xf0 v8 47).bind fun v9=>(Xee v v9).bind fun v10=>cond (cond (v10.2 == 0) (v10.1 == v2) false) (cond (inB v6 v5.length) (some (.inr (.inl (0,v5.getD v6.toNat [],())))) none) (some (.inl (w64 (v6+1))))) none) none) (some (.inr (.inr ())))
def Xe9 (v2:Int) (v:Fs_) (v7:Xr) (v5:List (List UInt8)):Int→Option ((Xr⊕Unit)):=
 Yap fun s=>Xe9.B v2 v v7 v5 s
def Xct (v:Fs_) (v2:Int):Option Xr:=
 (Xgn v).bind fun v3=>cond (v3 != 0) (some (v3,[],())) ((Xg2 v v2).bind fun v4=>cond (!v4) (some (3,[],())) (cond (v2 == 0) (some (0,([47]:List UInt8),())) ((Xgo v).bind fun v5=>(Xe9 v2 v (0,[],()) v5 0).bind fun v11=>sel v11 (fun v12=>some v12) (fun v13=>some (4,[],())))))
namespace Xct
def G:Gam:=mkG [(15,Xgn.FS),(16,Xg2.FS),(17,Xgo.FS),(19,Xf0.FS),(18,Xee.FS)]
theorem Gok:GOk PR G:=.cons Xgn.ok (.cons Xg2.ok (.cons Xgo.ok (.cons Xf0.ok (.cons Xee.ok .nil))))
end Xct
namespace Xe9
def c:=Yal (Yah Proofs.Tryz.f6) [1,1,1,1,1,0,1,0,0]
def sp:SP:=⟨[(1,.cs I64),(2,.pt Xn),(4,.loc 4 []),(6,.seg 6 []),(7,.cs I64)],[(4,.mem,.cd Xq),(6,.reg,.cd (.sl .str))]⟩
def fr:=Yig sp (fun x s=>Xe9.B x.1.1 x.1.2.1 x.2.1 x.2.2.1 s) (fun x=>x.1.2.2.2.2.1) fun x (oo0:(Xr⊕Unit)) _ kk0=>sel oo0 (fun bb0=>kk0 (.rt) ⟨[(4,.loc 4 [])],[(4,some ⟨.mem,.cd Xq bb0⟩)]⟩) (fun cc0=>kk0 (.ex 0) ⟨[(4,.loc 4 [])],[(4,some ⟨.mem,.cd Xq x.2.1⟩)]⟩)
theorem ok:Ya6 PR 52 2 (.loop c) fr:=
 Yr7 Xe Xd ⟨[2],[],[],0⟩ .no (G:=Xct.G) Xct.Gok (L:=mkL []) (l:=[]) hT [(0,([4],[4]))] ([4],[4]) (fun x s=>((x.1.1,x.1.2.1,x.1.2.2.1,x.1.2.2.2.1,s,x.1.2.2.2.2.2),x.2))
  (fun x s=>by simp only[B,mC,mB,mS,mO,mN];kernel_rfl)
end Xe9
namespace Xct
def pts:List PT:=[.cs Xn,.cs I64]
def FS:FS:=Yc6 [.sh,.sh] pts (fun x=>Xct x.1 x.2.1) fun t=>⟨[.cs Xq t],[]⟩
theorem ok:Ycv PR 6 FS:=
 Yvf Xe Xd Proofs.Tryz.f6 ⟨[2],[],[],0⟩ (.R (.R (.R (.R (.R (.L (.R (.one (.fr 0))))))))) (G:=G) Gok (L:=mkL [(0,Xe9.fr)]) (l:=[(0,.loop Xe9.c)]) ⟨Lam.cons Xe9.ok,trivial⟩
  (fun x=>by simp only[Xct,mC,mB,mS,mO,mN];kernel_rfl)
end Xct
def Xax (v:Int) (v2:Int) (v3:Int):Option Bool:=
 some (cond (decide (v≥v2)) (decide (v≤v3)) false)
namespace Xax
def pts:List PT:=[.cs I64,.cs I64,.cs I64]
def FS:FS:=Yc6 [.sh,.sh,.sh] pts (fun x=>Xax x.1 x.2.1 x.2.2.1) fun t=>⟨[.cs .bool t],[]⟩
theorem ok:Ycv PR 28 FS:=
 Yvf Xe Xd Proofs.Tryz.f28 h0 .no (G:=(mkG [])) .nil (L:=mkL []) (l:=[]) hT
  (fun x=>by simp only[Xax,mC,mB,mS,mO,mN];kernel_rfl)
end Xax
def Xg3 (v:List Int):Option Int:=
 some (v.length:Int)
namespace Xg3
def pts:List PT:=[.cs SI]
def FS:FS:=Yc6 [.sh] pts (fun x=>Xg3 x.1) fun t=>⟨[.cs I64 t],[]⟩
theorem ok:Ycv PR 119 FS:=
 Yvf Xe Xd Proofs.Tryz.f119 h0 .no (G:=(mkG [])) .nil (L:=mkL []) (l:=[]) hT
  (fun x=>by simp only[Xg3,mC,mB,mS,mO,mN];kernel_rfl)
end Xg3
def Xg4 (v:Int):Option Int:=
 cond (!((8:Int) == 0)) (some (w64 ((w64 ((w64 (v+8))-1)).tdiv 8))) none
namespace Xg4
def pts:List PT:=[.cs I64]
def FS:FS:=Yc6 [.sh] pts (fun x=>Xg4 x.1) fun t=>⟨[.cs I64 t],[]⟩
theorem ok:Ycv PR 120 FS:=
 Yvf Xe Xd Proofs.Tryz.f120 h0 .no (G:=(mkG [])) .nil (L:=mkL []) (l:=[]) hT
  (fun x=>by simp only[Xg4,mC,mB,mS,mO,mN];kernel_rfl)
end Xg4
def Xg5 (v:Int):Option Bool:=
 (Xax v 0 19).bind fun v2=>some (!v2)
namespace Xg5
def G:Gam:=mkG [(28,Xax.FS)]
def pts:List PT:=[.cs I64]
def FS:FS:=Yc6 [.sh] pts (fun x=>Xg5 x.1) fun t=>⟨[.cs .bool t],[]⟩
theorem ok:Ycv PR 122 FS:=
 Yvf Xe Xd Proofs.Tryz.f122 h0 .no (G:=G) (show GOk PR G from .cons Xax.ok .nil) (L:=mkL []) (l:=[]) hT
  (fun x=>by simp only[Xg5,mC,mB,mS,mO,mN];kernel_rfl)
end Xg5
def Xfa.B (v:List Int) (v2:Unit) (v3:Int) (v4:Int):Option (Int⊕((Int⊕Unit))):=
 cond (decide (v4<v3)) (cond (inB v4 v.length) ((Xg5 (v.getD v4.toNat 0)).bind fun v5=>cond v5 (some (.inr (.inl v4))) (some (.inl (w64 (v4+1))))) none) (some (.inr (.inr ())))
def Xfa (v:List Int) (v2:Unit) (v3:Int):Int→Option ((Int⊕Unit)):=
 Yap fun s=>Xfa.B v v2 v3 s
def Xfb (v:List Int) (v2:Unit):Option Int:=
 (Xfa v v2 (v.length:Int) 0).bind fun v6=>sel v6 (fun v7=>some v7) (fun v8=>some (-1))
namespace Xfb
def G:Gam:=mkG [(122,Xg5.FS)]
theorem Gok:GOk PR G:=.cons Xg5.ok .nil
end Xfb
namespace Xfa
def c:=Yal (Yah Proofs.Tryz.f135) [1,0,1,0,0]
def sp:SP:=⟨[(0,.cs SI),(1,.clo 122 (.cs .unit)),(7,.cs I64),(8,.cs I64)],[]⟩
def fr:=Yig sp (fun x s=>Xfa.B x.1.1 x.1.2.1 x.1.2.2.1 s) (fun x=>x.1.2.2.2.1) fun x (oo0:(Int⊕Unit)) _ kk0=>sel oo0 (fun bb0=>kk0 (.rt) ⟨[(4,.cs I64 bb0)],[]⟩) (fun cc0=>kk0 (.ex 0) ⟨[],[]⟩)
theorem ok:Ya6 PR 19 2 (.loop c) fr:=
 Yr7 Xe Xd h0 .no (G:=Xfb.G) Xfb.Gok (L:=mkL []) (l:=[]) hT [(0,([],[]))] ([4],[]) (fun x s=>((x.1.1,x.1.2.1,x.1.2.2.1,s,x.1.2.2.2.2),x.2))
  (fun x s=>by simp only[B,mC,mB,mS,mO,mN];kernel_rfl)
end Xfa
namespace Xfb
def pts:List PT:=[.cs SI,.clo 122 (.cs .unit)]
def FS:FS:=Yc6 [.sh,.sh] pts (fun x=>Xfb x.1 x.2.1) fun t=>⟨[.cs I64 t],[]⟩
theorem ok:Ycv PR 135 FS:=
 Yvf Xe Xd Proofs.Tryz.f135 h0 (.R (.L (.R (.one (.fr 0))))) (G:=G) Gok (L:=mkL [(0,Xfa.fr)]) (l:=[(0,.loop Xfa.c)]) ⟨Lam.cons Xfa.ok,trivial⟩
  (fun x=>by simp only[Xfb,mC,mB,mS,mO,mN];kernel_rfl)
end Xfb
def Xgq (v:List Int) (v2:Unit):Option Bool:=
 (Xfb v v2).bind fun v3=>some (decide (v3≥0))
namespace Xgq
def G:Gam:=mkG [(135,Xfb.FS)]
def pts:List PT:=[.cs SI,.clo 122 (.cs .unit)]
def FS:FS:=Yc6 [.sh,.sh] pts (fun x=>Xgq x.1 x.2.1) fun t=>⟨[.cs .bool t],[]⟩
theorem ok:Ycv PR 121 FS:=
 Yvf Xe Xd Proofs.Tryz.f121 h0 .no (G:=G) (show GOk PR G from .cons Xfb.ok .nil) (L:=mkL []) (l:=[]) hT
  (fun x=>by simp only[Xgq,mC,mB,mS,mO,mN];kernel_rfl)
end Xgq
def Xfc.B (v:List Int) (v2:Int) (v3:Int) (v4:Int):Option (Int⊕((Int⊕Unit))):=
 cond (decide (v4<v3)) (cond (inB v4 v.length) (cond (v2 == (v.getD v4.toNat 0)) (some (.inr (.inl v4))) (some (.inl (w64 (v4+1))))) none) (some (.inr (.inr ())))
def Xfc (v:List Int) (v2:Int) (v3:Int):Int→Option ((Int⊕Unit)):=
 Yap fun s=>Xfc.B v v2 v3 s
def Xg6 (v:List Int) (v2:Int):Option Int:=
 (Xfc v v2 (v.length:Int) 0).bind fun v5=>sel v5 (fun v6=>some v6) (fun v7=>some (-1))
namespace Xfc
def c:=Yal (Yah Proofs.Tryz.f47) [1,0,1,0,0]
def sp:SP:=⟨[(0,.cs SI),(1,.cs I64),(7,.cs I64),(8,.cs I64)],[]⟩
def fr:=Yig sp (fun x s=>Xfc.B x.1.1 x.1.2.1 x.1.2.2.1 s) (fun x=>x.1.2.2.2.1) fun x (oo0:(Int⊕Unit)) _ kk0=>sel oo0 (fun bb0=>kk0 (.rt) ⟨[(4,.cs I64 bb0)],[]⟩) (fun cc0=>kk0 (.ex 0) ⟨[],[]⟩)
theorem ok:Ya6 PR 19 2 (.loop c) fr:=
 Yr7 Xe Xd h0 .no (G:=(mkG [])) .nil (L:=mkL []) (l:=[]) hT [(0,([],[]))] ([4],[]) (fun x s=>((x.1.1,x.1.2.1,x.1.2.2.1,s,x.1.2.2.2.2),x.2))
  (fun x s=>by simp only[B,mC,mB,mS,mO,mN];kernel_rfl)
end Xfc
namespace Xg6
def pts:List PT:=[.cs SI,.cs I64]
def FS:FS:=Yc6 [.sh,.sh] pts (fun x=>Xg6 x.1 x.2.1) fun t=>⟨[.cs I64 t],[]⟩
theorem ok:Ycv PR 47 FS:=
 Yvf Xe Xd Proofs.Tryz.f47 h0 (.R (.L (.R (.one (.fr 0))))) (G:=(mkG [])) .nil (L:=mkL [(0,Xfc.fr)]) (l:=[(0,.loop Xfc.c)]) ⟨Lam.cons Xfc.ok,trivial⟩
  (fun x=>by simp only[Xg6,mC,mB,mS,mO,mN];kernel_rfl)
end Xg6
def Xfd (v:List Int) (v2:Int):Option Bool:=
 (Xg6 v v2).bind fun v3=>some (decide (v3≥0))
namespace Xfd
def G:Gam:=mkG [(47,Xg6.FS)]
def pts:List PT:=[.cs SI,.cs I64]
def FS:FS:=Yc6 [.sh,.sh] pts (fun x=>Xfd x.1 x.2.1) fun t=>⟨[.cs .bool t],[]⟩
theorem ok:Ycv PR 29 FS:=
 Yvf Xe Xd Proofs.Tryz.f29 h0 .no (G:=G) (show GOk PR G from .cons Xg6.ok .nil) (L:=mkL []) (l:=[]) hT
  (fun x=>by simp only[Xfd,mC,mB,mS,mO,mN];kernel_rfl)
end Xfd
def Xef.B (v:Xa) (v7:List Int) (v8:Int) (v9:Int):Option (Int⊕((Int⊕Unit))):=
 cond (decide (v9<v8)) (cond (inB v9 v7.length) (cond (decide ((0:Int)≤v9)&&decide (v9≤(v.2.2.2.1.length:Int))) ((Xfd ((v.2.2.2.1.take v9.toNat).drop 0) (v7.getD v9.toNat 0)).bind fun v10=>cond v10 (some (.inr (.inl 7))) (some (.inl (w64 (v9+1))))) none) none) (some (.inr (.inr ())))
def Xef (v:Xa) (v7:List Int) (v8:Int):Int→Option ((Int⊕Unit)):=
 Yap fun s=>Xef.B v v7 v8 s
def Xeg (v:Xa):Option Int:=
 (Xax v.2.1 1 60).bind fun v2=>cond (!v2) (some 3) ((Xax v.2.2.1 0 32).bind fun v3=>cond (!v3) (some 3) ((Xg3 v.2.2.2.1).bind fun v4=>(Xg4 v.2.2.1).bind fun v5=>cond (v4 != v5) (some 1) ((Xgq v.2.2.2.1 ()).bind fun v6=>cond v6 (some 3) ((Xef v v.2.2.2.1 (v.2.2.2.1.length:Int) 0).bind fun v11=>sel v11 (fun v12=>some v12) (fun v13=>some 0)))))
namespace Xeg
def G:Gam:=mkG [(28,Xax.FS),(119,Xg3.FS),(120,Xg4.FS),(121,Xgq.FS),(29,Xfd.FS)]
theorem Gok:GOk PR G:=.cons Xax.ok (.cons Xg3.ok (.cons Xg4.ok (.cons Xgq.ok (.cons Xfd.ok .nil))))
end Xeg
namespace Xef
def c:=Yal (Yah Proofs.Tryz.f100) [1,1,0,1,0,0]
def sp:SP:=⟨[(1,.pt Xb),(29,.cs SI),(30,.cs I64),(31,.cs I64)],[]⟩
def fr:=Yig sp (fun x s=>Xef.B x.1.1 x.1.2.1 x.1.2.2.1 s) (fun x=>x.1.2.2.2.1) fun x (oo0:(Int⊕Unit)) _ kk0=>sel oo0 (fun bb0=>kk0 (.rt) ⟨[(2,.cs I64 bb0)],[]⟩) (fun cc0=>kk0 (.ex 1) ⟨[],[]⟩)
theorem ok:Ya6 PR 43 1 (.loop c) fr:=
 Yr7 Xe Xd ⟨[1],[],[],0⟩ .no (G:=Xeg.G) Xeg.Gok (L:=mkL []) (l:=[]) hT [(1,([],[]))] ([2],[]) (fun x s=>((x.1.1,x.1.2.1,x.1.2.2.1,s,x.1.2.2.2.2),x.2))
  (fun x s=>by simp only[B,mC,mB,mS,mO,mN];kernel_rfl)
end Xef
namespace Xeg
def pts:List PT:=[.cs Xb]
def FS:FS:=Yc6 [.sh] pts (fun x=>Xeg x.1) fun t=>⟨[.cs I64 t],[]⟩
theorem ok:Ycv PR 100 FS:=
 Yvf Xe Xd Proofs.Tryz.f100 ⟨[1],[],[],0⟩ (.R (.R (.L (.R (.one (.fr 0)))))) (G:=G) Gok (L:=mkL [(0,Xef.fr)]) (l:=[(0,.loop Xef.c)]) ⟨Lam.cons Xef.ok,trivial⟩
  (fun x=>by simp only[Xeg,mC,mB,mS,mO,mN];kernel_rfl)
end Xeg
def Xfe.B (v:List UInt8) (v2:Int) (v3:Int):Option (Int⊕((Int⊕Unit))):=
 cond (decide (v3<v2)) (cond (inB v3 v.length) (cond (cond (!(decide (((v.getD v3.toNat 0).toNat:Int)<97))) (inB v3 v.length) true) ((some (cond (decide (((v.getD v3.toNat 0).toNat:Int)<97)) true (decide (((v.getD v3.toNat 0).toNat:Int)>122)))).bind fun v4=>cond v4 (some (.inr (.inl 5))) (some (.inl (w64 (v3+1))))) none) none) (some (.inr (.inr ())))
def Xfe (v:List UInt8) (v2:Int):Int→Option ((Int⊕Unit)):=
 Yap fun s=>Xfe.B v v2 s
def Xff (v:List UInt8):Option Int:=
 cond (v == ([]:List UInt8)) (some 5) ((Xfe v (v.length:Int) 0).bind fun v5=>sel v5 (fun v6=>some v6) (fun v7=>cond (decide ((v.length:Int)>4)) (some 2) (some 0)))
namespace Xfe
def c:=Yal (Yah Proofs.Tryz.f84) [1,1,0,1,0,0]
def sp:SP:=⟨[(0,.cs .str),(7,.cs I64),(8,.cs I64)],[]⟩
def fr:=Yig sp (fun x s=>Xfe.B x.1.1 x.1.2.1 s) (fun x=>x.1.2.2.1) fun x (oo0:(Int⊕Unit)) _ kk0=>sel oo0 (fun bb0=>kk0 (.rt) ⟨[(2,.cs I64 bb0)],[]⟩) (fun cc0=>kk0 (.ex 0) ⟨[(0,.cs .str x.1.1)],[]⟩)
theorem ok:Ya6 PR 25 1 (.loop c) fr:=
 Yr7 Xe Xd h0 .no (G:=(mkG [])) .nil (L:=mkL []) (l:=[]) hT [(0,([0],[]))] ([2],[]) (fun x s=>((x.1.1,x.1.2.1,s,x.1.2.2.2),x.2))
  (fun x s=>by simp only[B,mC,mB,mS,mO,mN];kernel_rfl)
end Xfe
namespace Xff
def pts:List PT:=[.cs .str]
def FS:FS:=Yc6 [.sh] pts (fun x=>Xff x.1) fun t=>⟨[.cs I64 t],[]⟩
theorem ok:Ycv PR 84 FS:=
 Yvf Xe Xd Proofs.Tryz.f84 h0 (.R (.R (.L (.R (.one (.fr 0)))))) (G:=(mkG [])) .nil (L:=mkL [(0,Xfe.fr)]) (l:=[(0,.loop Xfe.c)]) ⟨Lam.cons Xfe.ok,trivial⟩
  (fun x=>by simp only[Xff,mC,mB,mS,mO,mN];kernel_rfl)
end Xff
def Xeh.B (v:Xa) (v2:List Xf) (v3:Int) (v4:Int):Option (Int⊕((Int⊕Unit))):=
 cond (decide (v4<v3)) (cond (inB v4 v2.length) ((Xff (v2.getD v4.toNat Xm).1).bind fun v5=>cond (v5 != 0) (some (.inr (.inl v5))) ((Xax (v2.getD v4.toNat Xm).2.1 0 9).bind fun v6=>cond (!v6) (some (.inr (.inl 3))) (cond (cond (decide (v4>0)) (inB (w64 (v4-1)) v.2.2.2.2.1.length) true) ((some (cond (decide (v4>0)) (!leB (v.2.2.2.2.1.getD (w64 (v4-1)).toNat Xm).1 (v2.getD v4.toNat Xm).1) false)).bind fun v7=>cond v7 (some (.inr (.inl 1))) (some (.inl (w64 (v4+1))))) none))) none) (some (.inr (.inr ())))
def Xeh (v:Xa) (v2:List Xf) (v3:Int):Int→Option ((Int⊕Unit)):=
 Yap fun s=>Xeh.B v v2 v3 s
def Xei (v:Xa):Option Int:=
 cond (decide ((v.2.2.2.2.1.length:Int)>6)) (some 2) ((Xeh v v.2.2.2.2.1 (v.2.2.2.2.1.length:Int) 0).bind fun v8=>sel v8 (fun v9=>some v9) (fun v10=>some 0))
namespace Xei
def G:Gam:=mkG [(84,Xff.FS),(28,Xax.FS)]
theorem Gok:GOk PR G:=.cons Xff.ok (.cons Xax.ok .nil)
end Xei
namespace Xeh
def c:=Yal (Yah Proofs.Tryz.f101) [1,1,0,1,0,0]
def sp:SP:=⟨[(1,.pt Xb),(11,.cs (.sl Xl)),(12,.cs I64),(13,.cs I64)],[]⟩
def fr:=Yig sp (fun x s=>Xeh.B x.1.1 x.1.2.1 x.1.2.2.1 s) (fun x=>x.1.2.2.2.1) fun x (oo0:(Int⊕Unit)) _ kk0=>sel oo0 (fun bb0=>kk0 (.rt) ⟨[(2,.cs I64 bb0)],[]⟩) (fun cc0=>kk0 (.ex 0) ⟨[],[]⟩)
theorem ok:Ya6 PR 43 1 (.loop c) fr:=
 Yr7 Xe Xd ⟨[1],[],[],0⟩ .no (G:=Xei.G) Xei.Gok (L:=mkL []) (l:=[]) hT [(0,([],[]))] ([2],[]) (fun x s=>((x.1.1,x.1.2.1,x.1.2.2.1,s,x.1.2.2.2.2),x.2))
  (fun x s=>by simp only[B,mC,mB,mS,mO,mN];kernel_rfl)
end Xeh
namespace Xei
def pts:List PT:=[.cs Xb]
def FS:FS:=Yc6 [.sh] pts (fun x=>Xei x.1) fun t=>⟨[.cs I64 t],[]⟩
theorem ok:Ycv PR 101 FS:=
 Yvf Xe Xd Proofs.Tryz.f101 ⟨[1],[],[],0⟩ (.R (.R (.L (.R (.one (.fr 0)))))) (G:=G) Gok (L:=mkL [(0,Xeh.fr)]) (l:=[(0,.loop Xeh.c)]) ⟨Lam.cons Xeh.ok,trivial⟩
  (fun x=>by simp only[Xei,mC,mB,mS,mO,mN];kernel_rfl)
end Xei
def Xgr (v:Xa):Option Int:=
 (some (cond (cond (v.2.1 == 0) (v.2.2.1 == 0) false) ((v.2.2.2.1.length:Int) == 0) false)).bind fun v2=>(Xax v.1 0 2).bind fun v3=>cond (!v3) (some 1) (cond (cond (v.1 != 1) (!v2) false) (some 1) ((some (cond (v.1 != 2) (!((v.2.2.2.2.1.length:Int) == 0)) false)).bind fun v4=>cond v4 (some 1) (cond (v.1 == 1) ((Xeg v).bind fun v5=>some v5) ((Xei v).bind fun v6=>some v6))))
namespace Xgr
def G:Gam:=mkG [(28,Xax.FS),(100,Xeg.FS),(101,Xei.FS)]
def pts:List PT:=[.cs Xb]
def FS:FS:=Yc6 [.sh] pts (fun x=>Xgr x.1) fun t=>⟨[.cs I64 t],[]⟩
theorem ok:Ycv PR 89 FS:=
 Yvf Xe Xd Proofs.Tryz.f89 ⟨[1],[],[],0⟩ .no (G:=G) (show GOk PR G from .cons Xax.ok (.cons Xeg.ok (.cons Xei.ok .nil))) (L:=mkL []) (l:=[]) hT
  (fun x=>by simp only[Xgr,mC,mB,mS,mO,mN];kernel_rfl)
end Xgr
def Xfg.B (v:List Xa) (v2:Int) (v3:Int):Option (Int⊕((Int⊕Unit))):=
 cond (decide (v3<v2)) (cond (inB v3 v.length) ((Xgr (v.getD v3.toNat Xc)).bind fun v4=>cond (v4 != 0) (some (.inr (.inl v4))) (some (.inl (w64 (v3+1))))) none) (some (.inr (.inr ())))
def Xfg (v:List Xa) (v2:Int):Int→Option ((Int⊕Unit)):=
 Yap fun s=>Xfg.B v v2 s
def Xej (v:List Xa):Option Int:=
 cond (decide ((v.length:Int)>10)) (some 2) ((Xfg v (v.length:Int) 0).bind fun v5=>sel v5 (fun v6=>some v6) (fun v7=>some 0))
namespace Xej
def G:Gam:=mkG [(89,Xgr.FS)]
theorem Gok:GOk PR G:=.cons Xgr.ok .nil
end Xej
namespace Xfg
def c:=Yal (Yah Proofs.Tryz.f74) [1,1,0,1,0,0]
def sp:SP:=⟨[(9,.cs (.sl Xb)),(10,.cs I64),(11,.cs I64)],[]⟩
def fr:=Yig sp (fun x s=>Xfg.B x.1.1 x.1.2.1 s) (fun x=>x.1.2.2.1) fun x (oo0:(Int⊕Unit)) _ kk0=>sel oo0 (fun bb0=>kk0 (.rt) ⟨[(2,.cs I64 bb0)],[]⟩) (fun cc0=>kk0 (.ex 0) ⟨[],[]⟩)
theorem ok:Ya6 PR 21 1 (.loop c) fr:=
 Yr7 Xe Xd h0 .no (G:=Xej.G) Xej.Gok (L:=mkL []) (l:=[]) hT [(0,([],[]))] ([2],[]) (fun x s=>((x.1.1,x.1.2.1,s,x.1.2.2.2),x.2))
  (fun x s=>by simp only[B,mC,mB,mS,mO,mN];kernel_rfl)
end Xfg
namespace Xej
def pts:List PT:=[.cs (.sl Xb)]
def FS:FS:=Yc6 [.sh] pts (fun x=>Xej x.1) fun t=>⟨[.cs I64 t],[]⟩
theorem ok:Ycv PR 74 FS:=
 Yvf Xe Xd Proofs.Tryz.f74 h0 (.R (.R (.L (.R (.one (.fr 0)))))) (G:=G) Gok (L:=mkL [(0,Xfg.fr)]) (l:=[(0,.loop Xfg.c)]) ⟨Lam.cons Xfg.ok,trivial⟩
  (fun x=>by simp only[Xej,mC,mB,mS,mO,mN];kernel_rfl)
end Xej
def Xgs (v:Fs_):Option Int:=
 (Xej v.1).bind fun v2=>cond (v2 != 0) (some v2) (cond (cond (!((v.1.length:Int) == 0)) (inB 0 v.1.length) true) ((some (cond ((v.1.length:Int) == 0) true ((v.1.getD (0:Int).toNat Xc).1 != 2))).bind fun v3=>cond (cond v3 true ((v.2.1.length:Int) != 20)) (some 1) (some 0)) none)
namespace Xgs
def G:Gam:=mkG [(74,Xej.FS)]
def pts:List PT:=[.cs Xn]
def FS:FS:=Yc6 [.sh] pts (fun x=>Xgs x.1) fun t=>⟨[.cs I64 t],[]⟩
theorem ok:Ycv PR 57 FS:=
 Yvf Xe Xd Proofs.Tryz.f57 ⟨[1],[],[],0⟩ .no (G:=G) (show GOk PR G from .cons Xej.ok .nil) (L:=mkL []) (l:=[]) hT
  (fun x=>by simp only[Xgs,mC,mB,mS,mO,mN];kernel_rfl)
end Xgs
def Xg7 (v:List Int):Option Bool:=
 some (decide ((v.length:Int)>8))
namespace Xg7
def pts:List PT:=[.cs SB]
def FS:FS:=Yc6 [.sh] pts (fun x=>Xg7 x.1) fun t=>⟨[.cs .bool t],[]⟩
theorem ok:Ycv PR 59 FS:=
 Yvf Xe Xd Proofs.Tryz.f59 h0 .no (G:=(mkG [])) .nil (L:=mkL []) (l:=[]) hT
  (fun x=>by simp only[Xg7,mC,mB,mS,mO,mN];kernel_rfl)
end Xg7
def Xfh.B (v:List (List Int)) (v2:Unit) (v3:Int) (v4:Int):Option (Int⊕((Int⊕Unit))):=
 cond (decide (v4<v3)) (cond (inB v4 v.length) ((Xg7 (v.getD v4.toNat [])).bind fun v5=>cond v5 (some (.inr (.inl v4))) (some (.inl (w64 (v4+1))))) none) (some (.inr (.inr ())))
def Xfh (v:List (List Int)) (v2:Unit) (v3:Int):Int→Option ((Int⊕Unit)):=
 Yap fun s=>Xfh.B v v2 v3 s
def Xfi (v:List (List Int)) (v2:Unit):Option Int:=
 (Xfh v v2 (v.length:Int) 0).bind fun v6=>sel v6 (fun v7=>some v7) (fun v8=>some (-1))
namespace Xfi
def G:Gam:=mkG [(59,Xg7.FS)]
theorem Gok:GOk PR G:=.cons Xg7.ok .nil
end Xfi
namespace Xfh
def c:=Yal (Yah Proofs.Tryz.f75) [1,0,1,0,0]
def sp:SP:=⟨[(0,.cs (.sl SB)),(1,.clo 59 (.cs .unit)),(7,.cs I64),(8,.cs I64)],[]⟩
def fr:=Yig sp (fun x s=>Xfh.B x.1.1 x.1.2.1 x.1.2.2.1 s) (fun x=>x.1.2.2.2.1) fun x (oo0:(Int⊕Unit)) _ kk0=>sel oo0 (fun bb0=>kk0 (.rt) ⟨[(4,.cs I64 bb0)],[]⟩) (fun cc0=>kk0 (.ex 0) ⟨[],[]⟩)
theorem ok:Ya6 PR 19 2 (.loop c) fr:=
 Yr7 Xe Xd h0 .no (G:=Xfi.G) Xfi.Gok (L:=mkL []) (l:=[]) hT [(0,([],[]))] ([4],[]) (fun x s=>((x.1.1,x.1.2.1,x.1.2.2.1,s,x.1.2.2.2.2),x.2))
  (fun x s=>by simp only[B,mC,mB,mS,mO,mN];kernel_rfl)
end Xfh
namespace Xfi
def pts:List PT:=[.cs (.sl SB),.clo 59 (.cs .unit)]
def FS:FS:=Yc6 [.sh,.sh] pts (fun x=>Xfi x.1 x.2.1) fun t=>⟨[.cs I64 t],[]⟩
theorem ok:Ycv PR 75 FS:=
 Yvf Xe Xd Proofs.Tryz.f75 h0 (.R (.L (.R (.one (.fr 0))))) (G:=G) Gok (L:=mkL [(0,Xfh.fr)]) (l:=[(0,.loop Xfh.c)]) ⟨Lam.cons Xfh.ok,trivial⟩
  (fun x=>by simp only[Xfi,mC,mB,mS,mO,mN];kernel_rfl)
end Xfi
def Xc0 (v:List (List Int)) (v2:Unit):Option Bool:=
 (Xfi v v2).bind fun v3=>some (decide (v3≥0))
namespace Xc0
def G:Gam:=mkG [(75,Xfi.FS)]
def pts:List PT:=[.cs (.sl SB),.clo 59 (.cs .unit)]
def FS:FS:=Yc6 [.sh,.sh] pts (fun x=>Xc0 x.1 x.2.1) fun t=>⟨[.cs .bool t],[]⟩
theorem ok:Ycv PR 58 FS:=
 Yvf Xe Xd Proofs.Tryz.f58 h0 .no (G:=G) (show GOk PR G from .cons Xfi.ok .nil) (L:=mkL []) (l:=[]) hT
  (fun x=>by simp only[Xc0,mC,mB,mS,mO,mN];kernel_rfl)
end Xc0
noncomputable def Xer (s:List Int):Option (List Int):=Ys1 s
def Xer.FS:FS:=Yc6 [.mu] [.cl .deep (.sl (.int .i64))] (fun x=>Xer x.1) fun y=>⟨[],[.cl .deep (.sl (.int .i64)) y]⟩
theorem Xer.ok:Ycv Go.Proofs.Tryz.prog 76 Xer.FS:=
 Yuz ⟨Go.Proofs.Tryz.f76,by kernel_rfl,by kernel_rfl,by kernel_rfl⟩ (fun blk off cap zs w h1 h2 h3=>Go.Proofs.AnyM.slices_Sort_int Go.Proofs.Tryz.Xht blk off cap zs w h1 h2 h3) (fun p cap w=>Go.Proofs.AnyM.slices_Sort_int_none Go.Proofs.Tryz.Xht p cap w)
noncomputable def Xes (s:List Int):Option (List Int):=Yp9 s
noncomputable def Xes.FS:FS:=Yc6 [.sh] [.cl .sh (.sl (.int .i64))] (fun x=>Xes x.1) fun y=>⟨[.cl .deep (.sl (.int .i64)) y],[]⟩
theorem Xes.ok:Ycv Go.Proofs.Tryz.prog 78 Xes.FS:=
 Yt5 (hn:=⟨[],[],[],0⟩) Xe Xd (fn:=Go.Proofs.Tryz.f78) (by kernel_rfl) (Yjj (by kernel_rfl)) (by kernel_rfl) (by kernel_rfl) .deep (.int .i64) 56 56 2 (by kernel_rfl) (by kernel_rfl) (by kernel_rfl) (by kernel_rfl) (by kernel_rfl) (by kernel_rfl) (by kernel_rfl) (by kernel_rfl) (fun xs=>by kernel_rfl) (fun xs=>by kernel_rfl) (fun xs=>by kernel_rfl) (fun xs=>by kernel_rfl)
def Xal.B (v5:Nat) (v6:Nat) (v4:Int) (v7:Int) (v8:List Int):Option ((Int×Int×List Int)⊕(Int×List Int)):=
 cond (decide (v7<(v6:Int))) (cond (inB v7 v6) (cond (inB (w64 (v7-1)) v6) ((some ((v8.getD (v5+v7.toNat) 0) != (v8.getD (v5+(w64 (v7-1)).toNat) 0))).bind fun v9=>cond v9 (cond (inB v7 v6) (cond (inB v4 v8.length) (some (.inl (w64 (v4+1),w64 (v7+1),v8.set v4.toNat (v8.getD (v5+v7.toNat) 0)))) none) none) (some (.inl (v4,w64 (v7+1),v8)))) none) none) (some (.inr (v4,v8)))
def Xal (v5:Nat) (v6:Nat):(Int×Int×List Int)→Option (Int×List Int):=
 Yap fun s=>Xal.B v5 v6 s.1 s.2.1 s.2.2
def X8.B (v:List Int) (v2:Int):Option (Int⊕(((Nat×Nat×List Int)⊕Unit))):=
 cond (decide (v2<(v.length:Int))) (cond (inB v2 v.length) (cond (inB (w64 (v2-1)) v.length) ((some ((v.getD v2.toNat 0) == (v.getD ((w64 (v2-1)).toNat) 0))).bind fun v3=>cond v3 (cond (decide ((0:Int)≤v2)&&decide (v2≤(v.length:Int))) ((Xal v2.toNat (v.length-v2.toNat) (v2,1,v)).bind fun v10=>cond (decide ((0:Int)≤v10.1)&&decide (v10.1≤(v10.2.length:Int))) ((some (splice v10.2 v10.1.toNat (List.replicate (v10.2.length-v10.1.toNat) 0))).bind fun v11=>cond (decide ((0:Int)≤v10.1)&&decide (v10.1≤(v11.length:Int))) (some (.inr (.inl (0,v10.1.toNat-0,v11)))) none) none) none) (some (.inl (w64 (v2+1))))) none) none) (some (.inr (.inr ())))
def X8 (v:List Int):Int→Option (((Nat×Nat×List Int)⊕Unit)):=
 Yap fun s=>X8.B v s
def Xc1 (v:List Int):Option (List Int):=
 cond (decide ((v.length:Int)<2)) (some v) ((X8 v 1).bind fun v12=>sel v12 (fun v13=>some ((v13.2.2.drop v13.1).take v13.2.1)) (fun v14=>some v))
namespace Xal
def c:=Yal (Yah Proofs.Tryz.f77) [1,1,0,1,0,0,1,0,0,1,0,1,0,1,0,0]
def sp:SP:=⟨[(0,.seg 0 []),(3,.cs I64),(4,.sub 0 []),(5,.cs I64)],[(0,.reg,.cd SI)]⟩
def fr:=Yig sp (fun x s=>Xal.B x.1.2.2.1.2.1 x.1.2.2.1.2.2 s.1 s.2.1 s.2.2) (fun x=>(x.1.2.1,x.1.2.2.2.1,x.2.1)) fun x (bb0:Int×List Int) _ kk0=>kk0 (.ex 2) ⟨[(0,.seg 0 []),(3,.cs I64 bb0.1)],[sr 0 (.cd SI bb0.2)]⟩
theorem ok:Ya6 PR 61 1 (.loop c) fr:=
 Yu9 Xe Xd h0 [(2,([0,3],[0]))] (fun x s=>((x.1.1,s.1,x.1.2.2.1,s.2.1,x.1.2.2.2.2),(s.2.2,x.2.2)))
  (fun x s=>by simp only[B,mC,mB,mS,mO,mN];kernel_rfl)
end Xal
namespace X8
def c:=Yal (Yah Proofs.Tryz.f77) [1,1,0,1,0,0]
def sp:SP:=⟨[(0,.seg 0 []),(3,.cs I64)],[(0,.reg,.cd SI)]⟩
def fr:=Yig sp (fun x s=>X8.B x.2.1 s) (fun x=>x.1.2.1) fun x (oo0:((Nat×Nat×List Int)⊕Unit)) _ kk0=>sel oo0 (fun bb0=>kk0 (.rt) ⟨[(2,.sub 0 [] bb0.1 bb0.2.1)],[sr 0 (.cd SI bb0.2.2)]⟩) (fun cc0=>kk0 (.ex 0) ⟨[(0,.seg 0 [])],[sr 0 (.cd SI x.2.1)]⟩)
theorem ok:Ya6 PR 61 1 (.loop c) fr:=
 Yr7 Xe Xd h0 (.R (.L (.one (.R (.L (.R (.L (.R (.one (.fr 1)))))))))) (G:=(mkG [])) .nil (L:=mkL [(1,Xal.fr)]) (l:=[(1,.loop Xal.c)]) ⟨Lam.cons Xal.ok,trivial⟩ [(0,([0],[0]))] ([2],[0]) (fun x s=>((x.1.1,s,x.1.2.2),x.2))
  (fun x s=>by simp only[B,mC,mB,mS,mO,mN];kernel_rfl)
end X8
namespace Xc1
def pts:List PT:=[.cd SI]
def FS:FS:=Yc6 [.mv] pts (fun x=>Xc1 x.1) fun t=>⟨[.cd SI t],[]⟩
theorem ok:Ycv PR 77 FS:=
 Yvf Xe Xd Proofs.Tryz.f77 h0 (.R (.R (.L (.R (.one (.fr 0)))))) (G:=(mkG [])) .nil (L:=mkL [(1,Xal.fr),(0,X8.fr)]) (l:=[(0,.loop X8.c)]) ⟨Lam.skip rfl (Lam.cons X8.ok),trivial⟩
  (fun x=>by simp only[Xc1,mC,mB,mS,mO,mN];kernel_rfl)
end Xc1
def Xa1.B (v:List Xa) (v2:Int) (v3:Int) (v4:List Int):Option ((Int×List Int)⊕(List Int)):=
 cond (decide (v3<v2)) (cond (inB v3 v.length) (cond (decide ((v4++(v.getD v3.toNat Xc).2.2.2.1).length≤2147483648)) (some (.inl (w64 (v3+1),v4++(v.getD v3.toNat Xc).2.2.2.1))) none) none) (some (.inr v4))
def Xa1 (v:List Xa) (v2:Int):(Int×List Int)→Option (List Int):=
 Yap fun s=>Xa1.B v v2 s.1 s.2
def Xa2 (v:List Xa):Option ((List Int)×Bool):=
 (Xa1 v (v.length:Int) (0,[])).bind fun v5=>(Xer v5).bind fun v6=>(Xes v6).bind fun v7=>(Xc1 v7).bind fun v8=>some (v6,(v8.length:Int) == (v6.length:Int))
namespace Xa2
def G:Gam:=mkG [(76,Xer.FS),(78,Xes.FS),(77,Xc1.FS)]
theorem Gok:GOk PR G:=.cons Xer.ok (.cons Xes.ok (.cons Xc1.ok .nil))
end Xa2
namespace Xa1
def c:=Yal (Yah Proofs.Tryz.f60) [1,1,0,1,0,0]
def sp:SP:=⟨[(4,.seg 4 []),(7,.cs (.sl Xb)),(8,.cs I64),(9,.cs I64)],[(4,.reg,.cd SI)]⟩
def fr:=Yig sp (fun x s=>Xa1.B x.1.2.1 x.1.2.2.1 s.1 s.2) (fun x=>(x.1.2.2.2.1,x.2.1)) fun x (bb0:List Int) _ kk0=>kk0 (.ex 0) ⟨[(4,.seg 4 [])],[sr 4 (.cd SI bb0)]⟩
theorem ok:Ya6 PR 28 1 (.loop c) fr:=
 Yvh Xe Xd h0 (G:=Xa2.G) Xa2.Gok [(0,([4],[4]))] (fun x s=>((x.1.1,x.1.2.1,x.1.2.2.1,s.1,x.1.2.2.2.2),(s.2,x.2.2)))
  (fun x s=>by simp only[B,mC,mB,mS,mO,mN];kernel_rfl)
end Xa1
namespace Xa2
def pts:List PT:=[.cs (.sl Xb)]
def FS:FS:=Yc6 [.sh] pts (fun x=>Xa2 x.1) fun t=>⟨[.cd SI t.1,.cs .bool t.2],[]⟩
theorem ok:Ycv PR 60 FS:=
 Yvf Xe Xd Proofs.Tryz.f60 h0 (.R (.R (.L (.R (.one (.fr 0)))))) (G:=G) Gok (L:=mkL [(0,Xa1.fr)]) (l:=[(0,.loop Xa1.c)]) ⟨Lam.cons Xa1.ok,trivial⟩
  (fun x=>by simp only[Xa2,mC,mB,mS,mO,mN];kernel_rfl)
end Xa2
def Xbw (v:List Xa):Option Int:=
 some (v.length:Int)
namespace Xbw
def pts:List PT:=[.cs (.sl Xb)]
def FS:FS:=Yc6 [.sh] pts (fun x=>Xbw x.1) fun t=>⟨[.cs I64 t],[]⟩
theorem ok:Ycv PR 42 FS:=
 Yvf Xe Xd Proofs.Tryz.f42 h0 .no (G:=(mkG [])) .nil (L:=mkL []) (l:=[]) hT
  (fun x=>by simp only[Xbw,mC,mB,mS,mO,mN];kernel_rfl)
end Xbw
def Xaq.B (v:Fs_) (v5:List Xa) (v6:Int) (v7:Int) (v9:List Xf) (v8:Int) (v10:Int):Option (Int⊕((Int⊕Unit))):=
 cond (decide (v10<v8)) (cond (inB v10 v9.length) ((Xbw v.1).bind fun v11=>(some (decide ((v9.getD v10.toNat Xm).2.1≥v11))).bind fun v12=>cond (cond (!v12) (inB (v9.getD v10.toNat Xm).2.1 v.1.length) true) ((some (cond v12 true ((v.1.getD (v9.getD v10.toNat Xm).2.1.toNat Xc).1 == 0))).bind fun v13=>cond v13 (some (.inr (.inl 4))) (some (.inl (w64 (v10+1))))) none) none) (some (.inr (.inr ())))
def Xaq (v:Fs_) (v5:List Xa) (v6:Int) (v7:Int) (v9:List Xf) (v8:Int):Int→Option ((Int⊕Unit)):=
 Yap fun s=>Xaq.B v v5 v6 v7 v9 v8 s
def Xbx.B (v:Fs_) (v5:List Xa) (v6:Int) (v7:Int):Option (Int⊕((Int⊕Unit))):=
 cond (decide (v7<v6)) (cond (inB v7 v5.length) ((some ((v5.getD v7.toNat Xc).2.2.2.2.1.length:Int)).bind fun v8=>(Xaq v v5 v6 v7 (v5.getD v7.toNat Xc).2.2.2.2.1 v8 0).bind fun v14=>sel v14 (fun v15=>some (.inr (.inl v15))) (fun v16=>some (.inl (w64 (v7+1))))) none) (some (.inr (.inr ())))
def Xbx (v:Fs_) (v5:List Xa) (v6:Int):Int→Option ((Int⊕Unit)):=
 Yap fun s=>Xbx.B v v5 v6 s
def Xam (v:Fs_):Option Int:=
 (Xgs v).bind fun v2=>cond (v2 != 0) (some v2) ((Xc0 v.2.1 ()).bind fun v3=>cond v3 (some 2) ((Xa2 v.1).bind fun v4=>cond (!v4.2) (some 7) ((Xbx v v.1 (v.1.length:Int) 0).bind fun v17=>sel v17 (fun v18=>some v18) (fun v19=>some 0))))
namespace Xam
def G:Gam:=mkG [(57,Xgs.FS),(58,Xc0.FS),(60,Xa2.FS),(42,Xbw.FS)]
theorem Gok:GOk PR G:=.cons Xgs.ok (.cons Xc0.ok (.cons Xa2.ok (.cons Xbw.ok .nil)))
end Xam
namespace Xaq
def c:=Yal (Yah Proofs.Tryz.f39) [1,1,1,1,0,1,0,0,1,1,0,0,1,1,0,0]
def sp:SP:=⟨[(1,.pt Xn),(27,.cs (.sl Xb)),(28,.cs I64),(29,.cs I64),(34,.cs (.sl Xl)),(35,.cs I64),(36,.cs I64)],[]⟩
def fr:=Yig sp (fun x s=>Xaq.B x.1.1 x.1.2.1 x.1.2.2.1 x.1.2.2.2.1 x.1.2.2.2.2.1 x.1.2.2.2.2.2.1 s) (fun x=>x.1.2.2.2.2.2.2.1) fun x (oo0:(Int⊕Unit)) _ kk0=>sel oo0 (fun bb0=>kk0 (.rt) ⟨[(2,.cs I64 bb0)],[]⟩) (fun cc0=>kk0 (.ex 2) ⟨[(1,.pt Xn x.1.1),(27,.cs (.sl Xb) x.1.2.1),(28,.cs I64 x.1.2.2.1),(29,.cs I64 x.1.2.2.2.1)],[]⟩)
theorem ok:Ya6 PR 58 1 (.loop c) fr:=
 Yr7 Xe Xd ⟨[1],[],[],0⟩ .no (G:=Xam.G) Xam.Gok (L:=mkL []) (l:=[]) hT [(2,([1,27,28,29],[]))] ([2],[]) (fun x s=>((x.1.1,x.1.2.1,x.1.2.2.1,x.1.2.2.2.1,x.1.2.2.2.2.1,x.1.2.2.2.2.2.1,s,x.1.2.2.2.2.2.2.2),x.2))
  (fun x s=>by simp only[B,mC,mB,mS,mO,mN];kernel_rfl)
end Xaq
namespace Xbx
def c:=Yal (Yah Proofs.Tryz.f39) [1,1,1,1,0,1,0,0]
def sp:SP:=⟨[(1,.pt Xn),(27,.cs (.sl Xb)),(28,.cs I64),(29,.cs I64)],[]⟩
def fr:=Yig sp (fun x s=>Xbx.B x.1.1 x.1.2.1 x.1.2.2.1 s) (fun x=>x.1.2.2.2.1) fun x (oo0:(Int⊕Unit)) _ kk0=>sel oo0 (fun bb0=>kk0 (.rt) ⟨[(2,.cs I64 bb0)],[]⟩) (fun cc0=>kk0 (.ex 0) ⟨[],[]⟩)
theorem ok:Ya6 PR 58 1 (.loop c) fr:=
 Yr7 Xe Xd ⟨[1],[],[],0⟩ (.R (.R (.L (.one (.R (.R (.one (.fr 1)))))))) (G:=Xam.G) Xam.Gok (L:=mkL [(1,Xaq.fr)]) (l:=[(1,.loop Xaq.c)]) ⟨Lam.cons Xaq.ok,trivial⟩ [(0,([],[]))] ([2],[]) (fun x s=>((x.1.1,x.1.2.1,x.1.2.2.1,s,x.1.2.2.2.2),x.2))
  (fun x s=>by simp only[B,mC,mB,mS,mO,mN];kernel_rfl)
end Xbx
namespace Xam
def pts:List PT:=[.cs Xn]
def FS:FS:=Yc6 [.sh] pts (fun x=>Xam x.1) fun t=>⟨[.cs I64 t],[]⟩
theorem ok:Ycv PR 39 FS:=
 Yvf Xe Xd Proofs.Tryz.f39 ⟨[1],[],[],0⟩ (.R (.R (.R (.R (.L (.R (.one (.fr 0)))))))) (G:=G) Gok (L:=mkL [(1,Xaq.fr),(0,Xbx.fr)]) (l:=[(0,.loop Xbx.c)]) ⟨Lam.skip rfl (Lam.cons Xbx.ok),trivial⟩
  (fun x=>by simp only[Xam,mC,mB,mS,mO,mN];kernel_rfl)
end Xam
def Xar.B (v:List Xa) (v8:List Xf) (v9:Int) (v7:List Bool) (v10:Int) (v11:List Int):Option ((Int×List Int)⊕(List Int)):=
 cond (decide (v10<v9)) (cond (inB v10 v8.length) (cond (decide ((v11++([(v8.getD v10.toNat Xm).2.1])).length≤2147483648)) (some (.inl (w64 (v10+1),v11++([(v8.getD v10.toNat Xm).2.1])))) none) none) (some (.inr v11))
def Xar (v:List Xa) (v8:List Xf) (v9:Int) (v7:List Bool):(Int×List Int)→Option (List Int):=
 Yap fun s=>Xar.B v v8 v9 v7 s.1 s.2
def Xag.B (v:List Xa) (v3:List Bool) (v4:List Int):Option (((List Bool)×List Int)⊕(List Bool)):=
 cond (decide ((v4.length:Int)>0)) (cond (inB (w64 ((v4.length:Int)-1)) v4.length) (cond (decide ((0:Int)≤(w64 ((v4.length:Int)-1)))&&decide ((w64 ((v4.length:Int)-1))≤(v4.length:Int))) ((some ((v4.drop 0).take (((w64 ((v4.length:Int)-1)).toNat)-0))).bind fun v5=>cond (inB (v4.getD ((w64 ((v4.length:Int)-1)).toNat) 0) v3.length) ((some (v3.getD ((v4.getD ((w64 ((v4.length:Int)-1)).toNat) 0).toNat) false)).bind fun v6=>cond v6 (some (.inl (v3,v5))) (cond (inB (v4.getD ((w64 ((v4.length:Int)-1)).toNat) 0) v3.length) ((some (v3.set ((v4.getD ((w64 ((v4.length:Int)-1)).toNat) 0).toNat) true)).bind fun v7=>cond (inB (v4.getD ((w64 ((v4.length:Int)-1)).toNat) 0) v.length) ((some (v.getD (v4.getD ((w64 ((v4.length:Int)-1)).toNat) 0).toNat Xc).2.2.2.2.1).bind fun v8=>(Xar v v8 (v8.length:Int) v7 (0,v5)).bind fun v12=>some (.inl (v7,v12))) none) none)) none) none) none) (some (.inr v3))
def Xag (v:List Xa):((List Bool)×List Int)→Option (List Bool):=
 Yap fun s=>Xag.B v s.1 s.2
def Xa3.B (v14:Int) (v13:List Bool) (v15:Int) (v16:List Int):Option ((Int×List Int)⊕(List Int)):=
 cond (decide (v15<v14)) (cond (inB v15 v13.length) (cond (v13.getD v15.toNat false) (cond (decide ((v16++([v15])).length≤2147483648)) (some (.inl (w64 (v15+1),v16++([v15])))) none) (some (.inl (w64 (v15+1),v16)))) none) (some (.inr v16))
def Xa3 (v14:Int) (v13:List Bool):(Int×List Int)→Option (List Int):=
 Yap fun s=>Xa3.B v14 v13 s.1 s.2
def Xcl (v:List Xa) (v2:Int):Option (List Int):=
 cond (decide ((0:Int)≤(v.length:Int))&&(decide ((v.length:Int)≤(v.length:Int))&&decide ((v.length:Int)≤2147483648))) ((Xag v (List.replicate (v.length:Int).toNat false,[v2])).bind fun v13=>(Xa3 (v13.length:Int) v13 (0,[])).bind fun v17=>some v17) none
namespace Xar
def c:=Yal (Yah Proofs.Tryz.f61) [1,1,1,0,0,0,1,0,1,1,1,1,1,0,0]
def sp:SP:=⟨[(0,.cs (.sl Xb)),(5,.seg 5 []),(6,.seg 6 []),(43,.cs (.sl Xl)),(44,.cs I64),(45,.cs I64)],[(5,.reg,.cd (.sl .bool)),(6,.reg,.cd SI)]⟩
def fr:=Yig sp (fun x s=>Xar.B x.1.1 x.1.2.2.2.1 x.1.2.2.2.2.1 x.2.1 s.1 s.2) (fun x=>(x.1.2.2.2.2.2.1,x.2.2.1)) fun x (bb0:List Int) _ kk0=>kk0 (.ex 2) ⟨[(0,.cs (.sl Xb) x.1.1),(5,.seg 5 []),(6,.seg 6 [])],[sr 5 (.cd (.sl .bool) x.2.1),sr 6 (.cd SI bb0)]⟩
theorem ok:Ya6 PR 69 2 (.loop c) fr:=
 Yu9 Xe Xd h0 [(2,([0,5,6],[5,6]))] (fun x s=>((x.1.1,x.1.2.1,x.1.2.2.1,x.1.2.2.2.1,x.1.2.2.2.2.1,s.1,x.1.2.2.2.2.2.2),(x.2.1,s.2,x.2.2.2)))
  (fun x s=>by simp only[B,mC,mB,mS,mO,mN];kernel_rfl)
end Xar
namespace Xag
def c:=Yal (Yah Proofs.Tryz.f61) [1,1,1,0,0,0]
def sp:SP:=⟨[(0,.cs (.sl Xb)),(5,.seg 5 []),(6,.seg 6 [])],[(5,.reg,.cd (.sl .bool)),(6,.reg,.cd SI)]⟩
def fr:=Yig sp (fun x s=>Xag.B x.1.1 s.1 s.2) (fun x=>(x.2.1,x.2.2.1)) fun x (bb0:List Bool) _ kk0=>kk0 (.ex 0) ⟨[(5,.seg 5 [])],[sr 5 (.cd (.sl .bool) bb0)]⟩
theorem ok:Ya6 PR 69 2 (.loop c) fr:=
 Yvg Xe Xd h0 (.R (.one (.R (.R (.R (.R (.R (.one (.fr 1))))))))) (L:=mkL [(1,Xar.fr)]) (l:=[(1,.loop Xar.c)]) ⟨Lam.cons Xar.ok,trivial⟩ [(0,([5],[5]))] (fun x s=>(x.1,(s.1,s.2,x.2.2.2)))
  (fun x s=>by simp only[B,mC,mB,mS,mO,mN];kernel_rfl)
end Xag
namespace Xa3
def c:=Yal (Yah Proofs.Tryz.f61) [1,1,1,1,1,0,1,0,0]
def sp:SP:=⟨[(10,.seg 10 []),(55,.seg 5 []),(56,.cs I64),(57,.cs I64)],[(5,.reg,.cd (.sl .bool)),(10,.reg,.cd SI)]⟩
def fr:=Yig sp (fun x s=>Xa3.B x.1.2.2.1 x.2.1 s.1 s.2) (fun x=>(x.1.2.2.2.1,x.2.2.1)) fun x (bb0:List Int) _ kk0=>kk0 (.ex 4) ⟨[(10,.seg 10 [])],[sr 10 (.cd SI bb0)]⟩
theorem ok:Ya6 PR 69 2 (.loop c) fr:=
 Yu9 Xe Xd h0 [(4,([10],[10]))] (fun x s=>((x.1.1,x.1.2.1,x.1.2.2.1,s.1,x.1.2.2.2.2),(x.2.1,s.2,x.2.2.2)))
  (fun x s=>by simp only[B,mC,mB,mS,mO,mN];kernel_rfl)
end Xa3
namespace Xcl
def pts:List PT:=[.cs (.sl Xb),.cs I64]
def FS:FS:=Yc6 [.sh,.sh] pts (fun x=>Xcl x.1 x.2.1) fun t=>⟨[.cd SI t],[]⟩
theorem ok:Ycv PR 61 FS:=
 Yvf Xe Xd Proofs.Tryz.f61 h0 (.R (.R (.R (.two (.one (.fr 0)) (.R (.L (.R (.one (.fr 2))))))))) (G:=(mkG [])) .nil (L:=mkL [(1,Xar.fr),(0,Xag.fr),(2,Xa3.fr)]) (l:=[(0,.loop Xag.c),(2,.loop Xa3.c)]) ⟨Lam.skip rfl (Lam.cons Xag.ok),Lam.skip rfl (Lam.skip rfl (Lam.cons Xa3.ok)),trivial⟩
  (fun x=>by simp only[Xcl,mC,mB,mS,mO,mN];kernel_rfl)
end Xcl
def Xas.B (v2:Int) (v:List Xa) (v4:Int) (v5:Int) (v8:List Xf) (v6:Int) (v7:Int) (v9:Int):Option ((Int×Int)⊕Int):=
 cond (decide (v9<v6)) (cond (inB v9 v8.length) (cond ((v8.getD v9.toNat Xm).2.1 == v2) (some (.inl (w64 (v7+1),w64 (v9+1)))) (some (.inl (v7,w64 (v9+1))))) none) (some (.inr v7))
def Xas (v2:Int) (v:List Xa) (v4:Int) (v5:Int) (v8:List Xf) (v6:Int):(Int×Int)→Option Int:=
 Yap fun s=>Xas.B v2 v v4 v5 v8 v6 s.1 s.2
def Xa4.B (v2:Int) (v:List Xa) (v4:Int) (v3:Int) (v5:Int):Option ((Int×Int)⊕Int):=
 cond (decide (v5<v4)) (cond (inB v5 v.length) ((some ((v.getD v5.toNat Xc).2.2.2.2.1.length:Int)).bind fun v6=>(Xas v2 v v4 v5 (v.getD v5.toNat Xc).2.2.2.2.1 v6 (v3,0)).bind fun v10=>some (.inl (v10,w64 (v5+1)))) none) (some (.inr v3))
def Xa4 (v2:Int) (v:List Xa) (v4:Int):(Int×Int)→Option Int:=
 Yap fun s=>Xa4.B v2 v v4 s.1 s.2
def Xc2 (v:List Xa) (v2:Int):Option Int:=
 (Xa4 v2 v (v.length:Int) (0,0)).bind fun v11=>some v11
namespace Xas
def c:=Yal (Yah Proofs.Tryz.f62) [1,1,0,1,0,0,1,1,0,0,1,1,0,0]
def sp:SP:=⟨[(1,.cs I64),(5,.cs I64),(10,.cs (.sl Xb)),(11,.cs I64),(12,.cs I64),(17,.cs (.sl Xl)),(18,.cs I64),(19,.cs I64)],[]⟩
def fr:=Yig sp (fun x s=>Xas.B x.1.1 x.1.2.2.1 x.1.2.2.2.1 x.1.2.2.2.2.1 x.1.2.2.2.2.2.1 x.1.2.2.2.2.2.2.1 s.1 s.2) (fun x=>(x.1.2.1,x.1.2.2.2.2.2.2.2.1)) fun x (bb0:Int) _ kk0=>kk0 (.ex 2) ⟨[(1,.cs I64 x.1.1),(5,.cs I64 bb0),(10,.cs (.sl Xb) x.1.2.2.1),(11,.cs I64 x.1.2.2.2.1),(12,.cs I64 x.1.2.2.2.2.1)],[]⟩
theorem ok:Ya6 PR 32 2 (.loop c) fr:=
 Yu9 Xe Xd h0 [(2,([1,5,10,11,12],[]))] (fun x s=>((x.1.1,s.1,x.1.2.2.1,x.1.2.2.2.1,x.1.2.2.2.2.1,x.1.2.2.2.2.2.1,x.1.2.2.2.2.2.2.1,s.2,x.1.2.2.2.2.2.2.2.2),x.2))
  (fun x s=>by simp only[B,mC,mB,mS,mO,mN];kernel_rfl)
end Xas
namespace Xa4
def c:=Yal (Yah Proofs.Tryz.f62) [1,1,0,1,0,0]
def sp:SP:=⟨[(1,.cs I64),(5,.cs I64),(10,.cs (.sl Xb)),(11,.cs I64),(12,.cs I64)],[]⟩
def fr:=Yig sp (fun x s=>Xa4.B x.1.1 x.1.2.2.1 x.1.2.2.2.1 s.1 s.2) (fun x=>(x.1.2.1,x.1.2.2.2.2.1)) fun x (bb0:Int) _ kk0=>kk0 (.ex 0) ⟨[(5,.cs I64 bb0)],[]⟩
theorem ok:Ya6 PR 32 2 (.loop c) fr:=
 Yvg Xe Xd h0 (.R (.R (.L (.one (.R (.R (.one (.fr 1)))))))) (L:=mkL [(1,Xas.fr)]) (l:=[(1,.loop Xas.c)]) ⟨Lam.cons Xas.ok,trivial⟩ [(0,([5],[]))] (fun x s=>((x.1.1,s.1,x.1.2.2.1,x.1.2.2.2.1,s.2,x.1.2.2.2.2.2),x.2))
  (fun x s=>by simp only[B,mC,mB,mS,mO,mN];kernel_rfl)
end Xa4
namespace Xc2
def pts:List PT:=[.cs (.sl Xb),.cs I64]
def FS:FS:=Yc6 [.sh,.sh] pts (fun x=>Xc2 x.1 x.2.1) fun t=>⟨[.cs I64 t],[]⟩
theorem ok:Ycv PR 62 FS:=
 Yvf Xe Xd Proofs.Tryz.f62 h0 (.R (.R (.L (.R (.one (.fr 0)))))) (G:=(mkG [])) .nil (L:=mkL [(1,Xas.fr),(0,Xa4.fr)]) (l:=[(0,.loop Xa4.c)]) ⟨Lam.skip rfl (Lam.cons Xa4.ok),trivial⟩
  (fun x=>by simp only[Xc2,mC,mB,mS,mO,mN];kernel_rfl)
end Xc2
def Xby.B (v:Fs_) (v3:List Xa) (v4:Int) (v2:List Int) (v5:Int):Option (Int⊕((Int⊕Unit))):=
 cond (decide (v5<v4)) (cond (inB v5 v3.length) ((Xc2 v.1 v5).bind fun v6=>(some (cond ((v3.getD v5.toNat Xc).1 == 1) ((v3.getD v5.toNat Xc).2.1 != v6) false)).bind fun v7=>cond v7 (some (.inr (.inl 1))) ((some (cond ((v3.getD v5.toNat Xc).1 == 2) (v5 == 0) false)).bind fun v8=>cond (cond v8 (v6 != 0) false) (some (.inr (.inl 1))) ((some (cond ((v3.getD v5.toNat Xc).1 == 2) (decide (v5>0)) false)).bind fun v9=>cond (cond v9 (v6 != 1) false) (some (.inr (.inl 1))) (cond ((v3.getD v5.toNat Xc).1 != 0) ((Xfd v2 v5).bind fun v10=>cond (!v10) (some (.inr (.inl 1))) (some (.inl (w64 (v5+1))))) (some (.inl (w64 (v5+1)))))))) none) (some (.inr (.inr ())))
def Xby (v:Fs_) (v3:List Xa) (v4:Int) (v2:List Int):Int→Option ((Int⊕Unit)):=
 Yap fun s=>Xby.B v v3 v4 v2 s
def Xa5 (v:Fs_):Option Int:=
 (Xcl v.1 0).bind fun v2=>(Xby v v.1 (v.1.length:Int) v2 0).bind fun v11=>sel v11 (fun v12=>some v12) (fun v13=>some 0)
namespace Xa5
def G:Gam:=mkG [(61,Xcl.FS),(62,Xc2.FS),(29,Xfd.FS)]
theorem Gok:GOk PR G:=.cons Xcl.ok (.cons Xc2.ok (.cons Xfd.ok .nil))
end Xa5
namespace Xby
def c:=Yal (Yah Proofs.Tryz.f40) [1,1,0,1,0,0]
def sp:SP:=⟨[(1,.pt Xn),(3,.seg 3 []),(12,.cs (.sl Xb)),(13,.cs I64),(14,.cs I64)],[(3,.reg,.cd SI)]⟩
def fr:=Yig sp (fun x s=>Xby.B x.1.1 x.1.2.2.1 x.1.2.2.2.1 x.2.1 s) (fun x=>x.1.2.2.2.2.1) fun x (oo0:(Int⊕Unit)) _ kk0=>sel oo0 (fun bb0=>kk0 (.rt) ⟨[(2,.cs I64 bb0)],[]⟩) (fun cc0=>kk0 (.ex 0) ⟨[],[]⟩)
theorem ok:Ya6 PR 66 1 (.loop c) fr:=
 Yr7 Xe Xd ⟨[1],[],[],0⟩ .no (G:=Xa5.G) Xa5.Gok (L:=mkL []) (l:=[]) hT [(0,([],[]))] ([2],[]) (fun x s=>((x.1.1,x.1.2.1,x.1.2.2.1,x.1.2.2.2.1,s,x.1.2.2.2.2.2),x.2))
  (fun x s=>by simp only[B,mC,mB,mS,mO,mN];kernel_rfl)
end Xby
namespace Xa5
def pts:List PT:=[.cs Xn]
def FS:FS:=Yc6 [.sh] pts (fun x=>Xa5 x.1) fun t=>⟨[.cs I64 t],[]⟩
theorem ok:Ycv PR 40 FS:=
 Yvf Xe Xd Proofs.Tryz.f40 ⟨[1],[],[],0⟩ (.R (.R (.L (.R (.one (.fr 0)))))) (G:=G) Gok (L:=mkL [(0,Xby.fr)]) (l:=[(0,.loop Xby.c)]) ⟨Lam.cons Xby.ok,trivial⟩
  (fun x=>by simp only[Xa5,mC,mB,mS,mO,mN];kernel_rfl)
end Xa5
def Xat.B (v:List Xa) (v2:Int) (v3:Int) (v7:List Int) (v6:Int) (v4:List Int) (v10:Xa) (v8:Int) (v9:List Int):Option ((Int×List Int)⊕(List Int)):=
 cond (decide (v8<v6)) (cond (inB v8 v7.length) ((some (cond (decide ((w64 (v10.2.2.1-(w64 (v8*8))))<8)) (w64 (v10.2.2.1-(w64 (v8*8)))) 8)).bind fun v11=>cond (inB (v7.getD v8.toNat 0) 20) (some (.inl (w64 (v8+1),v9.set ((v7.getD v8.toNat 0).toNat) v11))) none) none) (some (.inr v9))
def Xat (v:List Xa) (v2:Int) (v3:Int) (v7:List Int) (v6:Int) (v4:List Int) (v10:Xa):(Int×List Int)→Option (List Int):=
 Yap fun s=>Xat.B v v2 v3 v7 v6 v4 v10 s.1 s.2
def Xa6.B (v:List Xa) (v2:Int) (v4:List Int) (v3:Int) (v5:List Int):Option ((Int×List Int)⊕(List Int)):=
 cond (decide (v3<v2)) (cond (inB v3 v.length) ((some ((v.getD v3.toNat Xc).2.2.2.1.length:Int)).bind fun v6=>(Xat v v2 v3 (v.getD v3.toNat Xc).2.2.2.1 v6 v4 (v.getD v3.toNat Xc) (0,v5)).bind fun v12=>some (.inl (w64 (v3+1),v12))) none) (some (.inr v5))
def Xa6 (v:List Xa) (v2:Int) (v4:List Int):(Int×List Int)→Option (List Int):=
 Yap fun s=>Xa6.B v v2 v4 s.1 s.2
def Xc3 (v:List Xa):Option (List Int):=
 (Xa6 v (v.length:Int) (List.replicate 20 0) (0,(List.replicate 20 0))).bind fun v13=>some v13
namespace Xat
def c:=Yal (Yah Proofs.Tryz.f63) [1,1,0,1,0,0,1,1,0,0,1,1,0,0]
def sp:SP:=⟨[(2,.loc 2 []),(3,.loc 3 []),(5,.loc 5 []),(8,.cs (.sl Xb)),(9,.cs I64),(10,.cs I64),(15,.cs SI),(16,.cs I64),(17,.cs I64)],[(2,.mem,.cd (.arr 20 I64)),(3,.mem,.cd (.arr 20 I64)),(5,.mem,.cs Xb)]⟩
def fr:=Yig sp (fun x s=>Xat.B x.1.2.2.2.1 x.1.2.2.2.2.1 x.1.2.2.2.2.2.1 x.1.2.2.2.2.2.2.1 x.1.2.2.2.2.2.2.2.1 x.2.1 x.2.2.2.1 s.1 s.2) (fun x=>(x.1.2.2.2.2.2.2.2.2.1,x.2.2.1)) fun x (bb0:List Int) _ kk0=>kk0 (.ex 2) ⟨[(2,.loc 2 []),(3,.loc 3 []),(8,.cs (.sl Xb) x.1.2.2.2.1),(9,.cs I64 x.1.2.2.2.2.1),(10,.cs I64 x.1.2.2.2.2.2.1)],[(2,some ⟨.mem,.cd (.arr 20 I64) x.2.1⟩),(3,some ⟨.mem,.cd (.arr 20 I64) bb0⟩)]⟩
theorem ok:Ya6 PR 33 1 (.loop c) fr:=
 Yu9 Xe Xd h0 [(2,([2,3,8,9,10],[2,3]))] (fun x s=>((x.1.1,x.1.2.1,x.1.2.2.1,x.1.2.2.2.1,x.1.2.2.2.2.1,x.1.2.2.2.2.2.1,x.1.2.2.2.2.2.2.1,x.1.2.2.2.2.2.2.2.1,s.1,x.1.2.2.2.2.2.2.2.2.2),(x.2.1,s.2,x.2.2.2)))
  (fun x s=>by simp only[B,mC,mB,mS,mO,mN];kernel_rfl)
end Xat
namespace Xa6
def c:=Yal (Yah Proofs.Tryz.f63) [1,1,0,1,0,0]
def sp:SP:=⟨[(2,.loc 2 []),(3,.loc 3 []),(8,.cs (.sl Xb)),(9,.cs I64),(10,.cs I64)],[(2,.mem,.cd (.arr 20 I64)),(3,.mem,.cd (.arr 20 I64))]⟩
def fr:=Yig sp (fun x s=>Xa6.B x.1.2.2.1 x.1.2.2.2.1 x.2.1 s.1 s.2) (fun x=>(x.1.2.2.2.2.1,x.2.2.1)) fun x (bb0:List Int) _ kk0=>kk0 (.ex 0) ⟨[(2,.loc 2 []),(3,.loc 3 [])],[(2,some ⟨.mem,.cd (.arr 20 I64) x.2.1⟩),(3,some ⟨.mem,.cd (.arr 20 I64) bb0⟩)]⟩
theorem ok:Ya6 PR 33 1 (.loop c) fr:=
 Yvg Xe Xd h0 (.R (.R (.L (.one (.R (.R (.one (.fr 1)))))))) (L:=mkL [(1,Xat.fr)]) (l:=[(1,.loop Xat.c)]) ⟨Lam.cons Xat.ok,trivial⟩ [(0,([2,3],[2,3]))] (fun x s=>((x.1.1,x.1.2.1,x.1.2.2.1,x.1.2.2.2.1,s.1,x.1.2.2.2.2.2),(x.2.1,s.2,x.2.2.2)))
  (fun x s=>by simp only[B,mC,mB,mS,mO,mN];kernel_rfl)
end Xa6
namespace Xc3
def pts:List PT:=[.cs (.sl Xb)]
def FS:FS:=Yc6 [.sh] pts (fun x=>Xc3 x.1) fun t=>⟨[.cs (.arr 20 I64) t],[]⟩
theorem ok:Ycv PR 63 FS:=
 Yvf Xe Xd Proofs.Tryz.f63 h0 (.R (.R (.L (.R (.one (.fr 0)))))) (G:=(mkG [])) .nil (L:=mkL [(1,Xat.fr),(0,Xa6.fr)]) (l:=[(0,.loop Xa6.c)]) ⟨Lam.skip rfl (Lam.cons Xa6.ok),trivial⟩
  (fun x=>by simp only[Xc3,mC,mB,mS,mO,mN];kernel_rfl)
end Xc3
def Xet (v:List Int):Option Int:=
 some (v.length:Int)
namespace Xet
def pts:List PT:=[.cs SB]
def FS:FS:=Yc6 [.sh] pts (fun x=>Xet x.1) fun t=>⟨[.cs I64 t],[]⟩
theorem ok:Ycv PR 64 FS:=
 Yvf Xe Xd Proofs.Tryz.f64 h0 .no (G:=(mkG [])) .nil (L:=mkL []) (l:=[]) hT
  (fun x=>by simp only[Xet,mC,mB,mS,mO,mN];kernel_rfl)
end Xet
def Xb6.B (v:Fs_) (v2:List Int) (v3:Int):Option (Int⊕((Int⊕Unit))):=
 cond (decide (v3<20)) (cond (inB v3 20) (cond (inB v3 v.2.1.length) ((Xet (v.2.1.getD v3.toNat [])).bind fun v4=>cond (v4 != (v2.getD v3.toNat 0)) (some (.inr (.inl 1))) (some (.inl (w64 (v3+1))))) none) none) (some (.inr (.inr ())))
def Xb6 (v:Fs_) (v2:List Int):Int→Option ((Int⊕Unit)):=
 Yap fun s=>Xb6.B v v2 s
def Xa7 (v:Fs_):Option Int:=
 (Xc3 v.1).bind fun v2=>(Xb6 v v2 0).bind fun v5=>sel v5 (fun v6=>some v6) (fun v7=>some 0)
namespace Xa7
def G:Gam:=mkG [(63,Xc3.FS),(64,Xet.FS)]
theorem Gok:GOk PR G:=.cons Xc3.ok (.cons Xet.ok .nil)
end Xa7
namespace Xb6
def c:=Yal (Yah Proofs.Tryz.f41) [1,0,1,0,0]
def sp:SP:=⟨[(1,.pt Xn),(7,.cs (.arr 20 I64)),(8,.cs I64)],[]⟩
def fr:=Yig sp (fun x s=>Xb6.B x.1.1 x.1.2.1 s) (fun x=>x.1.2.2.1) fun x (oo0:(Int⊕Unit)) _ kk0=>sel oo0 (fun bb0=>kk0 (.rt) ⟨[(2,.cs I64 bb0)],[]⟩) (fun cc0=>kk0 (.ex 0) ⟨[],[]⟩)
theorem ok:Ya6 PR 21 1 (.loop c) fr:=
 Yr7 Xe Xd ⟨[1],[],[],0⟩ .no (G:=Xa7.G) Xa7.Gok (L:=mkL []) (l:=[]) hT [(0,([],[]))] ([2],[]) (fun x s=>((x.1.1,x.1.2.1,s,x.1.2.2.2),x.2))
  (fun x s=>by simp only[B,mC,mB,mS,mO,mN];kernel_rfl)
end Xb6
namespace Xa7
def pts:List PT:=[.cs Xn]
def FS:FS:=Yc6 [.sh] pts (fun x=>Xa7 x.1) fun t=>⟨[.cs I64 t],[]⟩
theorem ok:Ycv PR 41 FS:=
 Yvf Xe Xd Proofs.Tryz.f41 ⟨[1],[],[],0⟩ (.R (.L (.R (.one (.fr 0))))) (G:=G) Gok (L:=mkL [(0,Xb6.fr)]) (l:=[(0,.loop Xb6.c)]) ⟨Lam.cons Xb6.ok,trivial⟩
  (fun x=>by simp only[Xa7,mC,mB,mS,mO,mN];kernel_rfl)
end Xa7
def Xc4 (v:Fs_):Option Int:=
 (Xam v).bind fun v2=>cond (v2 != 0) (some v2) ((Xa5 v).bind fun v3=>cond (v3 != 0) (some v3) ((Xa7 v).bind fun v4=>some v4))
namespace Xc4
def G:Gam:=mkG [(39,Xam.FS),(40,Xa5.FS),(41,Xa7.FS)]
def pts:List PT:=[.cs Xn]
def FS:FS:=Yc6 [.sh] pts (fun x=>Xc4 x.1) fun t=>⟨[.cs I64 t],[]⟩
theorem ok:Ycv PR 22 FS:=
 Yvf Xe Xd Proofs.Tryz.f22 ⟨[1],[],[],0⟩ .no (G:=G) (show GOk PR G from .cons Xam.ok (.cons Xa5.ok (.cons Xa7.ok .nil))) (L:=mkL []) (l:=[]) hT
  (fun x=>by simp only[Xc4,mC,mB,mS,mO,mN];kernel_rfl)
end Xc4
def Xeu (x:List (List (List UInt8))):Option (List (List UInt8)):=Yko x
def Xeu.FS:FS:=Yc6 [.sh] [.cl .sh (.sl (.sl .str))] (fun x=>Yko x.1) fun y=>⟨[.cl .deep (.sl .str) y],[]⟩
theorem Xeu.ok:Ycv Go.Proofs.Tryz.prog 79 Xeu.FS:=
 Ysv (E:=9) rfl ⟨Go.Proofs.Tryz.f79,by kernel_rfl,by kernel_rfl,by kernel_rfl⟩ (fun w A b off m c hs cs hA hr hm ht=>Go.Proofs.Cc79.concat_in w A b off m c hs cs (by kernel_rfl) hA hr hm ht)
def Xfk (xs:List (List UInt8)) (sep:List UInt8):Option (List UInt8):=Yqo xs sep
def Xfk.FS:FS:=Yc6 [.sh,.sh] [.cl .sh (.sl .str),.cl .sh .str] (fun x=>Yqo x.1 x.2.1) fun y=>⟨[.cl .sh .str y],[]⟩
theorem Xfk.ok:Ycv Go.Proofs.Tryz.prog 93 Xfk.FS:=
 Yuw ⟨Go.Proofs.Tryz.f93,by kernel_rfl,by kernel_rfl,by kernel_rfl⟩ Go.Proofs.Jn.join_any
def Xc5 (v:List (List UInt8)):Option (List UInt8):=
 (Xfk v ([47]:List UInt8)).bind fun v2=>cond (decide (([47]:List UInt8).length+v2.length≤2147483648)) (some (([47]:List UInt8)++v2)) none
namespace Xc5
def G:Gam:=mkG [(93,Xfk.FS)]
def pts:List PT:=[.cs (.sl .str)]
def FS:FS:=Yc6 [.sh] pts (fun x=>Xc5 x.1) fun t=>⟨[.cs .str t],[]⟩
theorem ok:Ycv PR 80 FS:=
 Yvf Xe Xd Proofs.Tryz.f80 h0 .no (G:=G) (show GOk PR G from .cons Xfk.ok .nil) (L:=mkL []) (l:=[]) hT
  (fun x=>by simp only[Xc5,mC,mB,mS,mO,mN];kernel_rfl)
end Xc5
abbrev Xv.Ty:Type:=Fs_→Int→(List (List UInt8))→(List (List UInt8))→Option (List (List UInt8))
def Xa8.B (self:Xv.Ty) (v:Fs_) (v3:List (List UInt8)) (v6:List Xf) (v5:Int) (v7:Int) (v8:List (List UInt8)):Option ((Int×List (List UInt8))⊕(List (List UInt8))):=
 cond (decide (v7<v5)) (cond (inB v7 v6.length) ((Xeu ([v3,[(v6.getD v7.toNat Xm).1]])).bind fun v9=>(Xc5 v9).bind fun v10=>cond (decide ((v8++([v10])).length≤2147483648)) ((self v (v6.getD v7.toNat Xm).2.1 v9 (v8++([v10]))).bind fun v11=>some (.inl (w64 (v7+1),v11))) none) none) (some (.inr v8))
def Xa8 (self:Xv.Ty) (v:Fs_) (v3:List (List UInt8)) (v6:List Xf) (v5:Int):(Int×List (List UInt8))→Option (List (List UInt8)):=
 Yap fun s=>Xa8.B self v v3 v6 v5 s.1 s.2
def Xv.step (self:Xv.Ty) (v:Fs_) (v2:Int) (v3:List (List UInt8)) (v4:List (List UInt8)):Option (List (List UInt8)):=
 cond ((v3.length:Int) == 6) (some v4) (cond (inB v2 v.1.length) ((some ((v.1.getD v2.toNat Xc).2.2.2.2.1.length:Int)).bind fun v5=>(Xa8 self v v3 (v.1.getD v2.toNat Xc).2.2.2.2.1 v5 (0,v4)).bind fun v12=>some v12) none)
def Xv.R:Nat→Xv.Ty
 |0=>fun _ _ _ _=>none
 |k+1=>fun v v2 v3 v4=>Xv.step (Xv.R k) v v2 v3 v4
def Xv (v:Fs_) (v2:Int) (v3:List (List UInt8)) (v4:List (List UInt8)):Option (List (List UInt8)):=
 Xv.R 40 v v2 v3 v4
namespace Xv
def pts:List PT:=[.pt Xn,.cs I64,.cs (.sl .str),.cd (.sl .str)]
noncomputable def FSr (self:Ty):FS:=Yc6 [.sh,.sh,.sh,.mu] pts (fun x=>self x.1 x.2.1 x.2.2.1 x.2.2.2.1) fun t=>⟨[.cd (.sl .str) t],[.dead 1]⟩
noncomputable def G (self:Ty):Gam:=mkG [(79,Xeu.FS),(80,Xc5.FS),(65,FSr self)]
theorem Gok (self:Ty) (hs:Ycv PR 65 (FSr self)):GOk PR (G self):=.cons Xeu.ok (.cons Xc5.ok (.cons hs .nil))
end Xv
namespace Xa8
def c:=Yal (Yah Proofs.Tryz.f65) [1,1,0,1,0,0]
def sp:SP:=⟨[(0,.pt Xn),(2,.cs (.sl .str)),(3,.seg 3 []),(23,.cs (.sl Xl)),(24,.cs I64),(25,.cs I64)],[(3,.reg,.cd (.sl .str))]⟩
noncomputable def fr (self:Xv.Ty):=Yig sp (fun x s=>Xa8.B self x.1.1 x.1.2.1 x.1.2.2.2.1 x.1.2.2.2.2.1 s.1 s.2) (fun x=>(x.1.2.2.2.2.2.1,x.2.1)) fun x (bb0:List (List UInt8)) _ kk0=>kk0 (.ex 0) ⟨[(3,.seg 3 [])],[sr 3 (.cd (.sl .str) bb0)]⟩
theorem ok (self:Xv.Ty) (hs:Ycv PR 65 (Xv.FSr self)):Ya6 PR 48 0 (.loop c) (fr self):=
 Yvh Xe Xd h0 (G:=Xv.G self) (Xv.Gok self hs) [(0,([3],[3]))] (fun x s=>((x.1.1,x.1.2.1,x.1.2.2.1,x.1.2.2.2.1,x.1.2.2.2.2.1,s.1,x.1.2.2.2.2.2.2),(s.2,x.2.2)))
  (fun x s=>by simp only[B,mC,mB,mS,mO,mN];kernel_rfl)
end Xa8
namespace Xv
def FS:FS:=Yc6 [.sh,.sh,.sh,.mu] pts (fun x=>Xv x.1 x.2.1 x.2.2.1 x.2.2.2.1) fun t=>⟨[.cd (.sl .str) t],[.dead 1]⟩
theorem okS (self:Ty) (hs:Ycv PR 65 (FSr self)):Ycv PR 65 (FSr (step self)):=
 Yu3 Xe Xd Proofs.Tryz.f65 h0 (.R (.R (.L (.R (.one (.fr 0)))))) (G:=(G self)) (Gok self hs) (L:=mkL [(0,Xa8.fr self)]) (l:=[(0,.loop Xa8.c)]) ⟨Lam.cons (Xa8.ok self hs),trivial⟩
  (fun x=>by simp only[step,mC,mB,mS,mO,mN];kernel_rfl)
theorem okR:∀ k,Ycv PR 65 (FSr (R k))
 |0=>Ycv.bot
 |k+1=>okS _ (okR k)
theorem ok:Ycv PR 65 FS:=okR 40
end Xv
def Xc6 (v:Fs_):Option (List (List UInt8)):=
 (Xv v 0 [] []).bind fun v2=>(some (cond (decide ((60:Int)<(v2.length:Int))) 60 (v2.length:Int))).bind fun v3=>cond (decide ((0:Int)≤v3)&&decide (v3≤(v2.length:Int))) (some ((v2.drop 0).take (v3.toNat-0))) none
namespace Xc6
def G:Gam:=mkG [(65,Xv.FS)]
def pts:List PT:=[.pt Xn]
def FS:FS:=Yc6 [.sh] pts (fun x=>Xc6 x.1) fun t=>⟨[.cd (.sl .str) t],[]⟩
theorem ok:Ycv PR 43 FS:=
 Yvf Xe Xd Proofs.Tryz.f43 h0 .no (G:=G) (show GOk PR G from .cons Xv.ok .nil) (L:=mkL []) (l:=[]) hT
  (fun x=>by simp only[Xc6,mC,mB,mS,mO,mN];kernel_rfl)
end Xc6
def Xh (v:List UInt8) (v2:List UInt8):Option Bool:=
 cond (cond (decide ((v.length:Int)≥(v2.length:Int))) (decide ((0:Int)≤(v2.length:Int))&&decide ((v2.length:Int)≤(v.length:Int))) true) ((some (cond (decide ((v.length:Int)≥(v2.length:Int))) (((v.take ((v2.length:Int).toNat)).drop 0) == v2) false)).bind fun v3=>some v3) none
namespace Xh
def pts:List PT:=[.cs .str,.cs .str]
def FS:FS:=Yc6 [.sh,.sh] pts (fun x=>Xh x.1 x.2.1) fun t=>⟨[.cs .bool t],[]⟩
theorem ok:Ycv PR 94 FS:=
 Yvf Xe Xd Proofs.Tryz.f94 h0 .no (G:=(mkG [])) .nil (L:=mkL []) (l:=[]) hT
  (fun x=>by simp only[Xh,mC,mB,mS,mO,mN];kernel_rfl)
end Xh
def Xc7 (v:List UInt8) (v2:List UInt8):Option Bool:=
 (Xh v v2).bind fun v3=>some v3
namespace Xc7
def G:Gam:=mkG [(94,Xh.FS)]
def pts:List PT:=[.cs .str,.cs .str]
def FS:FS:=Yc6 [.sh,.sh] pts (fun x=>Xc7 x.1 x.2.1) fun t=>⟨[.cs .bool t],[]⟩
theorem ok:Ycv PR 81 FS:=
 Yvf Xe Xd Proofs.Tryz.f81 h0 .no (G:=G) (show GOk PR G from .cons Xh.ok .nil) (L:=mkL []) (l:=[]) hT
  (fun x=>by simp only[Xc7,mC,mB,mS,mO,mN];kernel_rfl)
end Xc7
def Xi (v:List UInt8) (v2:List UInt8):Option Bool:=
 cond (cond (decide ((v.length:Int)≥(v2.length:Int))) (decide ((0:Int)≤(w64 ((v.length:Int)-(v2.length:Int))))&&decide ((w64 ((v.length:Int)-(v2.length:Int)))≤(v.length:Int))) true) ((some (cond (decide ((v.length:Int)≥(v2.length:Int))) (((v.take v.length).drop ((w64 ((v.length:Int)-(v2.length:Int))).toNat)) == v2) false)).bind fun v3=>some v3) none
namespace Xi
def pts:List PT:=[.cs .str,.cs .str]
def FS:FS:=Yc6 [.sh,.sh] pts (fun x=>Xi x.1 x.2.1) fun t=>⟨[.cs .bool t],[]⟩
theorem ok:Ycv PR 95 FS:=
 Yvf Xe Xd Proofs.Tryz.f95 h0 .no (G:=(mkG [])) .nil (L:=mkL []) (l:=[]) hT
  (fun x=>by simp only[Xi,mC,mB,mS,mO,mN];kernel_rfl)
end Xi
def Xc8 (v:List UInt8) (v2:List UInt8):Option Bool:=
 (Xi v v2).bind fun v3=>some v3
namespace Xc8
def G:Gam:=mkG [(95,Xi.FS)]
def pts:List PT:=[.cs .str,.cs .str]
def FS:FS:=Yc6 [.sh,.sh] pts (fun x=>Xc8 x.1 x.2.1) fun t=>⟨[.cs .bool t],[]⟩
theorem ok:Ycv PR 82 FS:=
 Yvf Xe Xd Proofs.Tryz.f82 h0 .no (G:=G) (show GOk PR G from .cons Xi.ok .nil) (L:=mkL []) (l:=[]) hT
  (fun x=>by simp only[Xc8,mC,mB,mS,mO,mN];kernel_rfl)
end Xc8
def Xfl (s sub:List UInt8):Option Int:=countP s sub
def Xfl.FS:FS:=Yc6 [.sh,.sh] [.cl .sh .str,.cl .sh .str] (fun x=>countP x.1 x.2.1) fun y=>⟨[.cl .sh (.int .i64) y],[]⟩
theorem Xfl.ok:Ycv Go.Proofs.Tryz.prog 117 Xfl.FS:=
 Yt6 ⟨Go.Proofs.Tryz.f117,by kernel_rfl,by kernel_rfl,by kernel_rfl⟩ Go.Proofs.Ct.count_one
def Xj (s:List UInt8) (c:Int):Option Int:=Yie s c
def Xj.FS:FS:=Yc6 [.sh,.sh] [.cl .sh .str,.cl .sh (.int .u8)] (fun x=>Yie x.1 x.2.1) fun y=>⟨[.cl .sh (.int .i64) y],[]⟩
theorem Xj.ok:Ycv Go.Proofs.Tryz.prog 140 Xj.FS:=
 Yr0 ⟨Go.Proofs.Tryz.f140,by kernel_rfl,by kernel_rfl,by kernel_rfl⟩ Go.Proofs.Ib.index_any
def Xk (v:List UInt8) (v2:List UInt8):Option Int:=
 cond (cond ((v2.length:Int) == 0) true (v2 == v)) (some 0) (cond ((v2.length:Int) == 1) (cond (inB 0 v2.length) ((Xj v ((v2.getD (0:Int).toNat 0).toNat:Int)).bind fun v3=>some v3) none) (cond (decide ((v2.length:Int)≥(v.length:Int))) (some (-1)) none))
namespace Xk
def G:Gam:=mkG [(140,Xj.FS)]
def pts:List PT:=[.cs .str,.cs .str]
def FS:FS:=Yc6 [.sh,.sh] pts (fun x=>Xk x.1 x.2.1) fun t=>⟨[.cs I64 t],[]⟩
theorem ok:Ycv PR 134 FS:=
 Yvf Xe Xd Proofs.Tryz.f134 h0 .no (G:=G) (show GOk PR G from .cons Xj.ok .nil) (L:=mkL []) (l:=[]) hT
  (fun x=>by simp only[Xk,mC,mB,mS,mO,mN];kernel_rfl)
end Xk
def Xc9 (v:List UInt8) (v2:List UInt8):Option Int:=
 (Xk v v2).bind fun v3=>some v3
namespace Xc9
def G:Gam:=mkG [(134,Xk.FS)]
def pts:List PT:=[.cs .str,.cs .str]
def FS:FS:=Yc6 [.sh,.sh] pts (fun x=>Xc9 x.1 x.2.1) fun t=>⟨[.cs I64 t],[]⟩
theorem ok:Ycv PR 118 FS:=
 Yvf Xe Xd Proofs.Tryz.f118 h0 .no (G:=G) (show GOk PR G from .cons Xk.ok .nil) (L:=mkL []) (l:=[]) hT
  (fun x=>by simp only[Xc9,mC,mB,mS,mO,mN];kernel_rfl)
end Xc9
def Xa9.B (v2:List UInt8) (v3:Int) (v8:Int) (v7:List UInt8) (v9:Int) (v10:List (List UInt8)):Option (((List UInt8)×Int×List (List UInt8))⊕((List UInt8)×Int×List (List UInt8))):=
 cond (decide (v9<v8)) ((Xc9 v7 v2).bind fun v11=>cond (decide (v11<0)) (some (.inr (v7,v9,v10))) (cond (decide ((0:Int)≤(w64 (v11+v3)))&&decide ((w64 (v11+v3))≤(v7.length:Int))) (cond (inB v9 v10.length) ((some (v10.set v9.toNat ((v7.take ((w64 (v11+v3)).toNat)).drop 0))).bind fun v12=>cond (decide ((0:Int)≤(w64 (v11+(v2.length:Int))))&&decide ((w64 (v11+(v2.length:Int)))≤(v7.length:Int))) ((some ((v7.take v7.length).drop ((w64 (v11+(v2.length:Int))).toNat))).bind fun v13=>some (.inl (v13,w64 (v9+1),v12))) none) none) none)) (some (.inr (v7,v9,v10)))
def Xa9 (v2:List UInt8) (v3:Int) (v8:Int):((List UInt8)×Int×List (List UInt8))→Option ((List UInt8)×Int×List (List UInt8)):=
 Yap fun s=>Xa9.B v2 v3 v8 s.1 s.2.1 s.2.2
def Xbz (v:List UInt8) (v2:List UInt8) (v3:Int) (v4:Int):Option (List (List UInt8)):=
 cond (v4 == 0) (some []) (cond (v2 == ([]:List UInt8)) none (cond (decide (v4<0)) ((Xfl v v2).bind fun v5=>(some (cond (decide ((w64 ((v.length:Int)+1))<(w64 (v5+1)))) (w64 ((v.length:Int)+1)) (w64 (v5+1)))).bind fun v6=>cond (decide ((0:Int)≤v6)&&(decide (v6≤v6)&&decide (v6≤2147483648))) ((Xa9 v2 v3 (w64 (v6-1)) (v,0,List.replicate v6.toNat ([]:List UInt8))).bind fun v14=>cond (inB v14.2.1 v14.2.2.length) (cond (decide ((0:Int)≤(w64 (v14.2.1+1)))&&decide ((w64 (v14.2.1+1))≤((v14.2.2.set v14.2.1.toNat v14.1).length:Int))) ((some (((v14.2.2.set v14.2.1.toNat v14.1).drop 0).take (((w64 (v14.2.1+1)).toNat)-0))).bind fun v15=>some v15) none) none) none) ((some (cond (decide ((w64 ((v.length:Int)+1))<v4)) (w64 ((v.length:Int)+1)) v4)).bind fun v16=>cond (decide ((0:Int)≤v16)&&(decide (v16≤v16)&&decide (v16≤2147483648))) ((Xa9 v2 v3 (w64 (v16-1)) (v,0,List.replicate v16.toNat ([]:List UInt8))).bind fun v17=>cond (inB v17.2.1 v17.2.2.length) (cond (decide ((0:Int)≤(w64 (v17.2.1+1)))&&decide ((w64 (v17.2.1+1))≤((v17.2.2.set v17.2.1.toNat v17.1).length:Int))) ((some (((v17.2.2.set v17.2.1.toNat v17.1).drop 0).take (((w64 (v17.2.1+1)).toNat)-0))).bind fun v18=>some v18) none) none) none)))
namespace Xbz
def G:Gam:=mkG [(117,Xfl.FS),(118,Xc9.FS)]
theorem Gok:GOk PR G:=.cons Xfl.ok (.cons Xc9.ok .nil)
end Xbz
namespace Xa9
def c:=Yal (Yah Proofs.Tryz.f96) [1,1,1,1,1,1,1,1,0,0,0]
def sp:SP:=⟨[(0,.cs .str),(1,.cs .str),(2,.cs I64),(3,.cs I64),(9,.seg 9 []),(10,.cs I64)],[(9,.reg,.cd (.sl .str))]⟩
def fr:=Yig sp (fun x s=>Xa9.B x.1.2.1 x.1.2.2.1 x.1.2.2.2.1 s.1 s.2.1 s.2.2) (fun x=>(x.1.1,x.1.2.2.2.2.2.1,x.2.1)) fun x (bb0:(List UInt8)×Int×List (List UInt8)) _ kk0=>kk0 (.ex 0) ⟨[(0,.cs .str bb0.1),(9,.seg 9 []),(10,.cs I64 bb0.2.1)],[sr 9 (.cd (.sl .str) bb0.2.2)]⟩
theorem ok:Ya6 PR 66 4 (.loop c) fr:=
 Yvh Xe Xd h0 (G:=Xbz.G) Xbz.Gok [(0,([0,9,10],[9]))] (fun x s=>((s.1,x.1.2.1,x.1.2.2.1,x.1.2.2.2.1,x.1.2.2.2.2.1,s.2.1,x.1.2.2.2.2.2.2),(s.2.2,x.2.2)))
  (fun x s=>by simp only[B,mC,mB,mS,mO,mN];kernel_rfl)
end Xa9
namespace Xbz
def pts:List PT:=[.cs .str,.cs .str,.cs I64,.cs I64]
def FS:FS:=Yc6 [.sh,.sh,.sh,.sh] pts (fun x=>Xbz x.1 x.2.1 x.2.2.1 x.2.2.2.1) fun t=>⟨[.cd (.sl .str) t],[]⟩
theorem ok:Ycv PR 96 FS:=
 Yvf Xe Xd Proofs.Tryz.f96 h0 (.R (.R (.R (.R (.R (.R (.R (.R (.L (.one (.fr 0))))))))))) (G:=G) Gok (L:=mkL [(0,Xa9.fr)]) (l:=[(0,.loop Xa9.c)]) ⟨Lam.cons Xa9.ok,trivial⟩
  (fun x=>by simp only[Xbz,mC,mB,mS,mO,mN];kernel_rfl)
end Xbz
def Xda (v:List UInt8) (v2:List UInt8):Option (List (List UInt8)):=
 (Xbz v v2 0 (-1)).bind fun v3=>some v3
namespace Xda
def G:Gam:=mkG [(96,Xbz.FS)]
def pts:List PT:=[.cs .str,.cs .str]
def FS:FS:=Yc6 [.sh,.sh] pts (fun x=>Xda x.1 x.2.1) fun t=>⟨[.cd (.sl .str) t],[]⟩
theorem ok:Ycv PR 83 FS:=
 Yvf Xe Xd Proofs.Tryz.f83 h0 .no (G:=G) (show GOk PR G from .cons Xbz.ok .nil) (L:=mkL []) (l:=[]) hT
  (fun x=>by simp only[Xda,mC,mB,mS,mO,mN];kernel_rfl)
end Xda
def Xba.B (v5:Int) (v4:List (List UInt8)) (v6:Int):Option (Int⊕(((Int×List (List UInt8))⊕Unit))):=
 cond (decide (v6<v5)) (cond (inB v6 v4.length) ((Xff (v4.getD v6.toNat [])).bind fun v7=>cond (v7 != 0) (some (.inr (.inl (v7,[])))) (some (.inl (w64 (v6+1))))) none) (some (.inr (.inr ())))
def Xba (v5:Int) (v4:List (List UInt8)):Int→Option (((Int×List (List UInt8))⊕Unit)):=
 Yap fun s=>Xba.B v5 v4 s
def Xbb (v:List UInt8):Option ((List (List UInt8))×Int):=
 cond (decide ((v.length:Int)>30)) (some ([],2)) (cond (v == ([47]:List UInt8)) (some ([],0)) ((Xc7 v ([47]:List UInt8)).bind fun v2=>cond (!v2) (some ([],5)) ((Xc8 v ([47]:List UInt8)).bind fun v3=>cond v3 (some ([],5)) (cond (decide ((0:Int)≤(1:Int))&&decide ((1:Int)≤(v.length:Int))) ((Xda ((v.take v.length).drop ((1:Int).toNat)) ([47]:List UInt8)).bind fun v4=>cond (decide ((v4.length:Int)>6)) (some ([],2)) ((Xba (v4.length:Int) v4 0).bind fun v8=>sel v8 (fun v9=>some (v9.2,v9.1)) (fun v10=>some (v4,0)))) none))))
namespace Xbb
def G:Gam:=mkG [(81,Xc7.FS),(82,Xc8.FS),(83,Xda.FS),(84,Xff.FS)]
theorem Gok:GOk PR G:=.cons Xc7.ok (.cons Xc8.ok (.cons Xda.ok (.cons Xff.ok .nil)))
end Xbb
namespace Xba
def c:=Yal (Yah Proofs.Tryz.f66) [1,1,1,1,1,1,0,1,0,0]
def sp:SP:=⟨[(4,.seg 4 []),(26,.seg 4 []),(27,.cs I64),(28,.cs I64)],[(4,.reg,.cd (.sl .str))]⟩
def fr:=Yig sp (fun x s=>Xba.B x.1.2.2.1 x.2.1 s) (fun x=>x.1.2.2.2.1) fun x (oo0:((Int×List (List UInt8))⊕Unit)) _ kk0=>sel oo0 (fun bb0=>kk0 (.rt) ⟨[(2,.seg 2 []),(3,.cs I64 bb0.1)],[sr 2 (.cd (.sl .str) bb0.2)]⟩) (fun cc0=>kk0 (.ex 0) ⟨[(4,.seg 4 [])],[sr 4 (.cd (.sl .str) x.2.1)]⟩)
theorem ok:Ya6 PR 39 1 (.loop c) fr:=
 Yr7 Xe Xd h0 .no (G:=Xbb.G) Xbb.Gok (L:=mkL []) (l:=[]) hT [(0,([4],[4]))] ([2,3],[2]) (fun x s=>((x.1.1,x.1.2.1,x.1.2.2.1,s,x.1.2.2.2.2),x.2))
  (fun x s=>by simp only[B,mC,mB,mS,mO,mN];kernel_rfl)
end Xba
namespace Xbb
def pts:List PT:=[.cs .str]
def FS:FS:=Yc6 [.sh] pts (fun x=>Xbb x.1) fun t=>⟨[.cd (.sl .str) t.1,.cs I64 t.2],[]⟩
theorem ok:Ycv PR 66 FS:=
 Yvf Xe Xd Proofs.Tryz.f66 h0 (.R (.R (.R (.R (.R (.R (.L (.R (.one (.fr 0)))))))))) (G:=G) Gok (L:=mkL [(0,Xba.fr)]) (l:=[(0,.loop Xba.c)]) ⟨Lam.cons Xba.ok,trivial⟩
  (fun x=>by simp only[Xbb,mC,mB,mS,mO,mN];kernel_rfl)
end Xbb
def Xb0.B (v3:List UInt8) (v5:List Xf) (v4:Int) (v6:Int):Option (Int⊕((Int⊕Unit))):=
 cond (decide (v6<v4)) (cond (inB v6 v5.length) (cond ((v5.getD v6.toNat Xm).1 == v3) (some (.inr (.inl (v5.getD v6.toNat Xm).2.1))) (some (.inl (w64 (v6+1))))) none) (some (.inr (.inr ())))
def Xb0 (v3:List UInt8) (v5:List Xf) (v4:Int):Int→Option ((Int⊕Unit)):=
 Yap fun s=>Xb0.B v3 v5 v4 s
def Xdb (v:Fs_) (v2:Int) (v3:List UInt8):Option Int:=
 cond (inB v2 v.1.length) ((some ((v.1.getD v2.toNat Xc).2.2.2.2.1.length:Int)).bind fun v4=>(Xb0 v3 (v.1.getD v2.toNat Xc).2.2.2.2.1 v4 0).bind fun v7=>sel v7 (fun v8=>some v8) (fun v9=>some (-1))) none
namespace Xb0
def c:=Yal (Yah Proofs.Tryz.f85) [1,0,1,0,0]
def sp:SP:=⟨[(2,.cs .str),(16,.cs (.sl Xl)),(17,.cs I64),(18,.cs I64)],[]⟩
def fr:=Yig sp (fun x s=>Xb0.B x.1.1 x.1.2.1 x.1.2.2.1 s) (fun x=>x.1.2.2.2.1) fun x (oo0:(Int⊕Unit)) _ kk0=>sel oo0 (fun bb0=>kk0 (.rt) ⟨[(6,.cs I64 bb0)],[]⟩) (fun cc0=>kk0 (.ex 0) ⟨[],[]⟩)
theorem ok:Ya6 PR 29 3 (.loop c) fr:=
 Yr7 Xe Xd h0 .no (G:=(mkG [])) .nil (L:=mkL []) (l:=[]) hT [(0,([],[]))] ([6],[]) (fun x s=>((x.1.1,x.1.2.1,x.1.2.2.1,s,x.1.2.2.2.2),x.2))
  (fun x s=>by simp only[B,mC,mB,mS,mO,mN];kernel_rfl)
end Xb0
namespace Xdb
def pts:List PT:=[.pt Xn,.cs I64,.cs .str]
def FS:FS:=Yc6 [.sh,.sh,.sh] pts (fun x=>Xdb x.1 x.2.1 x.2.2.1) fun t=>⟨[.cs I64 t],[]⟩
theorem ok:Ycv PR 85 FS:=
 Yvf Xe Xd Proofs.Tryz.f85 h0 (.R (.L (.R (.one (.fr 0))))) (G:=(mkG [])) .nil (L:=mkL [(0,Xb0.fr)]) (l:=[(0,.loop Xb0.c)]) ⟨Lam.cons Xb0.ok,trivial⟩
  (fun x=>by simp only[Xdb,mC,mB,mS,mO,mN];kernel_rfl)
end Xdb
def Xbc.B (v:Fs_) (v2:List (List UInt8)) (v4:Int) (v3:Int) (v5:Int):Option ((Int×Int)⊕(((Int×Int)⊕Int))):=
 cond (decide (v5<v4)) (cond (inB v5 v2.length) (cond (inB v3 v.1.length) (cond ((v.1.getD v3.toNat Xc).1 != 2) (some (.inr (.inl (0,9)))) ((Xdb v v3 (v2.getD v5.toNat [])).bind fun v6=>cond (decide (v6<0)) (some (.inr (.inl (0,4)))) (some (.inl (v6,w64 (v5+1)))))) none) none) (some (.inr (.inr v3)))
def Xbc (v:Fs_) (v2:List (List UInt8)) (v4:Int):(Int×Int)→Option (((Int×Int)⊕Int)):=
 Yap fun s=>Xbc.B v v2 v4 s.1 s.2
def Xbd (v:Fs_) (v2:List (List UInt8)):Option (Int×Int):=
 (Xbc v v2 (v2.length:Int) (0,0)).bind fun v7=>sel v7 (fun v8=>some (v8.1,v8.2)) (fun v9=>some (v9,0))
namespace Xbd
def G:Gam:=mkG [(85,Xdb.FS)]
theorem Gok:GOk PR G:=.cons Xdb.ok .nil
end Xbd
namespace Xbc
def c:=Yal (Yah Proofs.Tryz.f67) [1,1,0,1,0,0]
def sp:SP:=⟨[(0,.pt Xn),(6,.cs I64),(9,.cs (.sl .str)),(10,.cs I64),(11,.cs I64)],[]⟩
def fr:=Yig sp (fun x s=>Xbc.B x.1.1 x.1.2.2.1 x.1.2.2.2.1 s.1 s.2) (fun x=>(x.1.2.1,x.1.2.2.2.2.1)) fun x (oo0:((Int×Int)⊕Int)) _ kk0=>sel oo0 (fun bb0=>kk0 (.rt) ⟨[(4,.cs I64 bb0.1),(5,.cs I64 bb0.2)],[]⟩) (fun cc0=>kk0 (.ex 0) ⟨[(6,.cs I64 cc0)],[]⟩)
theorem ok:Ya6 PR 32 2 (.loop c) fr:=
 Yr7 Xe Xd h0 .no (G:=Xbd.G) Xbd.Gok (L:=mkL []) (l:=[]) hT [(0,([6],[]))] ([4,5],[]) (fun x s=>((x.1.1,s.1,x.1.2.2.1,x.1.2.2.2.1,s.2,x.1.2.2.2.2.2),x.2))
  (fun x s=>by simp only[B,mC,mB,mS,mO,mN];kernel_rfl)
end Xbc
namespace Xbd
def pts:List PT:=[.pt Xn,.cs (.sl .str)]
def FS:FS:=Yc6 [.sh,.sh] pts (fun x=>Xbd x.1 x.2.1) fun t=>⟨[.cs I64 t.1,.cs I64 t.2],[]⟩
theorem ok:Ycv PR 67 FS:=
 Yvf Xe Xd Proofs.Tryz.f67 h0 (.R (.R (.L (.R (.one (.fr 0)))))) (G:=G) Gok (L:=mkL [(0,Xbc.fr)]) (l:=[(0,.loop Xbc.c)]) ⟨Lam.cons Xbc.ok,trivial⟩
  (fun x=>by simp only[Xbd,mC,mB,mS,mO,mN];kernel_rfl)
end Xbd
def Xdc (v:Fs_) (v2:List UInt8):Option (Int×Int):=
 (Xbb v2).bind fun v3=>cond (v3.2 != 0) (some (0,v3.2)) ((Xbd v v3.1).bind fun v4=>some (v4.1,v4.2))
namespace Xdc
def G:Gam:=mkG [(66,Xbb.FS),(67,Xbd.FS)]
def pts:List PT:=[.pt Xn,.cs .str]
def FS:FS:=Yc6 [.sh,.sh] pts (fun x=>Xdc x.1 x.2.1) fun t=>⟨[.cs I64 t.1,.cs I64 t.2],[]⟩
theorem ok:Ycv PR 44 FS:=
 Yvf Xe Xd Proofs.Tryz.f44 h0 .no (G:=G) (show GOk PR G from .cons Xbb.ok (.cons Xbd.ok .nil)) (L:=mkL []) (l:=[]) hT
  (fun x=>by simp only[Xdc,mC,mB,mS,mO,mN];kernel_rfl)
end Xdc
def Xb1.B (v:Fs_) (v2:Int) (v6:Int) (v5:List (List UInt8)) (v7:Int):Option (Int⊕((((List UInt8)×Int)⊕Unit))):=
 cond (decide (v7<v6)) (cond (inB v7 v5.length) ((Xdc v (v5.getD v7.toNat [])).bind fun v8=>cond (v8.1 == v2) (some (.inr (.inl (v5.getD v7.toNat [],0)))) (some (.inl (w64 (v7+1))))) none) (some (.inr (.inr ())))
def Xb1 (v:Fs_) (v2:Int) (v6:Int) (v5:List (List UInt8)):Int→Option ((((List UInt8)×Int)⊕Unit)):=
 Yap fun s=>Xb1.B v v2 v6 v5 s
def Xbe (v:Fs_) (v2:Int):Option ((List UInt8)×Int):=
 (Xbw v.1).bind fun v3=>(Xax v2 0 (w64 (v3-1))).bind fun v4=>cond (!v4) (some (([]:List UInt8),3)) (cond (v2 == 0) (some (([47]:List UInt8),0)) ((Xc6 v).bind fun v5=>(Xb1 v v2 (v5.length:Int) v5 0).bind fun v9=>sel v9 (fun v10=>some (v10.1,v10.2)) (fun v11=>some (([]:List UInt8),4))))
namespace Xbe
def G:Gam:=mkG [(42,Xbw.FS),(28,Xax.FS),(43,Xc6.FS),(44,Xdc.FS)]
theorem Gok:GOk PR G:=.cons Xbw.ok (.cons Xax.ok (.cons Xc6.ok (.cons Xdc.ok .nil)))
end Xbe
namespace Xb1
def c:=Yal (Yah Proofs.Tryz.f23) [1,1,1,0,1,0,0]
def sp:SP:=⟨[(0,.pt Xn),(1,.cs I64),(22,.seg 22 []),(23,.cs I64),(24,.cs I64)],[(22,.reg,.cd (.sl .str))]⟩
def fr:=Yig sp (fun x s=>Xb1.B x.1.1 x.1.2.1 x.1.2.2.2.1 x.2.1 s) (fun x=>x.1.2.2.2.2.1) fun x (oo0:(((List UInt8)×Int)⊕Unit)) _ kk0=>sel oo0 (fun bb0=>kk0 (.rt) ⟨[(4,.cs .str bb0.1),(5,.cs I64 bb0.2)],[]⟩) (fun cc0=>kk0 (.ex 0) ⟨[],[]⟩)
theorem ok:Ya6 PR 39 2 (.loop c) fr:=
 Yr7 Xe Xd h0 .no (G:=Xbe.G) Xbe.Gok (L:=mkL []) (l:=[]) hT [(0,([],[]))] ([4,5],[]) (fun x s=>((x.1.1,x.1.2.1,x.1.2.2.1,x.1.2.2.2.1,s,x.1.2.2.2.2.2),x.2))
  (fun x s=>by simp only[B,mC,mB,mS,mO,mN];kernel_rfl)
end Xb1
namespace Xbe
def pts:List PT:=[.pt Xn,.cs I64]
def FS:FS:=Yc6 [.sh,.sh] pts (fun x=>Xbe x.1 x.2.1) fun t=>⟨[.cs .str t.1,.cs I64 t.2],[]⟩
theorem ok:Ycv PR 23 FS:=
 Yvf Xe Xd Proofs.Tryz.f23 h0 (.R (.R (.R (.L (.R (.one (.fr 0))))))) (G:=G) Gok (L:=mkL [(0,Xb1.fr)]) (l:=[(0,.loop Xb1.c)]) ⟨Lam.cons Xb1.ok,trivial⟩
  (fun x=>by simp only[Xbe,mC,mB,mS,mO,mN];kernel_rfl)
end Xbe
def Xcm (v:Fs_) (v2:Int):Option Xr:=
 (Xc4 v).bind fun v3=>cond (v3 != 0) (some (v3,[],())) ((Xbe v v2).bind fun v4=>some (v4.2,v4.1,()))
namespace Xcm
def G:Gam:=mkG [(22,Xc4.FS),(23,Xbe.FS)]
def pts:List PT:=[.cs Xn,.cs I64]
def FS:FS:=Yc6 [.sh,.sh] pts (fun x=>Xcm x.1 x.2.1) fun t=>⟨[.cs Xq t],[]⟩
theorem ok:Ycv PR 8 FS:=
 Yvf Xe Xd Proofs.Tryz.f8 ⟨[2],[],[],0⟩ .no (G:=G) (show GOk PR G from .cons Xc4.ok (.cons Xbe.ok .nil)) (L:=mkL []) (l:=[]) hT
  (fun x=>by simp only[Xcm,mC,mB,mS,mO,mN];kernel_rfl)
end Xcm
def Xdd (a:Xr) (b:Xr):Option Bool:=
 cond (a.1 != b.1) (some false) (cond (!(a.2.1 == b.2.1)) (some false) (some true))
namespace Xdd
def pts:List PT:=[.cs Xq,.cs Xq]
def FS:FS:=Yc6 [.sh,.sh] pts (fun x=>Xdd x.1 x.2.1) fun t=>⟨[.cs .bool t],[]⟩
theorem ok:Ycv PR 9 FS:=
 Yvf Xe Xd Proofs.Tryz.f9 ⟨[2,3],[],[],0⟩ .no (G:=(mkG [])) .nil (L:=mkL []) (l:=[]) hT
  (fun x=>by simp only[Xdd,mC,mB,mS,mO,mN];kernel_rfl)
end Xdd
def Xbf.B (a:List Int) (b:List Int) (i_:Int):Option (Int⊕((Bool⊕Unit))):=
 cond (decide (i_<(a.length:Int))) (cond (inB i_ a.length) (cond (inB i_ b.length) (cond ((a.getD i_.toNat 0) != (b.getD i_.toNat 0)) (some (.inr (.inl false))) (some (.inl (w64 (i_+1))))) none) none) (some (.inr (.inr ())))
def Xbf (a:List Int) (b:List Int):Int→Option ((Bool⊕Unit)):=
 Yap fun s=>Xbf.B a b s
def Xde (a:List Int) (b:List Int):Option Bool:=
 cond ((a.length:Int) != (b.length:Int)) (some false) ((Xbf a b 0).bind fun o=>sel o (fun b2=>some b2) (fun c=>some true))
namespace Xbf
def c:=Yal (Yah Proofs.Tryz.f68) [1,1,0,1,0,0]
def sp:SP:=⟨[(0,.cs SI),(1,.cs SI),(5,.cs I64)],[]⟩
def fr:=Yig sp (fun x s=>Xbf.B x.1.1 x.1.2.1 s) (fun x=>x.1.2.2.1) fun x (oo0:(Bool⊕Unit)) _ kk0=>sel oo0 (fun bb0=>kk0 (.rt) ⟨[(4,.cs .bool bb0)],[]⟩) (fun cc0=>kk0 (.ex 0) ⟨[],[]⟩)
theorem ok:Ya6 PR 26 2 (.loop c) fr:=
 Yr7 Xe Xd h0 .no (G:=(mkG [])) .nil (L:=mkL []) (l:=[]) hT [(0,([],[]))] ([4],[]) (fun x s=>((x.1.1,x.1.2.1,s,x.1.2.2.2),x.2))
  (fun x s=>by simp only[B,mC,mB,mS,mO,mN];kernel_rfl)
end Xbf
namespace Xde
def pts:List PT:=[.cs SI,.cs SI]
def FS:FS:=Yc6 [.sh,.sh] pts (fun x=>Xde x.1 x.2.1) fun t=>⟨[.cs .bool t],[]⟩
theorem ok:Ycv PR 68 FS:=
 Yvf Xe Xd Proofs.Tryz.f68 h0 (.R (.R (.L (.R (.one (.fr 0)))))) (G:=(mkG [])) .nil (L:=mkL [(0,Xbf.fr)]) (l:=[(0,.loop Xbf.c)]) ⟨Lam.cons Xbf.ok,trivial⟩
  (fun x=>by simp only[Xde,mC,mB,mS,mO,mN];kernel_rfl)
end Xde
def Xdf (a:Xf) (b:Xf):Option Bool:=
 cond (!(a.1 == b.1)) (some false) (cond (a.2.1 != b.2.1) (some false) (some true))
namespace Xdf
def pts:List PT:=[.cs Xl,.cs Xl]
def FS:FS:=Yc6 [.sh,.sh] pts (fun x=>Xdf x.1 x.2.1) fun t=>⟨[.cs .bool t],[]⟩
theorem ok:Ycv PR 86 FS:=
 Yvf Xe Xd Proofs.Tryz.f86 ⟨[2,3],[],[],0⟩ .no (G:=(mkG [])) .nil (L:=mkL []) (l:=[]) hT
  (fun x=>by simp only[Xdf,mC,mB,mS,mO,mN];kernel_rfl)
end Xdf
def Xbg.B (a:List Xf) (b:List Xf) (i_:Int):Option (Int⊕((Bool⊕Unit))):=
 cond (decide (i_<(a.length:Int))) (cond (inB i_ a.length) (cond (inB i_ b.length) ((Xdf (a.getD i_.toNat Xm) (b.getD i_.toNat Xm)).bind fun r=>cond (!r) (some (.inr (.inl false))) (some (.inl (w64 (i_+1))))) none) none) (some (.inr (.inr ())))
def Xbg (a:List Xf) (b:List Xf):Int→Option ((Bool⊕Unit)):=
 Yap fun s=>Xbg.B a b s
def Xbh (a:List Xf) (b:List Xf):Option Bool:=
 cond ((a.length:Int) != (b.length:Int)) (some false) ((Xbg a b 0).bind fun o=>sel o (fun b2=>some b2) (fun c=>some true))
namespace Xbh
def G:Gam:=mkG [(86,Xdf.FS)]
theorem Gok:GOk PR G:=.cons Xdf.ok .nil
end Xbh
namespace Xbg
def c:=Yal (Yah Proofs.Tryz.f69) [1,1,0,1,0,0]
def sp:SP:=⟨[(0,.cs (.sl Xl)),(1,.cs (.sl Xl)),(5,.cs I64)],[]⟩
def fr:=Yig sp (fun x s=>Xbg.B x.1.1 x.1.2.1 s) (fun x=>x.1.2.2.1) fun x (oo0:(Bool⊕Unit)) _ kk0=>sel oo0 (fun bb0=>kk0 (.rt) ⟨[(4,.cs .bool bb0)],[]⟩) (fun cc0=>kk0 (.ex 0) ⟨[],[]⟩)
theorem ok:Ya6 PR 27 2 (.loop c) fr:=
 Yr7 Xe Xd h0 .no (G:=Xbh.G) Xbh.Gok (L:=mkL []) (l:=[]) hT [(0,([],[]))] ([4],[]) (fun x s=>((x.1.1,x.1.2.1,s,x.1.2.2.2),x.2))
  (fun x s=>by simp only[B,mC,mB,mS,mO,mN];kernel_rfl)
end Xbg
namespace Xbh
def pts:List PT:=[.cs (.sl Xl),.cs (.sl Xl)]
def FS:FS:=Yc6 [.sh,.sh] pts (fun x=>Xbh x.1 x.2.1) fun t=>⟨[.cs .bool t],[]⟩
theorem ok:Ycv PR 69 FS:=
 Yvf Xe Xd Proofs.Tryz.f69 h0 (.R (.R (.L (.R (.one (.fr 0)))))) (G:=G) Gok (L:=mkL [(0,Xbg.fr)]) (l:=[(0,.loop Xbg.c)]) ⟨Lam.cons Xbg.ok,trivial⟩
  (fun x=>by simp only[Xbh,mC,mB,mS,mO,mN];kernel_rfl)
end Xbh
def Xdg (a:Xa) (b:Xa):Option Bool:=
 cond (a.1 != b.1) (some false) (cond (a.2.1 != b.2.1) (some false) (cond (a.2.2.1 != b.2.2.1) (some false) ((Xde a.2.2.2.1 b.2.2.2.1).bind fun r=>cond (!r) (some false) ((Xbh a.2.2.2.2.1 b.2.2.2.2.1).bind fun r2=>cond (!r2) (some false) (some true)))))
namespace Xdg
def G:Gam:=mkG [(68,Xde.FS),(69,Xbh.FS)]
def pts:List PT:=[.cs Xb,.cs Xb]
def FS:FS:=Yc6 [.sh,.sh] pts (fun x=>Xdg x.1 x.2.1) fun t=>⟨[.cs .bool t],[]⟩
theorem ok:Ycv PR 45 FS:=
 Yvf Xe Xd Proofs.Tryz.f45 ⟨[2,3],[],[],0⟩ .no (G:=G) (show GOk PR G from .cons Xde.ok (.cons Xbh.ok .nil)) (L:=mkL []) (l:=[]) hT
  (fun x=>by simp only[Xdg,mC,mB,mS,mO,mN];kernel_rfl)
end Xdg
def Xbi.B (a:List Xa) (b:List Xa) (i_:Int):Option (Int⊕((Bool⊕Unit))):=
 cond (decide (i_<(a.length:Int))) (cond (inB i_ a.length) (cond (inB i_ b.length) ((Xdg (a.getD i_.toNat Xc) (b.getD i_.toNat Xc)).bind fun r=>cond (!r) (some (.inr (.inl false))) (some (.inl (w64 (i_+1))))) none) none) (some (.inr (.inr ())))
def Xbi (a:List Xa) (b:List Xa):Int→Option ((Bool⊕Unit)):=
 Yap fun s=>Xbi.B a b s
def Xbj (a:List Xa) (b:List Xa):Option Bool:=
 cond ((a.length:Int) != (b.length:Int)) (some false) ((Xbi a b 0).bind fun o=>sel o (fun b2=>some b2) (fun c=>some true))
namespace Xbj
def G:Gam:=mkG [(45,Xdg.FS)]
theorem Gok:GOk PR G:=.cons Xdg.ok .nil
end Xbj
namespace Xbi
def c:=Yal (Yah Proofs.Tryz.f24) [1,1,0,1,0,0]
def sp:SP:=⟨[(0,.cs (.sl Xb)),(1,.cs (.sl Xb)),(5,.cs I64)],[]⟩
def fr:=Yig sp (fun x s=>Xbi.B x.1.1 x.1.2.1 s) (fun x=>x.1.2.2.1) fun x (oo0:(Bool⊕Unit)) _ kk0=>sel oo0 (fun bb0=>kk0 (.rt) ⟨[(4,.cs .bool bb0)],[]⟩) (fun cc0=>kk0 (.ex 0) ⟨[],[]⟩)
theorem ok:Ya6 PR 27 2 (.loop c) fr:=
 Yr7 Xe Xd h0 .no (G:=Xbj.G) Xbj.Gok (L:=mkL []) (l:=[]) hT [(0,([],[]))] ([4],[]) (fun x s=>((x.1.1,x.1.2.1,s,x.1.2.2.2),x.2))
  (fun x s=>by simp only[B,mC,mB,mS,mO,mN];kernel_rfl)
end Xbi
namespace Xbj
def pts:List PT:=[.cs (.sl Xb),.cs (.sl Xb)]
def FS:FS:=Yc6 [.sh,.sh] pts (fun x=>Xbj x.1 x.2.1) fun t=>⟨[.cs .bool t],[]⟩
theorem ok:Ycv PR 24 FS:=
 Yvf Xe Xd Proofs.Tryz.f24 h0 (.R (.R (.L (.R (.one (.fr 0)))))) (G:=G) Gok (L:=mkL [(0,Xbi.fr)]) (l:=[(0,.loop Xbi.c)]) ⟨Lam.cons Xbi.ok,trivial⟩
  (fun x=>by simp only[Xbj,mC,mB,mS,mO,mN];kernel_rfl)
end Xbj
def Xbk.B (a:List Int) (b:List Int) (i_:Int):Option (Int⊕((Bool⊕Unit))):=
 cond (decide (i_<(a.length:Int))) (cond (inB i_ a.length) (cond (inB i_ b.length) (cond ((a.getD i_.toNat 0) != (b.getD i_.toNat 0)) (some (.inr (.inl false))) (some (.inl (w64 (i_+1))))) none) none) (some (.inr (.inr ())))
def Xbk (a:List Int) (b:List Int):Int→Option ((Bool⊕Unit)):=
 Yap fun s=>Xbk.B a b s
def Xdh (a:List Int) (b:List Int):Option Bool:=
 cond ((a.length:Int) != (b.length:Int)) (some false) ((Xbk a b 0).bind fun o=>sel o (fun b2=>some b2) (fun c=>some true))
namespace Xbk
def c:=Yal (Yah Proofs.Tryz.f46) [1,1,0,1,0,0]
def sp:SP:=⟨[(0,.cs SB),(1,.cs SB),(5,.cs I64)],[]⟩
def fr:=Yig sp (fun x s=>Xbk.B x.1.1 x.1.2.1 s) (fun x=>x.1.2.2.1) fun x (oo0:(Bool⊕Unit)) _ kk0=>sel oo0 (fun bb0=>kk0 (.rt) ⟨[(4,.cs .bool bb0)],[]⟩) (fun cc0=>kk0 (.ex 0) ⟨[],[]⟩)
theorem ok:Ya6 PR 26 2 (.loop c) fr:=
 Yr7 Xe Xd h0 .no (G:=(mkG [])) .nil (L:=mkL []) (l:=[]) hT [(0,([],[]))] ([4],[]) (fun x s=>((x.1.1,x.1.2.1,s,x.1.2.2.2),x.2))
  (fun x s=>by simp only[B,mC,mB,mS,mO,mN];kernel_rfl)
end Xbk
namespace Xdh
def pts:List PT:=[.cs SB,.cs SB]
def FS:FS:=Yc6 [.sh,.sh] pts (fun x=>Xdh x.1 x.2.1) fun t=>⟨[.cs .bool t],[]⟩
theorem ok:Ycv PR 46 FS:=
 Yvf Xe Xd Proofs.Tryz.f46 h0 (.R (.R (.L (.R (.one (.fr 0)))))) (G:=(mkG [])) .nil (L:=mkL [(0,Xbk.fr)]) (l:=[(0,.loop Xbk.c)]) ⟨Lam.cons Xbk.ok,trivial⟩
  (fun x=>by simp only[Xdh,mC,mB,mS,mO,mN];kernel_rfl)
end Xdh
def Xbl.B (a:List (List Int)) (b:List (List Int)) (i_:Int):Option (Int⊕((Bool⊕Unit))):=
 cond (decide (i_<(a.length:Int))) (cond (inB i_ a.length) (cond (inB i_ b.length) ((Xdh (a.getD i_.toNat []) (b.getD i_.toNat [])).bind fun r=>cond (!r) (some (.inr (.inl false))) (some (.inl (w64 (i_+1))))) none) none) (some (.inr (.inr ())))
def Xbl (a:List (List Int)) (b:List (List Int)):Int→Option ((Bool⊕Unit)):=
 Yap fun s=>Xbl.B a b s
def Xbm (a:List (List Int)) (b:List (List Int)):Option Bool:=
 cond ((a.length:Int) != (b.length:Int)) (some false) ((Xbl a b 0).bind fun o=>sel o (fun b2=>some b2) (fun c=>some true))
namespace Xbm
def G:Gam:=mkG [(46,Xdh.FS)]
theorem Gok:GOk PR G:=.cons Xdh.ok .nil
end Xbm
namespace Xbl
def c:=Yal (Yah Proofs.Tryz.f25) [1,1,0,1,0,0]
def sp:SP:=⟨[(0,.cs (.sl SB)),(1,.cs (.sl SB)),(5,.cs I64)],[]⟩
def fr:=Yig sp (fun x s=>Xbl.B x.1.1 x.1.2.1 s) (fun x=>x.1.2.2.1) fun x (oo0:(Bool⊕Unit)) _ kk0=>sel oo0 (fun bb0=>kk0 (.rt) ⟨[(4,.cs .bool bb0)],[]⟩) (fun cc0=>kk0 (.ex 0) ⟨[],[]⟩)
theorem ok:Ya6 PR 27 2 (.loop c) fr:=
 Yr7 Xe Xd h0 .no (G:=Xbm.G) Xbm.Gok (L:=mkL []) (l:=[]) hT [(0,([],[]))] ([4],[]) (fun x s=>((x.1.1,x.1.2.1,s,x.1.2.2.2),x.2))
  (fun x s=>by simp only[B,mC,mB,mS,mO,mN];kernel_rfl)
end Xbl
namespace Xbm
def pts:List PT:=[.cs (.sl SB),.cs (.sl SB)]
def FS:FS:=Yc6 [.sh,.sh] pts (fun x=>Xbm x.1 x.2.1) fun t=>⟨[.cs .bool t],[]⟩
theorem ok:Ycv PR 25 FS:=
 Yvf Xe Xd Proofs.Tryz.f25 h0 (.R (.R (.L (.R (.one (.fr 0)))))) (G:=G) Gok (L:=mkL [(0,Xbl.fr)]) (l:=[(0,.loop Xbl.c)]) ⟨Lam.cons Xbl.ok,trivial⟩
  (fun x=>by simp only[Xbm,mC,mB,mS,mO,mN];kernel_rfl)
end Xbm
def Xdi (a:Fs_) (b:Fs_):Option Bool:=
 (Xbj a.1 b.1).bind fun r=>cond (!r) (some false) ((Xbm a.2.1 b.2.1).bind fun r2=>cond (!r2) (some false) (some true))
namespace Xdi
def G:Gam:=mkG [(24,Xbj.FS),(25,Xbm.FS)]
def pts:List PT:=[.cs Xn,.cs Xn]
def FS:FS:=Yc6 [.sh,.sh] pts (fun x=>Xdi x.1 x.2.1) fun t=>⟨[.cs .bool t],[]⟩
theorem ok:Ycv PR 10 FS:=
 Yvf Xe Xd Proofs.Tryz.f10 ⟨[2,3],[],[],0⟩ .no (G:=G) (show GOk PR G from .cons Xbj.ok (.cons Xbm.ok .nil)) (L:=mkL []) (l:=[]) hT
  (fun x=>by simp only[Xdi,mC,mB,mS,mO,mN];kernel_rfl)
end Xdi
def Xev (aF:Fs_) (aAt:Int):Option Bool:=
 (Xgc aF 1048576).bind fun r=>cond (decide (r<0)) (some true) ((Xfm aF).bind fun r2=>(Xct (r2.1,r2.2.1,r2.2.2) aAt).bind fun r3=>(Xfm aF).bind fun r4=>(Xcm (r4.1,r4.2.1,r4.2.2) aAt).bind fun r5=>(Xdd r5 r3).bind fun r6=>cond (!r6) (some false) ((Xfm aF).bind fun r7=>(Xdi (r4.1,r4.2.1,r4.2.2) (r7.1,r7.2.1,r7.2.2)).bind fun r8=>cond (!r8) (some false) (some true)))
namespace Xev
def G:Gam:=mkG [(5,Xgc.FS),(7,Xfm.FS),(6,Xct.FS),(8,Xcm.FS),(9,Xdd.FS),(10,Xdi.FS)]
def pts:List PT:=[.cs Xn,.cs I64]
def FS:FS:=Yc6 [.sh,.sh] pts (fun x=>Xev x.1 x.2.1) fun t=>⟨[.cs .bool t],[]⟩
theorem ok:Ycv PR 3 FS:=
 Yvf Xe Xd Proofs.Tryz.f3 ⟨[2],[],[],0⟩ .no (G:=G) (show GOk PR G from .cons Xgc.ok (.cons Xfm.ok (.cons Xct.ok (.cons Xcm.ok (.cons Xdd.ok (.cons Xdi.ok .nil)))))) (L:=mkL []) (l:=[]) hT
  (fun x=>by simp only[Xev,mC,mB,mS,mO,mN];kernel_rfl)
end Xev
end Mf
