import Derived.Test.YtbfbhdehdgnkjaaGreatDoorMf4
import Derived.Test.YtbfbhdehdgnkjaaGreatDoorHeldByJ
import Derived.Test.YtbfbhdehdgnkjaaGreatDoorProg
import Derived.KernelRfl
import Derived.Shelf.SortM.Plain
import Derived.Shelf.SortM.SortNone
import Derived.Shelf.SlGeneric
import Derived.Ground.SlgmProg
set_option linter.unusedVariables false
set_option linter.unusedSimpArgs false
namespace Go.Proofs
open Go.Shelf
def Tryz.Xhk:Go.Shelf.Ren:=⟨fun | 5=>76 | 8=>91 | 7=>90 | 19=>111 | 20=>112 | 10=>102 | 11=>103 | 12=>104 | 13=>105 | 14=>106 | 15=>107 | 16=>108 | 17=>109 | 18=>110 | 30=>123 | 31=>124 | 32=>125 | 33=>126 | 34=>127 | 35=>128 | 40=>136 | n=>n,fun | 23=>56 | 25=>2 | 3=>3 | 32=>118 | 22=>56 | 0=>0 | 44=>135 | 46=>137 | 4=>4 | 36=>127 | 35=>126 | 41=>132 | 5=>5 | 9=>9 | 53=>151 | 57=>155 | 63=>163 | 64=>164 | n=>n,fun | n=>n⟩
theorem Tryz.Xhw:Go.Proofs.SlLaysM.n5 Tryz.prog Tryz.Xhk:={
 mixed:=by kernel_rfl
 f5:=⟨Tryz.f76.name,by decide,Tryz.func76.trans (congrArg some (by kernel_rfl))⟩
 f7:=⟨Tryz.f90.name,by decide,Tryz.func90.trans (congrArg some (by kernel_rfl))⟩
 f8:=Tryz.func91.trans (congrArg some (by kernel_rfl))
 f10:=⟨Tryz.f102.name,by decide,Tryz.func102.trans (congrArg some (by kernel_rfl))⟩
 f11:=⟨Tryz.f103.name,by decide,Tryz.func103.trans (congrArg some (by kernel_rfl))⟩
 f12:=⟨Tryz.f104.name,by decide,Tryz.func104.trans (congrArg some (by kernel_rfl))⟩
 f13:=⟨Tryz.f105.name,by decide,Tryz.func105.trans (congrArg some (by kernel_rfl))⟩
 f14:=⟨Tryz.f106.name,by decide,Tryz.func106.trans (congrArg some (by kernel_rfl))⟩
 f15:=⟨Tryz.f107.name,by decide,Tryz.func107.trans (congrArg some (by kernel_rfl))⟩
 f16:=⟨Tryz.f108.name,by decide,Tryz.func108.trans (congrArg some (by kernel_rfl))⟩
 f17:=⟨Tryz.f109.name,by decide,Tryz.func109.trans (congrArg some (by kernel_rfl))⟩
 f18:=⟨Tryz.f110.name,by decide,Tryz.func110.trans (congrArg some (by kernel_rfl))⟩
 f19:=Tryz.func111.trans (congrArg some (by kernel_rfl))
 f20:=Tryz.func112.trans (congrArg some (by kernel_rfl))
 f30:=⟨Tryz.f123.name,by decide,Tryz.func123.trans (congrArg some (by kernel_rfl))⟩
 f31:=Tryz.func124.trans (congrArg some (by kernel_rfl))
 f32:=Tryz.func125.trans (congrArg some (by kernel_rfl))
 f33:=⟨Tryz.f126.name,by decide,Tryz.func126.trans (congrArg some (by kernel_rfl))⟩
 f34:=⟨Tryz.f127.name,by decide,Tryz.func127.trans (congrArg some (by kernel_rfl))⟩
 f35:=⟨Tryz.f128.name,by decide,Tryz.func128.trans (congrArg some (by kernel_rfl))⟩
 f40:=⟨Tryz.f136.name,by decide,Tryz.func136.trans (congrArg some (by kernel_rfl))⟩
 t0:=Tryz.underlying0
 a0:=Tryz.isAgg0
 z0:=Tryz.sizeOf0
 v0:=Tryz.zeroValue0
 t3:=Tryz.underlying3
 a3:=Tryz.isAgg3
 z3:=Tryz.sizeOf3
 v3:=Tryz.zeroValue3
 t4:=Tryz.underlying4
 a4:=Tryz.isAgg4
 z4:=Tryz.sizeOf4
 v4:=Tryz.zeroValue4
 t5:=Tryz.underlying5
 a5:=Tryz.isAgg5
 z5:=Tryz.sizeOf5
 v5:=Tryz.zeroValue5
 t9:=Tryz.underlying9
 a9:=Tryz.isAgg9
 z9:=Tryz.sizeOf9
 v9:=Tryz.zeroValue9
 t22:=Tryz.underlying56
 a22:=Tryz.isAgg56
 z22:=Tryz.sizeOf56
 v22:=Tryz.zeroValue56
 t23:=Tryz.underlying56
 a23:=Tryz.isAgg56
 z23:=Tryz.sizeOf56
 v23:=Tryz.zeroValue56
 t25:=Tryz.underlying2
 a25:=Tryz.isAgg2
 z25:=Tryz.sizeOf2
 v25:=Tryz.zeroValue2
 t32:=Tryz.underlying118
 a32:=Tryz.isAgg118
 z32:=Tryz.sizeOf118
 v32:=Tryz.zeroValue118
 t35:=Tryz.underlying126
 a35:=Tryz.isAgg126
 z35:=Tryz.sizeOf126
 v35:=Tryz.zeroValue126
 t36:=Tryz.underlying127
 a36:=Tryz.isAgg127
 z36:=Tryz.sizeOf127
 v36:=Tryz.zeroValue127
 t41:=Tryz.underlying132
 a41:=Tryz.isAgg132
 z41:=Tryz.sizeOf132
 v41:=Tryz.zeroValue132
 t44:=Tryz.underlying135
 a44:=Tryz.isAgg135
 z44:=Tryz.sizeOf135
 v44:=Tryz.zeroValue135
 t46:=Tryz.underlying137
 a46:=Tryz.isAgg137
 z46:=Tryz.sizeOf137
 v46:=Tryz.zeroValue137
 t53:=Tryz.underlying151
 a53:=Tryz.isAgg151
 z53:=Tryz.sizeOf151
 v53:=Tryz.zeroValue151
 t57:=Tryz.underlying155
 a57:=Tryz.isAgg155
 z57:=Tryz.sizeOf155
 v57:=Tryz.zeroValue155
 t63:=Tryz.underlying163
 a63:=Tryz.isAgg163
 z63:=Tryz.sizeOf163
 v63:=Tryz.zeroValue163
 t64:=Tryz.underlying164
 a64:=Tryz.isAgg164
 z64:=Tryz.sizeOf164
 v64:=Tryz.zeroValue164 }
end Go.Proofs
noncomputable section
namespace Mf
open Go
set_option maxRecDepth 100000
abbrev Xm:Ty:=(.pair .str (.pair (.int .i64) .unit))
abbrev Xf:Type:=(List UInt8)×Int×Unit
def Xo:Xf:=([],0,())
abbrev Xb:Ty:=(.pair (.int .i64) (.pair (.int .i64) (.pair (.int .i64) (.pair (.sl (.int .i64)) (.pair (.sl Xm) .unit)))))
abbrev Xa:Type:=Int×Int×Int×(List Int)×(List Xf)×Unit
def Xc:Xa:=(0,0,0,[],[],())
abbrev Xp:Ty:=(.pair (.sl Xb) (.pair (.sl (.sl (.int .u8))) .unit))
abbrev Fs_:Type:=(List Xa)×(List (List Int))×Unit
def Xk1:Fs_:=([],[],())
abbrev Xn:Ty:=(.pair (.int .i64) (.pair .str .unit))
abbrev Xj:Type:=Int×(List UInt8)×Unit
def Xii:Xj:=(0,[],())
abbrev Xa0:Ty:=(.pair (.int .u8) (.pair (.int .u8) .unit))
abbrev Xgg:Type:=Int×Int×Unit
def Xie:Xgg:=(0,0,())
abbrev Xcr:Ty:=(.pair (.int .i64) (.pair (.int .i64) (.pair .bool (.pair (.int .u8) .unit))))
abbrev Xgh:Type:=Int×Int×Bool×Int×Unit
def Xif:Xgh:=(0,0,false,0,())
abbrev Xak:Ty:=(.pair .str (.pair (.int .u64) .unit))
abbrev Xcm:Type:=(List UInt8)×Int×Unit
def Xhm:Xcm:=([],0,())
noncomputable abbrev PR:Program:=Go.Proofs.Tryz.prog
def tb:Tb:=[(2,⟨.int .i64,(.int .i64),8⟩),(3,⟨.int .i64,(.int .i64),8⟩),(4,⟨.bool,.bool,1⟩),(5,⟨.int .u8,(.int .u8),1⟩),(6,⟨.int .u8,(.int .u8),1⟩),(7,⟨.st [0,1,2,3],Xcr,24⟩),(8,⟨.st [0,1,2,3],Xcr,24⟩),(9,⟨.str,.str,16⟩),(10,⟨.str,.str,16⟩),(11,⟨.str,.str,16⟩),(12,⟨.int .u64,(.int .u64),8⟩),(13,⟨.st [0,1],Xak,24⟩),(14,⟨.st [0,1],Xak,24⟩),(21,⟨.int .i32,(.int .i32),4⟩),(22,⟨.sl 63,(.sl Xb),24⟩),(23,⟨.sl 65,(.sl (.sl (.int .u8))),24⟩),(24,⟨.st [0,1],Xp,48⟩),(25,⟨.st [0,1],Xp,48⟩),(27,⟨.st [0,1],Xn,24⟩),(28,⟨.st [0,1],Xn,24⟩),(30,⟨.sl 59,(.sl Xb),24⟩),(31,⟨.st [0,1],Xp,48⟩),(32,⟨.st [0,1],Xp,48⟩),(42,⟨.sl 9,(.sl .str),24⟩),(56,⟨.sl 2,(.sl (.int .i64)),24⟩),(57,⟨.sl 70,(.sl Xm),24⟩),(58,⟨.st [0,1,2,3,4],Xb,72⟩),(59,⟨.st [0,1,2,3,4],Xb,72⟩),(61,⟨.sl 102,(.sl Xm),24⟩),(62,⟨.st [0,1,2,3,4],Xb,72⟩),(63,⟨.st [0,1,2,3,4],Xb,72⟩),(65,⟨.sl 5,(.sl (.int .u8)),24⟩),(69,⟨.st [0,1],Xm,24⟩),(70,⟨.st [0,1],Xm,24⟩),(92,⟨.arr 20 2,(.arr 20 (.int .i64)),160⟩),(102,⟨.st [0,1],Xm,24⟩),(104,⟨.sl 4,(.sl .bool),24⟩),(118,⟨.int .u64,(.int .u64),8⟩),(119,⟨.sl 42,(.sl (.sl .str)),24⟩),(126,⟨.int .i64,(.int .i64),8⟩),(135,⟨.int .u32,(.int .u32),4⟩),(137,⟨.int .u64,(.int .u64),8⟩),(151,⟨.int .u64,(.int .u64),8⟩),(170,⟨.arr 256 5,(.arr 256 (.int .u8)),256⟩),(171,⟨.st [0,1],Xa0,2⟩),(172,⟨.st [0,1],Xa0,2⟩),(173,⟨.arr 16 172,(.arr 16 Xa0),32⟩),(182,⟨.int .u8,(.int .u8),1⟩),(183,⟨.int .u8,(.int .u8),1⟩),(185,⟨.int .i32,(.int .i32),4⟩),(186,⟨.int .i32,(.int .i32),4⟩)]
theorem Xe:Yag Go.Proofs.Tryz.prog tb:=Yve (by kernel_rfl)
theorem Xd:Go.Proofs.Tryz.prog.follows .mixedOrders=true:=by kernel_rfl
def Zq0 (a:List Int) (left:Int):Option Int:=
 cond (decide ((w64 (left-(a.length:Int)))<0)) (some (-1)) (some (w64 (left-(a.length:Int))))
namespace Zq0
def pts:List PT:=[.cs SI,.cs I64]
def FS:FS:=Yc6 [.sh,.sh] pts (fun x=>Zq0 x.1 x.2.1) fun t=>⟨[.cs I64 t],[]⟩
theorem ok:Ycv PR 48 FS:=
 Yvf Xe Xd Proofs.Tryz.f48 h0 .no (G:=(mkG [])) .nil (L:=mkL []) (l:=[]) hT
  (fun x=>by simp only[Zq0,mC,mB,mS,mO,mN];kernel_rfl)
end Zq0
def Zq1 (a:Xf) (left:Int):Option Int:=
 cond (decide ((w64 (left-(a.1.length:Int)))<0)) (some (-1)) (some (w64 (left-(a.1.length:Int))))
namespace Zq1
def pts:List PT:=[.cs Xm,.cs I64]
def FS:FS:=Yc6 [.sh,.sh] pts (fun x=>Zq1 x.1 x.2.1) fun t=>⟨[.cs I64 t],[]⟩
theorem ok:Ycv PR 70 FS:=
 Yvf Xe Xd Proofs.Tryz.f70 ⟨[2],[],[],0⟩ .no (G:=(mkG [])) .nil (L:=mkL []) (l:=[]) hT
  (fun x=>by simp only[Zq1,mC,mB,mS,mO,mN];kernel_rfl)
end Zq1
def Zq2.B (a:List Xf) (left_:Int) (i_:Int):Option ((Int×Int)⊕((Int⊕Int))):=
 cond (decide (i_<(a.length:Int))) (cond (inB i_ a.length) ((Zq1 (a.getD i_.toNat Xo) left_).bind fun r=>cond (decide (r<0)) (some (.inr (.inl (-1)))) (some (.inl (r,w64 (i_+1))))) none) (some (.inr (.inr left_)))
def Zq2 (a:List Xf):(Int×Int)→Option ((Int⊕Int)):=
 Yap fun s=>Zq2.B a s.1 s.2
def Zq3 (a:List Xf) (left:Int):Option Int:=
 cond (decide ((w64 (left-(a.length:Int)))<0)) (some (-1)) ((Zq2 a (w64 (left-(a.length:Int)),0)).bind fun o=>sel o (fun b=>some b) (fun c=>some c))
namespace Zq3
def G:Gam:=mkG [(70,Zq1.FS)]
theorem Gok:GOk PR G:=.cons Zq1.ok .nil
end Zq3
namespace Zq2
noncomputable def c:=Yal (Yah Proofs.Tryz.f49) [1,1,1,0,1,0,0]
def sp:SP:=⟨[(0,.cs (.sl Xm)),(1,.cs I64),(5,.cs I64)],[]⟩
def fr:=Yig sp (fun x s=>Zq2.B x.1.1 s.1 s.2) (fun x=>(x.1.2.1,x.1.2.2.1)) fun x (oo0:(Int⊕Int)) _ kk0=>sel oo0 (fun bb0=>kk0 (.rt) ⟨[(4,.cs I64 bb0)],[]⟩) (fun cc0=>kk0 (.ex 0) ⟨[(1,.cs I64 cc0)],[]⟩)
theorem ok:Ya6 PR 27 2 (.loop c) fr:=
 Yr7 Xe Xd h0 .no (G:=Zq3.G) Zq3.Gok (L:=mkL []) (l:=[]) hT [(0,([1],[]))] ([4],[]) (fun x s=>((x.1.1,s.1,s.2,x.1.2.2.2),x.2))
  (fun x s=>by simp only[B,mC,mB,mS,mO,mN];kernel_rfl)
end Zq2
namespace Zq3
def pts:List PT:=[.cs (.sl Xm),.cs I64]
def FS:FS:=Yc6 [.sh,.sh] pts (fun x=>Zq3 x.1 x.2.1) fun t=>⟨[.cs I64 t],[]⟩
theorem ok:Ycv PR 49 FS:=
 Yvf Xe Xd Proofs.Tryz.f49 h0 (.R (.R (.R (.L (.R (.one (.fr 0))))))) (G:=G) Gok (L:=mkL [(0,Zq2.fr)]) (l:=[(0,.loop Zq2.c)]) ⟨Lam.cons Zq2.ok,trivial⟩
  (fun x=>by simp only[Zq3,mC,mB,mS,mO,mN];kernel_rfl)
end Zq3
def Zq4 (a:Xa) (left:Int):Option Int:=
 (Zq0 a.2.2.2.1 left).bind fun r=>cond (decide (r<0)) (some (-1)) ((Zq3 a.2.2.2.2.1 r).bind fun r2=>cond (decide (r2<0)) (some (-1)) (some r2))
namespace Zq4
def G:Gam:=mkG [(48,Zq0.FS),(49,Zq3.FS)]
def pts:List PT:=[.cs Xb,.cs I64]
def FS:FS:=Yc6 [.sh,.sh] pts (fun x=>Zq4 x.1 x.2.1) fun t=>⟨[.cs I64 t],[]⟩
theorem ok:Ycv PR 30 FS:=
 Yvf Xe Xd Proofs.Tryz.f30 ⟨[2],[],[],0⟩ .no (G:=G) (show GOk PR G from .cons Zq0.ok (.cons Zq3.ok .nil)) (L:=mkL []) (l:=[]) hT
  (fun x=>by simp only[Zq4,mC,mB,mS,mO,mN];kernel_rfl)
end Zq4
def Zq5.B (a:List Xa) (left_:Int) (i_:Int):Option ((Int×Int)⊕((Int⊕Int))):=
 cond (decide (i_<(a.length:Int))) (cond (inB i_ a.length) ((Zq4 (a.getD i_.toNat Xc) left_).bind fun r=>cond (decide (r<0)) (some (.inr (.inl (-1)))) (some (.inl (r,w64 (i_+1))))) none) (some (.inr (.inr left_)))
def Zq5 (a:List Xa):(Int×Int)→Option ((Int⊕Int)):=
 Yap fun s=>Zq5.B a s.1 s.2
def Zq6 (a:List Xa) (left:Int):Option Int:=
 cond (decide ((w64 (left-(a.length:Int)))<0)) (some (-1)) ((Zq5 a (w64 (left-(a.length:Int)),0)).bind fun o=>sel o (fun b=>some b) (fun c=>some c))
namespace Zq6
def G:Gam:=mkG [(30,Zq4.FS)]
theorem Gok:GOk PR G:=.cons Zq4.ok .nil
end Zq6
namespace Zq5
noncomputable def c:=Yal (Yah Proofs.Tryz.f13) [1,1,1,0,1,0,0]
def sp:SP:=⟨[(0,.cs (.sl Xb)),(1,.cs I64),(5,.cs I64)],[]⟩
def fr:=Yig sp (fun x s=>Zq5.B x.1.1 s.1 s.2) (fun x=>(x.1.2.1,x.1.2.2.1)) fun x (oo0:(Int⊕Int)) _ kk0=>sel oo0 (fun bb0=>kk0 (.rt) ⟨[(4,.cs I64 bb0)],[]⟩) (fun cc0=>kk0 (.ex 0) ⟨[(1,.cs I64 cc0)],[]⟩)
theorem ok:Ya6 PR 27 2 (.loop c) fr:=
 Yr7 Xe Xd h0 .no (G:=Zq6.G) Zq6.Gok (L:=mkL []) (l:=[]) hT [(0,([1],[]))] ([4],[]) (fun x s=>((x.1.1,s.1,s.2,x.1.2.2.2),x.2))
  (fun x s=>by simp only[B,mC,mB,mS,mO,mN];kernel_rfl)
end Zq5
namespace Zq6
def pts:List PT:=[.cs (.sl Xb),.cs I64]
def FS:FS:=Yc6 [.sh,.sh] pts (fun x=>Zq6 x.1 x.2.1) fun t=>⟨[.cs I64 t],[]⟩
theorem ok:Ycv PR 13 FS:=
 Yvf Xe Xd Proofs.Tryz.f13 h0 (.R (.R (.R (.L (.R (.one (.fr 0))))))) (G:=G) Gok (L:=mkL [(0,Zq5.fr)]) (l:=[(0,.loop Zq5.c)]) ⟨Lam.cons Zq5.ok,trivial⟩
  (fun x=>by simp only[Zq6,mC,mB,mS,mO,mN];kernel_rfl)
end Zq6
def Zq7 (a:List Int) (left:Int):Option Int:=
 cond (decide ((w64 (left-(a.length:Int)))<0)) (some (-1)) (some (w64 (left-(a.length:Int))))
namespace Zq7
def pts:List PT:=[.cs SB,.cs I64]
def FS:FS:=Yc6 [.sh,.sh] pts (fun x=>Zq7 x.1 x.2.1) fun t=>⟨[.cs I64 t],[]⟩
theorem ok:Ycv PR 31 FS:=
 Yvf Xe Xd Proofs.Tryz.f31 h0 .no (G:=(mkG [])) .nil (L:=mkL []) (l:=[]) hT
  (fun x=>by simp only[Zq7,mC,mB,mS,mO,mN];kernel_rfl)
end Zq7
def Zq8.B (a:List (List Int)) (left_:Int) (i_:Int):Option ((Int×Int)⊕((Int⊕Int))):=
 cond (decide (i_<(a.length:Int))) (cond (inB i_ a.length) ((Zq7 (a.getD i_.toNat []) left_).bind fun r=>cond (decide (r<0)) (some (.inr (.inl (-1)))) (some (.inl (r,w64 (i_+1))))) none) (some (.inr (.inr left_)))
def Zq8 (a:List (List Int)):(Int×Int)→Option ((Int⊕Int)):=
 Yap fun s=>Zq8.B a s.1 s.2
def Zq9 (a:List (List Int)) (left:Int):Option Int:=
 cond (decide ((w64 (left-(a.length:Int)))<0)) (some (-1)) ((Zq8 a (w64 (left-(a.length:Int)),0)).bind fun o=>sel o (fun b=>some b) (fun c=>some c))
namespace Zq9
def G:Gam:=mkG [(31,Zq7.FS)]
theorem Gok:GOk PR G:=.cons Zq7.ok .nil
end Zq9
namespace Zq8
noncomputable def c:=Yal (Yah Proofs.Tryz.f14) [1,1,1,0,1,0,0]
def sp:SP:=⟨[(0,.cs (.sl SB)),(1,.cs I64),(5,.cs I64)],[]⟩
def fr:=Yig sp (fun x s=>Zq8.B x.1.1 s.1 s.2) (fun x=>(x.1.2.1,x.1.2.2.1)) fun x (oo0:(Int⊕Int)) _ kk0=>sel oo0 (fun bb0=>kk0 (.rt) ⟨[(4,.cs I64 bb0)],[]⟩) (fun cc0=>kk0 (.ex 0) ⟨[(1,.cs I64 cc0)],[]⟩)
theorem ok:Ya6 PR 27 2 (.loop c) fr:=
 Yr7 Xe Xd h0 .no (G:=Zq9.G) Zq9.Gok (L:=mkL []) (l:=[]) hT [(0,([1],[]))] ([4],[]) (fun x s=>((x.1.1,s.1,s.2,x.1.2.2.2),x.2))
  (fun x s=>by simp only[B,mC,mB,mS,mO,mN];kernel_rfl)
end Zq8
namespace Zq9
def pts:List PT:=[.cs (.sl SB),.cs I64]
def FS:FS:=Yc6 [.sh,.sh] pts (fun x=>Zq9 x.1 x.2.1) fun t=>⟨[.cs I64 t],[]⟩
theorem ok:Ycv PR 14 FS:=
 Yvf Xe Xd Proofs.Tryz.f14 h0 (.R (.R (.R (.L (.R (.one (.fr 0))))))) (G:=G) Gok (L:=mkL [(0,Zq8.fr)]) (l:=[(0,.loop Zq8.c)]) ⟨Lam.cons Zq8.ok,trivial⟩
  (fun x=>by simp only[Zq9,mC,mB,mS,mO,mN];kernel_rfl)
end Zq9
def Xgi (a:Fs_) (left:Int):Option Int:=
 (Zq6 a.1 left).bind fun r=>cond (decide (r<0)) (some (-1)) ((Zq9 a.2.1 r).bind fun r2=>cond (decide (r2<0)) (some (-1)) (some r2))
namespace Xgi
def G:Gam:=mkG [(13,Zq6.FS),(14,Zq9.FS)]
def pts:List PT:=[.cs Xp,.cs I64]
def FS:FS:=Yc6 [.sh,.sh] pts (fun x=>Xgi x.1 x.2.1) fun t=>⟨[.cs I64 t],[]⟩
theorem ok:Ycv PR 5 FS:=
 Yvf Xe Xd Proofs.Tryz.f5 ⟨[2],[],[],0⟩ .no (G:=G) (show GOk PR G from .cons Zq6.ok (.cons Zq9.ok .nil)) (L:=mkL []) (l:=[]) hT
  (fun x=>by simp only[Xgi,mC,mB,mS,mO,mN];kernel_rfl)
end Xgi
def Xdz.B (a:List Int) (i_:Int) (out_:List Int):Option ((Int×List Int)⊕(List Int)):=
 cond (decide (i_<(a.length:Int))) (cond (inB i_ a.length) (cond (inB i_ out_.length) (some (.inl (w64 (i_+1),out_.set i_.toNat (a.getD i_.toNat 0)))) none) none) (some (.inr out_))
def Xdz (a:List Int):(Int×List Int)→Option (List Int):=
 Yap fun s=>Xdz.B a s.1 s.2
def Xgj (a:List Int):Option (List Int):=
 cond (decide ((0:Int)≤(a.length:Int))&&(decide ((a.length:Int)≤(a.length:Int))&&decide ((a.length:Int)≤2147483648))) ((Xdz a (0,List.replicate (a.length:Int).toNat 0)).bind fun o=>some o) none
namespace Xdz
noncomputable def c:=Yal (Yah Proofs.Tryz.f55) [1,1,0,1,0,0]
def sp:SP:=⟨[(0,.cs SI),(3,.seg 3 []),(4,.cs I64)],[(3,.reg,.cd SI)]⟩
def fr:=Yig sp (fun x s=>Xdz.B x.1.1 s.1 s.2) (fun x=>(x.1.2.2.1,x.2.1)) fun x (bb0:List Int) _ kk0=>kk0 (.ex 0) ⟨[(3,.seg 3 [])],[sr 3 (.cd SI bb0)]⟩
theorem ok:Ya6 PR 22 1 (.loop c) fr:=
 Yu9 Xe Xd h0 [(0,([3],[3]))] (fun x s=>((x.1.1,x.1.2.1,s.1,x.1.2.2.2),(s.2,x.2.2)))
  (fun x s=>by simp only[B,mC,mB,mS,mO,mN];kernel_rfl)
end Xdz
namespace Xgj
def pts:List PT:=[.cs SI]
def FS:FS:=Yc6 [.sh] pts (fun x=>Xgj x.1) fun t=>⟨[.cd SI t],[]⟩
theorem ok:Ycv PR 55 FS:=
 Yvf Xe Xd Proofs.Tryz.f55 h0 (.R (.R (.L (.R (.one (.fr 0)))))) (G:=(mkG [])) .nil (L:=mkL [(0,Xdz.fr)]) (l:=[(0,.loop Xdz.c)]) ⟨Lam.cons Xdz.ok,trivial⟩
  (fun x=>by simp only[Xgj,mC,mB,mS,mO,mN];kernel_rfl)
end Xgj
def Xgk (a:Xf):Option Xf:=
 some (a.1,a.2.1,())
namespace Xgk
def pts:List PT:=[.cs Xm]
def FS:FS:=Yc6 [.sh] pts (fun x=>Xgk x.1) fun t=>⟨[.cs Xm t],[]⟩
theorem ok:Ycv PR 73 FS:=
 Yvf Xe Xd Proofs.Tryz.f73 ⟨[1],[],[],0⟩ .no (G:=(mkG [])) .nil (L:=mkL []) (l:=[]) hT
  (fun x=>by simp only[Xgk,mC,mB,mS,mO,mN];kernel_rfl)
end Xgk
def Xd0.B (a:List Xf) (i_:Int) (out_:List Xf):Option ((Int×List Xf)⊕(List Xf)):=
 cond (decide (i_<(a.length:Int))) (cond (inB i_ a.length) ((Xgk (a.getD i_.toNat Xo)).bind fun r=>cond (inB i_ out_.length) (some (.inl (w64 (i_+1),out_.set i_.toNat r))) none) none) (some (.inr out_))
def Xd0 (a:List Xf):(Int×List Xf)→Option (List Xf):=
 Yap fun s=>Xd0.B a s.1 s.2
def Xd1 (a:List Xf):Option (List Xf):=
 cond (decide ((0:Int)≤(a.length:Int))&&(decide ((a.length:Int)≤(a.length:Int))&&decide ((a.length:Int)≤2147483648))) ((Xd0 a (0,List.replicate (a.length:Int).toNat Xo)).bind fun o=>some o) none
namespace Xd1
def G:Gam:=mkG [(73,Xgk.FS)]
theorem Gok:GOk PR G:=.cons Xgk.ok .nil
end Xd1
namespace Xd0
noncomputable def c:=Yal (Yah Proofs.Tryz.f56) [1,1,0,1,0,0]
def sp:SP:=⟨[(0,.cs (.sl Xm)),(3,.seg 3 []),(4,.cs I64)],[(3,.reg,.cd (.sl Xm))]⟩
def fr:=Yig sp (fun x s=>Xd0.B x.1.1 s.1 s.2) (fun x=>(x.1.2.2.1,x.2.1)) fun x (bb0:List Xf) _ kk0=>kk0 (.ex 0) ⟨[(3,.seg 3 [])],[sr 3 (.cd (.sl Xm) bb0)]⟩
theorem ok:Ya6 PR 23 1 (.loop c) fr:=
 Yvh Xe Xd h0 (G:=Xd1.G) Xd1.Gok [(0,([3],[3]))] (fun x s=>((x.1.1,x.1.2.1,s.1,x.1.2.2.2),(s.2,x.2.2)))
  (fun x s=>by simp only[B,mC,mB,mS,mO,mN];kernel_rfl)
end Xd0
namespace Xd1
def pts:List PT:=[.cs (.sl Xm)]
def FS:FS:=Yc6 [.sh] pts (fun x=>Xd1 x.1) fun t=>⟨[.cd (.sl Xm) t],[]⟩
theorem ok:Ycv PR 56 FS:=
 Yvf Xe Xd Proofs.Tryz.f56 h0 (.R (.R (.L (.R (.one (.fr 0)))))) (G:=G) Gok (L:=mkL [(0,Xd0.fr)]) (l:=[(0,.loop Xd0.c)]) ⟨Lam.cons Xd0.ok,trivial⟩
  (fun x=>by simp only[Xd1,mC,mB,mS,mO,mN];kernel_rfl)
end Xd1
def Xgl (a:Xa):Option Xa:=
 (Xgj a.2.2.2.1).bind fun r=>(Xd1 a.2.2.2.2.1).bind fun r2=>some (a.1,a.2.1,a.2.2.1,r,r2,())
namespace Xgl
def G:Gam:=mkG [(55,Xgj.FS),(56,Xd1.FS)]
def pts:List PT:=[.cs Xb]
def FS:FS:=Yc6 [.sh] pts (fun x=>Xgl x.1) fun t=>⟨[.cd Xb t],[]⟩
theorem ok:Ycv PR 37 FS:=
 Yvf Xe Xd Proofs.Tryz.f37 ⟨[1],[],[],0⟩ .no (G:=G) (show GOk PR G from .cons Xgj.ok (.cons Xd1.ok .nil)) (L:=mkL []) (l:=[]) hT
  (fun x=>by simp only[Xgl,mC,mB,mS,mO,mN];kernel_rfl)
end Xgl
def Xd2.B (a:List Xa) (i_:Int) (out_:List Xa):Option ((Int×List Xa)⊕(List Xa)):=
 cond (decide (i_<(a.length:Int))) (cond (inB i_ a.length) ((Xgl (a.getD i_.toNat Xc)).bind fun r=>cond (inB i_ out_.length) ((some (out_.set i_.toNat (r.1,r.2.1,r.2.2.1,r.2.2.2.1,r.2.2.2.2.1,r.2.2.2.2.2))).bind fun out_2=>some (.inl (w64 (i_+1),out_2))) none) none) (some (.inr out_))
def Xd2 (a:List Xa):(Int×List Xa)→Option (List Xa):=
 Yap fun s=>Xd2.B a s.1 s.2
def Xd3 (a:List Xa):Option (List Xa):=
 cond (decide ((0:Int)≤(a.length:Int))&&(decide ((a.length:Int)≤(a.length:Int))&&decide ((a.length:Int)≤2147483648))) ((Xd2 a (0,List.replicate (a.length:Int).toNat Xc)).bind fun o=>some o) none
namespace Xd3
def G:Gam:=mkG [(37,Xgl.FS)]
theorem Gok:GOk PR G:=.cons Xgl.ok .nil
end Xd3
namespace Xd2
noncomputable def c:=Yal (Yah Proofs.Tryz.f20) [1,1,0,1,0,0]
def sp:SP:=⟨[(0,.cs (.sl Xb)),(3,.seg 3 []),(4,.cs I64)],[(3,.reg,.cd (.sl Xb))]⟩
def fr:=Yig sp (fun x s=>Xd2.B x.1.1 s.1 s.2) (fun x=>(x.1.2.2.1,x.2.1)) fun x (bb0:List Xa) _ kk0=>kk0 (.ex 0) ⟨[(3,.seg 3 [])],[sr 3 (.cd (.sl Xb) bb0)]⟩
theorem ok:Ya6 PR 23 1 (.loop c) fr:=
 Yvh Xe Xd h0 (G:=Xd3.G) Xd3.Gok [(0,([3],[3]))] (fun x s=>((x.1.1,x.1.2.1,s.1,x.1.2.2.2),(s.2,x.2.2)))
  (fun x s=>by simp only[B,mC,mB,mS,mO,mN];kernel_rfl)
end Xd2
namespace Xd3
def pts:List PT:=[.cs (.sl Xb)]
def FS:FS:=Yc6 [.sh] pts (fun x=>Xd3 x.1) fun t=>⟨[.cd (.sl Xb) t],[]⟩
theorem ok:Ycv PR 20 FS:=
 Yvf Xe Xd Proofs.Tryz.f20 h0 (.R (.R (.L (.R (.one (.fr 0)))))) (G:=G) Gok (L:=mkL [(0,Xd2.fr)]) (l:=[(0,.loop Xd2.c)]) ⟨Lam.cons Xd2.ok,trivial⟩
  (fun x=>by simp only[Xd3,mC,mB,mS,mO,mN];kernel_rfl)
end Xd3
def Xd4.B (a:List Int) (i_:Int) (out_:List Int):Option ((Int×List Int)⊕(List Int)):=
 cond (decide (i_<(a.length:Int))) (cond (inB i_ a.length) (cond (inB i_ out_.length) (some (.inl (w64 (i_+1),out_.set i_.toNat (a.getD i_.toNat 0)))) none) none) (some (.inr out_))
def Xd4 (a:List Int):(Int×List Int)→Option (List Int):=
 Yap fun s=>Xd4.B a s.1 s.2
def Xgm (a:List Int):Option (List Int):=
 cond (decide ((0:Int)≤(a.length:Int))&&(decide ((a.length:Int)≤(a.length:Int))&&decide ((a.length:Int)≤2147483648))) ((Xd4 a (0,List.replicate (a.length:Int).toNat 0)).bind fun o=>some o) none
namespace Xd4
noncomputable def c:=Yal (Yah Proofs.Tryz.f38) [1,1,0,1,0,0]
def sp:SP:=⟨[(0,.cs SB),(3,.seg 3 []),(4,.cs I64)],[(3,.reg,.cd SB)]⟩
def fr:=Yig sp (fun x s=>Xd4.B x.1.1 s.1 s.2) (fun x=>(x.1.2.2.1,x.2.1)) fun x (bb0:List Int) _ kk0=>kk0 (.ex 0) ⟨[(3,.seg 3 [])],[sr 3 (.cd SB bb0)]⟩
theorem ok:Ya6 PR 22 1 (.loop c) fr:=
 Yu9 Xe Xd h0 [(0,([3],[3]))] (fun x s=>((x.1.1,x.1.2.1,s.1,x.1.2.2.2),(s.2,x.2.2)))
  (fun x s=>by simp only[B,mC,mB,mS,mO,mN];kernel_rfl)
end Xd4
namespace Xgm
def pts:List PT:=[.cs SB]
def FS:FS:=Yc6 [.sh] pts (fun x=>Xgm x.1) fun t=>⟨[.cd SB t],[]⟩
theorem ok:Ycv PR 38 FS:=
 Yvf Xe Xd Proofs.Tryz.f38 h0 (.R (.R (.L (.R (.one (.fr 0)))))) (G:=(mkG [])) .nil (L:=mkL [(0,Xd4.fr)]) (l:=[(0,.loop Xd4.c)]) ⟨Lam.cons Xd4.ok,trivial⟩
  (fun x=>by simp only[Xgm,mC,mB,mS,mO,mN];kernel_rfl)
end Xgm
def Xd5.B (a:List (List Int)) (i_:Int) (out_:List (List Int)):Option ((Int×List (List Int))⊕(List (List Int))):=
 cond (decide (i_<(a.length:Int))) (cond (inB i_ a.length) ((Xgm (a.getD i_.toNat [])).bind fun r=>cond (inB i_ out_.length) (some (.inl (w64 (i_+1),out_.set i_.toNat r))) none) none) (some (.inr out_))
def Xd5 (a:List (List Int)):(Int×List (List Int))→Option (List (List Int)):=
 Yap fun s=>Xd5.B a s.1 s.2
def Xd6 (a:List (List Int)):Option (List (List Int)):=
 cond (decide ((0:Int)≤(a.length:Int))&&(decide ((a.length:Int)≤(a.length:Int))&&decide ((a.length:Int)≤2147483648))) ((some (List.replicate (a.length:Int).toNat ([]:List Int))).bind fun v=>(Xd5 a (0,v)).bind fun o=>some o) none
namespace Xd6
def G:Gam:=mkG [(38,Xgm.FS)]
theorem Gok:GOk PR G:=.cons Xgm.ok .nil
end Xd6
namespace Xd5
noncomputable def c:=Yal (Yah Proofs.Tryz.f21) [1,1,0,1,0,0]
def sp:SP:=⟨[(0,.cs (.sl SB)),(3,.seg 3 []),(4,.cs I64)],[(3,.reg,.cd (.sl SB))]⟩
def fr:=Yig sp (fun x s=>Xd5.B x.1.1 s.1 s.2) (fun x=>(x.1.2.2.1,x.2.1)) fun x (bb0:List (List Int)) _ kk0=>kk0 (.ex 0) ⟨[(3,.seg 3 [])],[sr 3 (.cd (.sl SB) bb0)]⟩
theorem ok:Ya6 PR 23 1 (.loop c) fr:=
 Yvh Xe Xd h0 (G:=Xd6.G) Xd6.Gok [(0,([3],[3]))] (fun x s=>((x.1.1,x.1.2.1,s.1,x.1.2.2.2),(s.2,x.2.2)))
  (fun x s=>by simp only[B,mC,mB,mS,mO,mN];kernel_rfl)
end Xd5
namespace Xd6
def pts:List PT:=[.cs (.sl SB)]
def FS:FS:=Yc6 [.sh] pts (fun x=>Xd6 x.1) fun t=>⟨[.cd (.sl SB) t],[]⟩
theorem ok:Ycv PR 21 FS:=
 Yvf Xe Xd Proofs.Tryz.f21 h0 (.R (.R (.L (.R (.one (.fr 0)))))) (G:=G) Gok (L:=mkL [(0,Xd5.fr)]) (l:=[(0,.loop Xd5.c)]) ⟨Lam.cons Xd5.ok,trivial⟩
  (fun x=>by simp only[Xd6,mC,mB,mS,mO,mN];kernel_rfl)
end Xd6
def Xfr (a:Fs_):Option Fs_:=
 (Xd3 a.1).bind fun r=>(Xd6 a.2.1).bind fun r2=>some (r,r2,())
namespace Xfr
def G:Gam:=mkG [(20,Xd3.FS),(21,Xd6.FS)]
def pts:List PT:=[.cs Xp]
def FS:FS:=Yc6 [.sh] pts (fun x=>Xfr x.1) fun t=>⟨[.cd Xp t],[]⟩
theorem ok:Ycv PR 7 FS:=
 Yvf Xe Xd Proofs.Tryz.f7 ⟨[1],[],[],0⟩ .no (G:=G) (show GOk PR G from .cons Xd3.ok (.cons Xd6.ok .nil)) (L:=mkL []) (l:=[]) hT
  (fun x=>by simp only[Xfr,mC,mB,mS,mO,mN];kernel_rfl)
end Xfr
def Xan (v:Int) (v2:Int) (v3:Int):Option Bool:=
 some (cond (decide (v≥v2)) (decide (v≤v3)) false)
namespace Xan
def pts:List PT:=[.cs I64,.cs I64,.cs I64]
def FS:FS:=Yc6 [.sh,.sh,.sh] pts (fun x=>Xan x.1 x.2.1 x.2.2.1) fun t=>⟨[.cs .bool t],[]⟩
theorem ok:Ycv PR 26 FS:=
 Yvf Xe Xd Proofs.Tryz.f26 h0 .no (G:=(mkG [])) .nil (L:=mkL []) (l:=[]) hT
  (fun x=>by simp only[Xan,mC,mB,mS,mO,mN];kernel_rfl)
end Xan
def Xg3 (v:Int):Option Bool:=
 (Xan v 0 32).bind fun v2=>some v2
namespace Xg3
def G:Gam:=mkG [(26,Xan.FS)]
def pts:List PT:=[.cs I64]
def FS:FS:=Yc6 [.sh] pts (fun x=>Xg3 x.1) fun t=>⟨[.cs .bool t],[]⟩
theorem ok:Ycv PR 97 FS:=
 Yvf Xe Xd Proofs.Tryz.f97 h0 .no (G:=G) (show GOk PR G from .cons Xan.ok .nil) (L:=mkL []) (l:=[]) hT
  (fun x=>by simp only[Xg3,mC,mB,mS,mO,mN];kernel_rfl)
end Xg3
def Xg4 (v:Int):Option Int:=
 cond (!((8:Int) == 0)) (some (w64 ((w64 ((w64 (v+8))-1)).tdiv 8))) none
namespace Xg4
def pts:List PT:=[.cs I64]
def FS:FS:=Yc6 [.sh] pts (fun x=>Xg4 x.1) fun t=>⟨[.cs I64 t],[]⟩
theorem ok:Ycv PR 98 FS:=
 Yvf Xe Xd Proofs.Tryz.f98 h0 .no (G:=(mkG [])) .nil (L:=mkL []) (l:=[]) hT
  (fun x=>by simp only[Xg4,mC,mB,mS,mO,mN];kernel_rfl)
end Xg4
def Xe6.B (v:Xa) (v5:Int):Option (Int⊕((Int⊕Unit))):=
 cond (decide (v5<(v.2.2.2.1.length:Int))) (cond (inB v5 v.2.2.2.1.length) ((Xan (v.2.2.2.1.getD v5.toNat 0) 0 19).bind fun v6=>cond (!v6) (some (.inr (.inl 3))) (some (.inl (w64 (v5+1))))) none) (some (.inr (.inr ())))
def Xe6 (v:Xa):Int→Option ((Int⊕Unit)):=
 Yap fun s=>Xe6.B v s
def Xdm.B (v:Xa) (v10:Int) (v11:Int):Option (Int⊕((Int⊕Unit))):=
 cond (decide (v11<v10)) (cond (inB v11 v.2.2.2.1.length) (cond (inB v10 v.2.2.2.1.length) ((some ((v.2.2.2.1.getD v11.toNat 0) == (v.2.2.2.1.getD v10.toNat 0))).bind fun v12=>cond v12 (some (.inr (.inl 7))) (some (.inl (w64 (v11+1))))) none) none) (some (.inr (.inr ())))
def Xdm (v:Xa) (v10:Int):Int→Option ((Int⊕Unit)):=
 Yap fun s=>Xdm.B v v10 s
def Xd7.B (v:Xa) (v10:Int):Option (Int⊕((Int⊕Unit))):=
 cond (decide (v10<(v.2.2.2.1.length:Int))) ((Xdm v v10 0).bind fun v13=>sel v13 (fun v14=>some (.inr (.inl v14))) (fun v15=>some (.inl (w64 (v10+1))))) (some (.inr (.inr ())))
def Xd7 (v:Xa):Int→Option ((Int⊕Unit)):=
 Yap fun s=>Xd7.B v s
def Xcb (v:Xa):Option Int:=
 (Xan v.2.1 1 60).bind fun v2=>cond (!v2) (some 3) ((Xg3 v.2.2.1).bind fun v3=>cond (!v3) (some 3) ((Xg4 v.2.2.1).bind fun v4=>cond ((v.2.2.2.1.length:Int) != v4) (some 1) ((Xe6 v 0).bind fun v7=>sel v7 (fun v8=>some v8) (fun v9=>(Xd7 v 0).bind fun v16=>sel v16 (fun v17=>some v17) (fun v18=>some 0)))))
namespace Xcb
def G:Gam:=mkG [(26,Xan.FS),(97,Xg3.FS),(98,Xg4.FS)]
theorem Gok:GOk PR G:=.cons Xan.ok (.cons Xg3.ok (.cons Xg4.ok .nil))
end Xcb
namespace Xe6
noncomputable def c:=Yal (Yah Proofs.Tryz.f87) [1,1,1,0,1,0,0]
def sp:SP:=⟨[(0,.pt Xb),(3,.cs I64)],[]⟩
def fr:=Yig sp (fun x s=>Xe6.B x.1.1 s) (fun x=>x.1.2.1) fun x (oo0:(Int⊕Unit)) _ kk0=>sel oo0 (fun bb0=>kk0 (.rt) ⟨[(2,.cs I64 bb0)],[]⟩) (fun cc0=>kk0 (.ex 0) ⟨[(0,.pt Xb x.1.1)],[]⟩)
theorem ok:Ya6 PR 78 1 (.loop c) fr:=
 Yr7 Xe Xd h0 .no (G:=Xcb.G) Xcb.Gok (L:=mkL []) (l:=[]) hT [(0,([0],[]))] ([2],[]) (fun x s=>((x.1.1,s,x.1.2.2),x.2))
  (fun x s=>by simp only[B,mC,mB,mS,mO,mN];kernel_rfl)
end Xe6
namespace Xdm
noncomputable def c:=Yal (Yah Proofs.Tryz.f87) [1,1,1,1,0,1,0,0,1,0,0,1,0,0]
def sp:SP:=⟨[(0,.pt Xb),(4,.cs I64),(5,.cs I64)],[]⟩
def fr:=Yig sp (fun x s=>Xdm.B x.1.1 x.1.2.1 s) (fun x=>x.1.2.2.1) fun x (oo0:(Int⊕Unit)) _ kk0=>sel oo0 (fun bb0=>kk0 (.rt) ⟨[(2,.cs I64 bb0)],[]⟩) (fun cc0=>kk0 (.ex 4) ⟨[(0,.pt Xb x.1.1),(4,.cs I64 x.1.2.1)],[]⟩)
theorem ok:Ya6 PR 78 1 (.loop c) fr:=
 Yr7 Xe Xd h0 .no (G:=Xcb.G) Xcb.Gok (L:=mkL []) (l:=[]) hT [(4,([0,4],[]))] ([2],[]) (fun x s=>((x.1.1,x.1.2.1,s,x.1.2.2.2),x.2))
  (fun x s=>by simp only[B,mC,mB,mS,mO,mN];kernel_rfl)
end Xdm
namespace Xd7
noncomputable def c:=Yal (Yah Proofs.Tryz.f87) [1,1,1,1,0,1,0,0]
def sp:SP:=⟨[(0,.pt Xb),(4,.cs I64)],[]⟩
def fr:=Yig sp (fun x s=>Xd7.B x.1.1 s) (fun x=>x.1.2.1) fun x (oo0:(Int⊕Unit)) _ kk0=>sel oo0 (fun bb0=>kk0 (.rt) ⟨[(2,.cs I64 bb0)],[]⟩) (fun cc0=>kk0 (.ex 2) ⟨[],[]⟩)
theorem ok:Ya6 PR 78 1 (.loop c) fr:=
 Yr7 Xe Xd h0 (.R (.L (.one (.R (.one (.fr 2)))))) (G:=Xcb.G) Xcb.Gok (L:=mkL [(2,Xdm.fr)]) (l:=[(2,.loop Xdm.c)]) ⟨Lam.cons Xdm.ok,trivial⟩ [(2,([],[]))] ([2],[]) (fun x s=>((x.1.1,s,x.1.2.2),x.2))
  (fun x s=>by simp only[B,mC,mB,mS,mO,mN];kernel_rfl)
end Xd7
namespace Xcb
def pts:List PT:=[.pt Xb]
def FS:FS:=Yc6 [.sh] pts (fun x=>Xcb x.1) fun t=>⟨[.cs I64 t],[]⟩
theorem ok:Ycv PR 87 FS:=
 Yvf Xe Xd Proofs.Tryz.f87 h0 (.R (.R (.R (.two (.R (.one (.fr 0))) (.L (.R (.one (.fr 1)))))))) (G:=G) Gok (L:=mkL [(0,Xe6.fr),(2,Xdm.fr),(1,Xd7.fr)]) (l:=[(0,.loop Xe6.c),(1,.loop Xd7.c)]) ⟨Lam.cons Xe6.ok,Lam.skip rfl (Lam.skip rfl (Lam.cons Xd7.ok)),trivial⟩
  (fun x=>by simp only[Xcb,mC,mB,mS,mO,mN];kernel_rfl)
end Xcb
def Xe7.B (v:List UInt8) (v2:Int):Option (Int⊕((Int⊕Unit))):=
 cond (decide (v2<(v.length:Int))) (cond (inB v2 v.length) (cond (cond (!(decide (((v.getD v2.toNat 0).toNat:Int)<97))) (inB v2 v.length) true) ((some (cond (decide (((v.getD v2.toNat 0).toNat:Int)<97)) true (decide (((v.getD v2.toNat 0).toNat:Int)>122)))).bind fun v3=>cond v3 (some (.inr (.inl 5))) (some (.inl (w64 (v2+1))))) none) none) (some (.inr (.inr ())))
def Xe7 (v:List UInt8):Int→Option ((Int⊕Unit)):=
 Yap fun s=>Xe7.B v s
def Xgn (v:List UInt8):Option Int:=
 (Xe7 v 0).bind fun v4=>sel v4 (fun v5=>some v5) (fun v6=>cond (v == ([]:List UInt8)) (some 5) (cond (decide ((v.length:Int)>4)) (some 2) (some 0)))
namespace Xe7
noncomputable def c:=Yal (Yah Proofs.Tryz.f99) [1,0,1,0,0]
def sp:SP:=⟨[(0,.cs .str),(3,.cs I64)],[]⟩
def fr:=Yig sp (fun x s=>Xe7.B x.1.1 s) (fun x=>x.1.2.1) fun x (oo0:(Int⊕Unit)) _ kk0=>sel oo0 (fun bb0=>kk0 (.rt) ⟨[(2,.cs I64 bb0)],[]⟩) (fun cc0=>kk0 (.ex 0) ⟨[(0,.cs .str x.1.1)],[]⟩)
theorem ok:Ya6 PR 25 1 (.loop c) fr:=
 Yr7 Xe Xd h0 .no (G:=(mkG [])) .nil (L:=mkL []) (l:=[]) hT [(0,([0],[]))] ([2],[]) (fun x s=>((x.1.1,s,x.1.2.2),x.2))
  (fun x s=>by simp only[B,mC,mB,mS,mO,mN];kernel_rfl)
end Xe7
namespace Xgn
def pts:List PT:=[.cs .str]
def FS:FS:=Yc6 [.sh] pts (fun x=>Xgn x.1) fun t=>⟨[.cs I64 t],[]⟩
theorem ok:Ycv PR 99 FS:=
 Yvf Xe Xd Proofs.Tryz.f99 h0 (.R (.L (.R (.one (.fr 0))))) (G:=(mkG [])) .nil (L:=mkL [(0,Xe7.fr)]) (l:=[(0,.loop Xe7.c)]) ⟨Lam.cons Xe7.ok,trivial⟩
  (fun x=>by simp only[Xgn,mC,mB,mS,mO,mN];kernel_rfl)
end Xgn
def Xd8.B (v:Xa) (v2:Int):Option (Int⊕((Int⊕Unit))):=
 cond (decide (v2<(v.2.2.2.2.1.length:Int))) (cond (inB v2 v.2.2.2.2.1.length) ((Xgn (v.2.2.2.2.1.getD v2.toNat Xo).1).bind fun v3=>cond (v3 != 0) (some (.inr (.inl v3))) (cond (inB v2 v.2.2.2.2.1.length) ((Xan (v.2.2.2.2.1.getD v2.toNat Xo).2.1 0 9).bind fun v4=>cond (!v4) (some (.inr (.inl 3))) (cond (cond (decide (v2>0)) (inB v2 v.2.2.2.2.1.length) true) (cond (cond (decide (v2>0)) (inB (w64 (v2-1)) v.2.2.2.2.1.length) true) ((some (cond (decide (v2>0)) (leB (v.2.2.2.2.1.getD v2.toNat Xo).1 (v.2.2.2.2.1.getD (w64 (v2-1)).toNat Xo).1 || (v.2.2.2.2.1.getD v2.toNat Xo).1 == (v.2.2.2.2.1.getD (w64 (v2-1)).toNat Xo).1) false)).bind fun v5=>cond v5 (some (.inr (.inl 1))) (some (.inl (w64 (v2+1))))) none) none)) none)) none) (some (.inr (.inr ())))
def Xd8 (v:Xa):Int→Option ((Int⊕Unit)):=
 Yap fun s=>Xd8.B v s
def Xd9 (v:Xa):Option Int:=
 cond (decide ((v.2.2.2.2.1.length:Int)>6)) (some 2) ((Xd8 v 0).bind fun v6=>sel v6 (fun v7=>some v7) (fun v8=>some 0))
namespace Xd9
def G:Gam:=mkG [(99,Xgn.FS),(26,Xan.FS)]
theorem Gok:GOk PR G:=.cons Xgn.ok (.cons Xan.ok .nil)
end Xd9
namespace Xd8
noncomputable def c:=Yal (Yah Proofs.Tryz.f88) [1,1,0,1,0,0]
def sp:SP:=⟨[(0,.pt Xb),(3,.cs I64)],[]⟩
def fr:=Yig sp (fun x s=>Xd8.B x.1.1 s) (fun x=>x.1.2.1) fun x (oo0:(Int⊕Unit)) _ kk0=>sel oo0 (fun bb0=>kk0 (.rt) ⟨[(2,.cs I64 bb0)],[]⟩) (fun cc0=>kk0 (.ex 0) ⟨[],[]⟩)
theorem ok:Ya6 PR 64 1 (.loop c) fr:=
 Yr7 Xe Xd h0 .no (G:=Xd9.G) Xd9.Gok (L:=mkL []) (l:=[]) hT [(0,([],[]))] ([2],[]) (fun x s=>((x.1.1,s,x.1.2.2),x.2))
  (fun x s=>by simp only[B,mC,mB,mS,mO,mN];kernel_rfl)
end Xd8
namespace Xd9
def pts:List PT:=[.pt Xb]
def FS:FS:=Yc6 [.sh] pts (fun x=>Xd9 x.1) fun t=>⟨[.cs I64 t],[]⟩
theorem ok:Ycv PR 88 FS:=
 Yvf Xe Xd Proofs.Tryz.f88 h0 (.R (.R (.L (.R (.one (.fr 0)))))) (G:=G) Gok (L:=mkL [(0,Xd8.fr)]) (l:=[(0,.loop Xd8.c)]) ⟨Lam.cons Xd8.ok,trivial⟩
  (fun x=>by simp only[Xd9,mC,mB,mS,mO,mN];kernel_rfl)
end Xd9
def Xgo (v:Xa):Option Int:=
 (Xan v.1 0 2).bind fun v2=>cond (!v2) (some 1) ((some (cond (v.1 != 1) (cond (cond (v.2.1 != 0) true (v.2.2.1 != 0)) true (decide ((v.2.2.2.1.length:Int)>0))) false)).bind fun v3=>(some (cond v3 true (cond (v.1 != 2) (decide ((v.2.2.2.2.1.length:Int)>0)) false))).bind fun v4=>cond v4 (some 1) (cond (v.1 == 1) ((Xcb v).bind fun v5=>some v5) (cond (v.1 == 2) ((Xd9 v).bind fun v6=>some v6) (some 0))))
namespace Xgo
def G:Gam:=mkG [(26,Xan.FS),(87,Xcb.FS),(88,Xd9.FS)]
def pts:List PT:=[.pt Xb]
def FS:FS:=Yc6 [.sh] pts (fun x=>Xgo x.1) fun t=>⟨[.cs I64 t],[]⟩
theorem ok:Ycv PR 71 FS:=
 Yvf Xe Xd Proofs.Tryz.f71 h0 .no (G:=G) (show GOk PR G from .cons Xan.ok (.cons Xcb.ok (.cons Xd9.ok .nil))) (L:=mkL []) (l:=[]) hT
  (fun x=>by simp only[Xgo,mC,mB,mS,mO,mN];kernel_rfl)
end Xgo
def Xe8.B (v:List Xa) (v2:Int):Option (Int⊕((Int⊕Unit))):=
 cond (decide (v2<(v.length:Int))) (cond (inB v2 v.length) ((Xgo (v.getD v2.toNat Xc)).bind fun v3=>cond (v3 != 0) (some (.inr (.inl v3))) (some (.inl (w64 (v2+1))))) none) (some (.inr (.inr ())))
def Xe8 (v:List Xa):Int→Option ((Int⊕Unit)):=
 Yap fun s=>Xe8.B v s
def Xea (v:List Xa):Option Int:=
 cond (decide ((v.length:Int)>10)) (some 2) ((Xe8 v 0).bind fun v4=>sel v4 (fun v5=>some v5) (fun v6=>some 0))
namespace Xea
def G:Gam:=mkG [(71,Xgo.FS)]
theorem Gok:GOk PR G:=.cons Xgo.ok .nil
end Xea
namespace Xe8
noncomputable def c:=Yal (Yah Proofs.Tryz.f50) [1,1,0,1,0,0]
def sp:SP:=⟨[(0,.cs (.sl Xb)),(3,.cs I64)],[]⟩
def fr:=Yig sp (fun x s=>Xe8.B x.1.1 s) (fun x=>x.1.2.1) fun x (oo0:(Int⊕Unit)) _ kk0=>sel oo0 (fun bb0=>kk0 (.rt) ⟨[(2,.cs I64 bb0)],[]⟩) (fun cc0=>kk0 (.ex 0) ⟨[],[]⟩)
theorem ok:Ya6 PR 21 1 (.loop c) fr:=
 Yr7 Xe Xd h0 .no (G:=Xea.G) Xea.Gok (L:=mkL []) (l:=[]) hT [(0,([],[]))] ([2],[]) (fun x s=>((x.1.1,s,x.1.2.2),x.2))
  (fun x s=>by simp only[B,mC,mB,mS,mO,mN];kernel_rfl)
end Xe8
namespace Xea
def pts:List PT:=[.cs (.sl Xb)]
def FS:FS:=Yc6 [.sh] pts (fun x=>Xea x.1) fun t=>⟨[.cs I64 t],[]⟩
theorem ok:Ycv PR 50 FS:=
 Yvf Xe Xd Proofs.Tryz.f50 h0 (.R (.R (.L (.R (.one (.fr 0)))))) (G:=G) Gok (L:=mkL [(0,Xe8.fr)]) (l:=[(0,.loop Xe8.c)]) ⟨Lam.cons Xe8.ok,trivial⟩
  (fun x=>by simp only[Xea,mC,mB,mS,mO,mN];kernel_rfl)
end Xea
def Xdn.B (v:List Xa) (v2:Int) (v4:Int) (v5:Int) (v6:Int):Option ((Int×Int)⊕Int):=
 cond (inB v4 v.length) ((some ((v.getD v4.toNat Xc).2.2.2.1.length:Int)).bind fun v7=>cond (decide (v6<v7)) (cond (inB v4 v.length) (cond (inB v6 ((v.getD v4.toNat Xc).2.2.2.1.length)) ((some ((v.getD v4.toNat Xc).2.2.2.1.getD v6.toNat 0)).bind fun v8=>cond (v8 == v2) (some (.inl (w64 (v5+1),w64 (v6+1)))) (some (.inl (v5,w64 (v6+1))))) none) none) (some (.inr v5))) none
def Xdn (v:List Xa) (v2:Int) (v4:Int):(Int×Int)→Option Int:=
 Yap fun s=>Xdn.B v v2 v4 s.1 s.2
def Xeb.B (v:List Xa) (v2:Int) (v3:Int) (v4:Int):Option ((Int×Int)⊕Int):=
 cond (decide (v4<(v.length:Int))) ((Xdn v v2 v4 (v3,0)).bind fun v9=>some (.inl (v9,w64 (v4+1)))) (some (.inr v3))
def Xeb (v:List Xa) (v2:Int):(Int×Int)→Option Int:=
 Yap fun s=>Xeb.B v v2 s.1 s.2
def Xgp (v:List Xa) (v2:Int):Option Int:=
 (Xeb v v2 (0,0)).bind fun v10=>some v10
namespace Xdn
noncomputable def c:=Yal (Yah Proofs.Tryz.f72) [1,1,0,1,0,0,1,0,0,1,0,0]
def sp:SP:=⟨[(0,.cs (.sl Xb)),(1,.cs I64),(5,.cs I64),(6,.cs I64),(7,.cs I64)],[]⟩
def fr:=Yig sp (fun x s=>Xdn.B x.1.1 x.1.2.1 x.1.2.2.2.1 s.1 s.2) (fun x=>(x.1.2.2.1,x.1.2.2.2.2.1)) fun x (bb0:Int) _ kk0=>kk0 (.ex 2) ⟨[(0,.cs (.sl Xb) x.1.1),(1,.cs I64 x.1.2.1),(5,.cs I64 bb0),(6,.cs I64 x.1.2.2.2.1)],[]⟩
theorem ok:Ya6 PR 37 2 (.loop c) fr:=
 Yu9 Xe Xd h0 [(2,([0,1,5,6],[]))] (fun x s=>((x.1.1,x.1.2.1,s.1,x.1.2.2.2.1,s.2,x.1.2.2.2.2.2),x.2))
  (fun x s=>by simp only[B,mC,mB,mS,mO,mN];kernel_rfl)
end Xdn
namespace Xeb
noncomputable def c:=Yal (Yah Proofs.Tryz.f72) [1,1,0,1,0,0]
def sp:SP:=⟨[(0,.cs (.sl Xb)),(1,.cs I64),(5,.cs I64),(6,.cs I64)],[]⟩
def fr:=Yig sp (fun x s=>Xeb.B x.1.1 x.1.2.1 s.1 s.2) (fun x=>(x.1.2.2.1,x.1.2.2.2.1)) fun x (bb0:Int) _ kk0=>kk0 (.ex 0) ⟨[(5,.cs I64 bb0)],[]⟩
theorem ok:Ya6 PR 37 2 (.loop c) fr:=
 Yvg Xe Xd h0 (.R (.L (.one (.R (.one (.fr 1)))))) (L:=mkL [(1,Xdn.fr)]) (l:=[(1,.loop Xdn.c)]) ⟨Lam.cons Xdn.ok,trivial⟩ [(0,([5],[]))] (fun x s=>((x.1.1,x.1.2.1,s.1,s.2,x.1.2.2.2.2),x.2))
  (fun x s=>by simp only[B,mC,mB,mS,mO,mN];kernel_rfl)
end Xeb
namespace Xgp
def pts:List PT:=[.cs (.sl Xb),.cs I64]
def FS:FS:=Yc6 [.sh,.sh] pts (fun x=>Xgp x.1 x.2.1) fun t=>⟨[.cs I64 t],[]⟩
theorem ok:Ycv PR 72 FS:=
 Yvf Xe Xd Proofs.Tryz.f72 h0 (.R (.R (.L (.R (.one (.fr 0)))))) (G:=(mkG [])) .nil (L:=mkL [(1,Xdn.fr),(0,Xeb.fr)]) (l:=[(0,.loop Xeb.c)]) ⟨Lam.skip rfl (Lam.cons Xeb.ok),trivial⟩
  (fun x=>by simp only[Xgp,mC,mB,mS,mO,mN];kernel_rfl)
end Xgp
def Xe9.B (v:List Xa) (v2:Bool) (v3:Int) (v4:List Int):Option ((Bool×Int×List Int)⊕(Bool×List Int)):=
 cond (decide (v3<20)) ((Xgp v v3).bind fun v5=>cond (decide (v5>0)) (cond (decide ((v4++([v3])).length≤2147483648)) (some (.inl (cond v2 (decide (v5≤1)) false,w64 (v3+1),v4++([v3])))) none) (some (.inl (cond v2 (decide (v5≤1)) false,w64 (v3+1),v4)))) (some (.inr (v2,v4)))
def Xe9 (v:List Xa):(Bool×Int×List Int)→Option (Bool×List Int):=
 Yap fun s=>Xe9.B v s.1 s.2.1 s.2.2
def Xec (v:List Xa):Option ((List Int)×Bool):=
 (Xe9 v (true,0,[])).bind fun v6=>some (v6.2,v6.1)
namespace Xec
def G:Gam:=mkG [(72,Xgp.FS)]
theorem Gok:GOk PR G:=.cons Xgp.ok .nil
end Xec
namespace Xe9
noncomputable def c:=Yal (Yah Proofs.Tryz.f51) [1,1,1,0,1,0,0]
def sp:SP:=⟨[(0,.cs (.sl Xb)),(4,.seg 4 []),(5,.cs .bool),(6,.cs I64)],[(4,.reg,.cd SI)]⟩
def fr:=Yig sp (fun x s=>Xe9.B x.1.1 s.1 s.2.1 s.2.2) (fun x=>(x.1.2.2.1,x.1.2.2.2.1,x.2.1)) fun x (bb0:Bool×List Int) _ kk0=>kk0 (.ex 0) ⟨[(4,.seg 4 []),(5,.cs .bool bb0.1)],[sr 4 (.cd SI bb0.2)]⟩
theorem ok:Ya6 PR 29 1 (.loop c) fr:=
 Yvh Xe Xd h0 (G:=Xec.G) Xec.Gok [(0,([4,5],[4]))] (fun x s=>((x.1.1,x.1.2.1,s.1,s.2.1,x.1.2.2.2.2),(s.2.2,x.2.2)))
  (fun x s=>by simp only[B,mC,mB,mS,mO,mN];kernel_rfl)
end Xe9
namespace Xec
def pts:List PT:=[.cs (.sl Xb)]
def FS:FS:=Yc6 [.sh] pts (fun x=>Xec x.1) fun t=>⟨[.cd SI t.1,.cs .bool t.2],[]⟩
theorem ok:Ycv PR 51 FS:=
 Yvf Xe Xd Proofs.Tryz.f51 h0 (.R (.R (.R (.L (.R (.one (.fr 0))))))) (G:=G) Gok (L:=mkL [(0,Xe9.fr)]) (l:=[(0,.loop Xe9.c)]) ⟨Lam.cons Xe9.ok,trivial⟩
  (fun x=>by simp only[Xec,mC,mB,mS,mO,mN];kernel_rfl)
end Xec
def Xfa.B (v:Fs_) (v4:Int):Option (Int⊕((Int⊕Unit))):=
 cond (decide (v4<(v.2.1.length:Int))) (cond (inB v4 v.2.1.length) ((some (decide (((v.2.1.getD v4.toNat []).length:Int)>8))).bind fun v5=>cond v5 (some (.inr (.inl 2))) (some (.inl (w64 (v4+1))))) none) (some (.inr (.inr ())))
def Xfa (v:Fs_):Int→Option ((Int⊕Unit)):=
 Yap fun s=>Xfa.B v s
def Xdo.B (v:Fs_) (v10:Int) (v11:Int):Option (Int⊕((Int⊕Unit))):=
 cond (inB v10 v.1.length) ((some ((v.1.getD v10.toNat Xc).2.2.2.2.1.length:Int)).bind fun v12=>cond (decide (v11<v12)) (cond (inB v10 v.1.length) (cond (inB v11 ((v.1.getD v10.toNat Xc).2.2.2.2.1.length)) ((some ((v.1.getD v10.toNat Xc).2.2.2.2.1.getD v11.toNat Xo).2.1).bind fun v13=>cond (cond (!(decide (v13≥(v.1.length:Int)))) (inB v13 v.1.length) true) ((some (cond (decide (v13≥(v.1.length:Int))) true ((v.1.getD v13.toNat Xc).1 == 0))).bind fun v14=>cond v14 (some (.inr (.inl 4))) (some (.inl (w64 (v11+1))))) none) none) none) (some (.inr (.inr ())))) none
def Xdo (v:Fs_) (v10:Int):Int→Option ((Int⊕Unit)):=
 Yap fun s=>Xdo.B v v10 s
def Xfb.B (v:Fs_) (v10:Int):Option (Int⊕((Int⊕Unit))):=
 cond (decide (v10<(v.1.length:Int))) ((Xdo v v10 0).bind fun v15=>sel v15 (fun v16=>some (.inr (.inl v16))) (fun v17=>some (.inl (w64 (v10+1))))) (some (.inr (.inr ())))
def Xfb (v:Fs_):Int→Option ((Int⊕Unit)):=
 Yap fun s=>Xfb.B v s
def Xcc (v:Fs_):Option Int:=
 (Xea v.1).bind fun v2=>cond (v2 != 0) (some v2) (cond (cond (!((v.1.length:Int) == 0)) (inB 0 v.1.length) true) ((some (cond ((v.1.length:Int) == 0) true ((v.1.getD (0:Int).toNat Xc).1 != 2))).bind fun v3=>cond (cond v3 true ((v.2.1.length:Int) != 20)) (some 1) ((Xfa v 0).bind fun v6=>sel v6 (fun v7=>some v7) (fun v8=>(Xec v.1).bind fun v9=>cond (!v9.2) (some 7) ((Xfb v 0).bind fun v18=>sel v18 (fun v19=>some v19) (fun v20=>some 0))))) none)
namespace Xcc
def G:Gam:=mkG [(50,Xea.FS),(51,Xec.FS)]
theorem Gok:GOk PR G:=.cons Xea.ok (.cons Xec.ok .nil)
end Xcc
namespace Xfa
noncomputable def c:=Yal (Yah Proofs.Tryz.f32) [1,1,1,0,1,0,0]
def sp:SP:=⟨[(0,.pt Xp),(4,.cs I64)],[]⟩
def fr:=Yig sp (fun x s=>Xfa.B x.1.1 s) (fun x=>x.1.2.1) fun x (oo0:(Int⊕Unit)) _ kk0=>sel oo0 (fun bb0=>kk0 (.rt) ⟨[(2,.cs I64 bb0)],[]⟩) (fun cc0=>kk0 (.ex 0) ⟨[(0,.pt Xp x.1.1)],[]⟩)
theorem ok:Ya6 PR 122 1 (.loop c) fr:=
 Yr7 Xe Xd h0 .no (G:=Xcc.G) Xcc.Gok (L:=mkL []) (l:=[]) hT [(0,([0],[]))] ([2],[]) (fun x s=>((x.1.1,s,x.1.2.2),x.2))
  (fun x s=>by simp only[B,mC,mB,mS,mO,mN];kernel_rfl)
end Xfa
namespace Xdo
noncomputable def c:=Yal (Yah Proofs.Tryz.f32) [1,1,1,1,1,0,1,0,0,1,0,0,1,0,0]
def sp:SP:=⟨[(0,.pt Xp),(7,.cs I64),(8,.cs I64)],[]⟩
def fr:=Yig sp (fun x s=>Xdo.B x.1.1 x.1.2.1 s) (fun x=>x.1.2.2.1) fun x (oo0:(Int⊕Unit)) _ kk0=>sel oo0 (fun bb0=>kk0 (.rt) ⟨[(2,.cs I64 bb0)],[]⟩) (fun cc0=>kk0 (.ex 4) ⟨[(0,.pt Xp x.1.1),(7,.cs I64 x.1.2.1)],[]⟩)
theorem ok:Ya6 PR 122 1 (.loop c) fr:=
 Yr7 Xe Xd h0 .no (G:=Xcc.G) Xcc.Gok (L:=mkL []) (l:=[]) hT [(4,([0,7],[]))] ([2],[]) (fun x s=>((x.1.1,x.1.2.1,s,x.1.2.2.2),x.2))
  (fun x s=>by simp only[B,mC,mB,mS,mO,mN];kernel_rfl)
end Xdo
namespace Xfb
noncomputable def c:=Yal (Yah Proofs.Tryz.f32) [1,1,1,1,1,0,1,0,0]
def sp:SP:=⟨[(0,.pt Xp),(7,.cs I64)],[]⟩
def fr:=Yig sp (fun x s=>Xfb.B x.1.1 s) (fun x=>x.1.2.1) fun x (oo0:(Int⊕Unit)) _ kk0=>sel oo0 (fun bb0=>kk0 (.rt) ⟨[(2,.cs I64 bb0)],[]⟩) (fun cc0=>kk0 (.ex 2) ⟨[],[]⟩)
theorem ok:Ya6 PR 122 1 (.loop c) fr:=
 Yr7 Xe Xd h0 (.R (.L (.one (.R (.one (.fr 2)))))) (G:=Xcc.G) Xcc.Gok (L:=mkL [(2,Xdo.fr)]) (l:=[(2,.loop Xdo.c)]) ⟨Lam.cons Xdo.ok,trivial⟩ [(2,([],[]))] ([2],[]) (fun x s=>((x.1.1,s,x.1.2.2),x.2))
  (fun x s=>by simp only[B,mC,mB,mS,mO,mN];kernel_rfl)
end Xfb
namespace Xcc
def pts:List PT:=[.pt Xp]
def FS:FS:=Yc6 [.sh] pts (fun x=>Xcc x.1) fun t=>⟨[.cs I64 t],[]⟩
theorem ok:Ycv PR 32 FS:=
 Yvf Xe Xd Proofs.Tryz.f32 h0 (.R (.R (.R (.two (.R (.one (.fr 0))) (.R (.L (.R (.one (.fr 1))))))))) (G:=G) Gok (L:=mkL [(0,Xfa.fr),(2,Xdo.fr),(1,Xfb.fr)]) (l:=[(0,.loop Xfa.c),(1,.loop Xfb.c)]) ⟨Lam.cons Xfa.ok,Lam.skip rfl (Lam.skip rfl (Lam.cons Xfb.ok)),trivial⟩
  (fun x=>by simp only[Xcc,mC,mB,mS,mO,mN];kernel_rfl)
end Xcc
def Xcn.B (v:Fs_) (v3:Int) (v5:Int) (v7:Int) (v8:List Bool):Option ((Int×List Bool)⊕(List Bool)):=
 cond (inB v5 v8.length) (cond (cond (v8.getD v5.toNat false) (inB v5 v.1.length) true) ((some (cond (v8.getD v5.toNat false) (decide (v7<((v.1.getD v5.toNat Xc).2.2.2.2.1.length:Int))) false)).bind fun v9=>cond v9 (cond (inB v5 v.1.length) (cond (inB v7 ((v.1.getD v5.toNat Xc).2.2.2.2.1.length)) ((some ((v.1.getD v5.toNat Xc).2.2.2.2.1.getD v7.toNat Xo).2.1).bind fun v10=>cond (inB v10 v8.length) (some (.inl (w64 (v7+1),v8.set v10.toNat true))) none) none) none) (some (.inr v8))) none) none
def Xcn (v:Fs_) (v3:Int) (v5:Int):(Int×List Bool)→Option (List Bool):=
 Yap fun s=>Xcn.B v v3 v5 s.1 s.2
def Xdp.B (v:Fs_) (v3:Int) (v5:Int) (v6:List Bool):Option ((Int×List Bool)⊕(List Bool)):=
 cond (decide (v5<(v.1.length:Int))) ((Xcn v v3 v5 (0,v6)).bind fun v11=>some (.inl (w64 (v5+1),v11))) (some (.inr v6))
def Xdp (v:Fs_) (v3:Int):(Int×List Bool)→Option (List Bool):=
 Yap fun s=>Xdp.B v v3 s.1 s.2
def Xed.B (v:Fs_) (v3:Int) (v4:List Bool):Option ((Int×List Bool)⊕(List Bool)):=
 cond (decide (v3<(v.1.length:Int))) ((Xdp v v3 (0,v4)).bind fun v12=>some (.inl (w64 (v3+1),v12))) (some (.inr v4))
def Xed (v:Fs_):(Int×List Bool)→Option (List Bool):=
 Yap fun s=>Xed.B v s.1 s.2
def Xee.B (v13:List Bool) (v14:Int) (v15:List Int):Option ((Int×List Int)⊕(List Int)):=
 cond (decide (v14<(v13.length:Int))) (cond (inB v14 v13.length) (cond (v13.getD v14.toNat false) (cond (decide ((v15++([v14])).length≤2147483648)) (some (.inl (w64 (v14+1),v15++([v14])))) none) (some (.inl (w64 (v14+1),v15)))) none) (some (.inr v15))
def Xee (v13:List Bool):(Int×List Int)→Option (List Int):=
 Yap fun s=>Xee.B v13 s.1 s.2
def Xgq (v:Fs_):Option (List Int):=
 cond (decide ((0:Int)≤(v.1.length:Int))&&(decide ((v.1.length:Int)≤(v.1.length:Int))&&decide ((v.1.length:Int)≤2147483648))) (cond (inB 0 ((List.replicate (v.1.length:Int).toNat false).length)) ((some ((List.replicate (v.1.length:Int).toNat false).set ((0:Int).toNat) true)).bind fun v2=>(Xed v (0,v2)).bind fun v13=>(Xee v13 (0,[])).bind fun v16=>some v16) none) none
namespace Xcn
noncomputable def c:=Yal (Yah Proofs.Tryz.f52) [1,1,1,0,1,0,0,1,0,0,1,0,0,1,0,0,1,0,0]
def sp:SP:=⟨[(0,.pt Xp),(3,.seg 3 []),(4,.cs I64),(5,.cs I64),(6,.cs I64)],[(3,.reg,.cd (.sl .bool))]⟩
def fr:=Yig sp (fun x s=>Xcn.B x.1.1 x.1.2.2.1 x.1.2.2.2.1 s.1 s.2) (fun x=>(x.1.2.2.2.2.1,x.2.1)) fun x (bb0:List Bool) _ kk0=>kk0 (.ex 4) ⟨[(0,.pt Xp x.1.1),(3,.seg 3 []),(4,.cs I64 x.1.2.2.1),(5,.cs I64 x.1.2.2.2.1)],[sr 3 (.cd (.sl .bool) bb0)]⟩
theorem ok:Ya6 PR 84 1 (.loop c) fr:=
 Yu9 Xe Xd h0 [(4,([0,3,4,5],[3]))] (fun x s=>((x.1.1,x.1.2.1,x.1.2.2.1,x.1.2.2.2.1,s.1,x.1.2.2.2.2.2),(s.2,x.2.2)))
  (fun x s=>by simp only[B,mC,mB,mS,mO,mN];kernel_rfl)
end Xcn
namespace Xdp
noncomputable def c:=Yal (Yah Proofs.Tryz.f52) [1,1,1,0,1,0,0,1,0,0,1,0,0]
def sp:SP:=⟨[(0,.pt Xp),(3,.seg 3 []),(4,.cs I64),(5,.cs I64)],[(3,.reg,.cd (.sl .bool))]⟩
def fr:=Yig sp (fun x s=>Xdp.B x.1.1 x.1.2.2.1 s.1 s.2) (fun x=>(x.1.2.2.2.1,x.2.1)) fun x (bb0:List Bool) _ kk0=>kk0 (.ex 2) ⟨[(0,.pt Xp x.1.1),(3,.seg 3 []),(4,.cs I64 x.1.2.2.1)],[sr 3 (.cd (.sl .bool) bb0)]⟩
theorem ok:Ya6 PR 84 1 (.loop c) fr:=
 Yvg Xe Xd h0 (.R (.L (.one (.R (.one (.fr 2)))))) (L:=mkL [(2,Xcn.fr)]) (l:=[(2,.loop Xcn.c)]) ⟨Lam.cons Xcn.ok,trivial⟩ [(2,([0,3,4],[3]))] (fun x s=>((x.1.1,x.1.2.1,x.1.2.2.1,s.1,x.1.2.2.2.2),(s.2,x.2.2)))
  (fun x s=>by simp only[B,mC,mB,mS,mO,mN];kernel_rfl)
end Xdp
namespace Xed
noncomputable def c:=Yal (Yah Proofs.Tryz.f52) [1,1,1,0,1,0,0]
def sp:SP:=⟨[(0,.pt Xp),(3,.seg 3 []),(4,.cs I64)],[(3,.reg,.cd (.sl .bool))]⟩
def fr:=Yig sp (fun x s=>Xed.B x.1.1 s.1 s.2) (fun x=>(x.1.2.2.1,x.2.1)) fun x (bb0:List Bool) _ kk0=>kk0 (.ex 0) ⟨[(3,.seg 3 [])],[sr 3 (.cd (.sl .bool) bb0)]⟩
theorem ok:Ya6 PR 84 1 (.loop c) fr:=
 Yvg Xe Xd h0 (.R (.L (.one (.R (.one (.fr 1)))))) (L:=mkL [(2,Xcn.fr),(1,Xdp.fr)]) (l:=[(1,.loop Xdp.c)]) ⟨Lam.skip rfl (Lam.cons Xdp.ok),trivial⟩ [(0,([3],[3]))] (fun x s=>((x.1.1,x.1.2.1,s.1,x.1.2.2.2),(s.2,x.2.2)))
  (fun x s=>by simp only[B,mC,mB,mS,mO,mN];kernel_rfl)
end Xed
namespace Xee
noncomputable def c:=Yal (Yah Proofs.Tryz.f52) [1,1,1,1,1,0,1,0,0]
def sp:SP:=⟨[(3,.seg 3 []),(7,.seg 7 []),(8,.cs I64)],[(3,.reg,.cd (.sl .bool)),(7,.reg,.cd SI)]⟩
def fr:=Yig sp (fun x s=>Xee.B x.2.1 s.1 s.2) (fun x=>(x.1.2.2.1,x.2.2.1)) fun x (bb0:List Int) _ kk0=>kk0 (.ex 6) ⟨[(7,.seg 7 [])],[sr 7 (.cd SI bb0)]⟩
theorem ok:Ya6 PR 84 1 (.loop c) fr:=
 Yu9 Xe Xd h0 [(6,([7],[7]))] (fun x s=>((x.1.1,x.1.2.1,s.1,x.1.2.2.2),(x.2.1,s.2,x.2.2.2)))
  (fun x s=>by simp only[B,mC,mB,mS,mO,mN];kernel_rfl)
end Xee
namespace Xgq
def pts:List PT:=[.pt Xp]
def FS:FS:=Yc6 [.sh] pts (fun x=>Xgq x.1) fun t=>⟨[.cd SI t],[]⟩
theorem ok:Ycv PR 52 FS:=
 Yvf Xe Xd Proofs.Tryz.f52 h0 (.R (.R (.R (.two (.R (.one (.fr 0))) (.R (.L (.R (.one (.fr 3))))))))) (G:=(mkG [])) .nil (L:=mkL [(2,Xcn.fr),(1,Xdp.fr),(0,Xed.fr),(3,Xee.fr)]) (l:=[(0,.loop Xed.c),(3,.loop Xee.c)]) ⟨Lam.skip rfl (Lam.skip rfl (Lam.cons Xed.ok)),Lam.skip rfl (Lam.skip rfl (Lam.skip rfl (Lam.cons Xee.ok))),trivial⟩
  (fun x=>by simp only[Xgq,mC,mB,mS,mO,mN];kernel_rfl)
end Xgq
def Xdq.B (v:List Xa) (v2:Int) (v4:Int) (v5:Int) (v6:Int):Option ((Int×Int)⊕Int):=
 cond (inB v4 v.length) ((some ((v.getD v4.toNat Xc).2.2.2.2.1.length:Int)).bind fun v7=>cond (decide (v6<v7)) (cond (inB v4 v.length) (cond (inB v6 ((v.getD v4.toNat Xc).2.2.2.2.1.length)) ((some ((v.getD v4.toNat Xc).2.2.2.2.1.getD v6.toNat Xo).2.1).bind fun v8=>cond (v8 == v2) (some (.inl (w64 (v5+1),w64 (v6+1)))) (some (.inl (v5,w64 (v6+1))))) none) none) (some (.inr v5))) none
def Xdq (v:List Xa) (v2:Int) (v4:Int):(Int×Int)→Option Int:=
 Yap fun s=>Xdq.B v v2 v4 s.1 s.2
def Xef.B (v:List Xa) (v2:Int) (v3:Int) (v4:Int):Option ((Int×Int)⊕Int):=
 cond (decide (v4<(v.length:Int))) ((Xdq v v2 v4 (v3,0)).bind fun v9=>some (.inl (v9,w64 (v4+1)))) (some (.inr v3))
def Xef (v:List Xa) (v2:Int):(Int×Int)→Option Int:=
 Yap fun s=>Xef.B v v2 s.1 s.2
def Xgr (v:List Xa) (v2:Int):Option Int:=
 (Xef v v2 (0,0)).bind fun v10=>some v10
namespace Xdq
noncomputable def c:=Yal (Yah Proofs.Tryz.f53) [1,1,0,1,0,0,1,0,0,1,0,0]
def sp:SP:=⟨[(0,.cs (.sl Xb)),(1,.cs I64),(5,.cs I64),(6,.cs I64),(7,.cs I64)],[]⟩
def fr:=Yig sp (fun x s=>Xdq.B x.1.1 x.1.2.1 x.1.2.2.2.1 s.1 s.2) (fun x=>(x.1.2.2.1,x.1.2.2.2.2.1)) fun x (bb0:Int) _ kk0=>kk0 (.ex 2) ⟨[(0,.cs (.sl Xb) x.1.1),(1,.cs I64 x.1.2.1),(5,.cs I64 bb0),(6,.cs I64 x.1.2.2.2.1)],[]⟩
theorem ok:Ya6 PR 38 2 (.loop c) fr:=
 Yu9 Xe Xd h0 [(2,([0,1,5,6],[]))] (fun x s=>((x.1.1,x.1.2.1,s.1,x.1.2.2.2.1,s.2,x.1.2.2.2.2.2),x.2))
  (fun x s=>by simp only[B,mC,mB,mS,mO,mN];kernel_rfl)
end Xdq
namespace Xef
noncomputable def c:=Yal (Yah Proofs.Tryz.f53) [1,1,0,1,0,0]
def sp:SP:=⟨[(0,.cs (.sl Xb)),(1,.cs I64),(5,.cs I64),(6,.cs I64)],[]⟩
def fr:=Yig sp (fun x s=>Xef.B x.1.1 x.1.2.1 s.1 s.2) (fun x=>(x.1.2.2.1,x.1.2.2.2.1)) fun x (bb0:Int) _ kk0=>kk0 (.ex 0) ⟨[(5,.cs I64 bb0)],[]⟩
theorem ok:Ya6 PR 38 2 (.loop c) fr:=
 Yvg Xe Xd h0 (.R (.L (.one (.R (.one (.fr 1)))))) (L:=mkL [(1,Xdq.fr)]) (l:=[(1,.loop Xdq.c)]) ⟨Lam.cons Xdq.ok,trivial⟩ [(0,([5],[]))] (fun x s=>((x.1.1,x.1.2.1,s.1,s.2,x.1.2.2.2.2),x.2))
  (fun x s=>by simp only[B,mC,mB,mS,mO,mN];kernel_rfl)
end Xef
namespace Xgr
def pts:List PT:=[.cs (.sl Xb),.cs I64]
def FS:FS:=Yc6 [.sh,.sh] pts (fun x=>Xgr x.1 x.2.1) fun t=>⟨[.cs I64 t],[]⟩
theorem ok:Ycv PR 53 FS:=
 Yvf Xe Xd Proofs.Tryz.f53 h0 (.R (.R (.L (.R (.one (.fr 0)))))) (G:=(mkG [])) .nil (L:=mkL [(1,Xdq.fr),(0,Xef.fr)]) (l:=[(0,.loop Xef.c)]) ⟨Lam.skip rfl (Lam.cons Xef.ok),trivial⟩
  (fun x=>by simp only[Xgr,mC,mB,mS,mO,mN];kernel_rfl)
end Xgr
def Xfc.B (v:List Int) (v2:Int) (v3:Int):Option (Int⊕((Bool⊕Unit))):=
 cond (decide (v3<(v.length:Int))) (cond (inB v3 v.length) (cond ((v.getD v3.toNat 0) == v2) (some (.inr (.inl true))) (some (.inl (w64 (v3+1))))) none) (some (.inr (.inr ())))
def Xfc (v:List Int) (v2:Int):Int→Option ((Bool⊕Unit)):=
 Yap fun s=>Xfc.B v v2 s
def Xdr (v:List Int) (v2:Int):Option Bool:=
 (Xfc v v2 0).bind fun v4=>sel v4 (fun v5=>some v5) (fun v6=>some false)
namespace Xfc
noncomputable def c:=Yal (Yah Proofs.Tryz.f27) [1,0,1,0,0]
def sp:SP:=⟨[(0,.cs SI),(1,.cs I64),(5,.cs I64)],[]⟩
def fr:=Yig sp (fun x s=>Xfc.B x.1.1 x.1.2.1 s) (fun x=>x.1.2.2.1) fun x (oo0:(Bool⊕Unit)) _ kk0=>sel oo0 (fun bb0=>kk0 (.rt) ⟨[(4,.cs .bool bb0)],[]⟩) (fun cc0=>kk0 (.ex 0) ⟨[],[]⟩)
theorem ok:Ya6 PR 18 2 (.loop c) fr:=
 Yr7 Xe Xd h0 .no (G:=(mkG [])) .nil (L:=mkL []) (l:=[]) hT [(0,([],[]))] ([4],[]) (fun x s=>((x.1.1,x.1.2.1,s,x.1.2.2.2),x.2))
  (fun x s=>by simp only[B,mC,mB,mS,mO,mN];kernel_rfl)
end Xfc
namespace Xdr
def pts:List PT:=[.cs SI,.cs I64]
def FS:FS:=Yc6 [.sh,.sh] pts (fun x=>Xdr x.1 x.2.1) fun t=>⟨[.cs .bool t],[]⟩
theorem ok:Ycv PR 27 FS:=
 Yvf Xe Xd Proofs.Tryz.f27 h0 (.R (.L (.R (.one (.fr 0))))) (G:=(mkG [])) .nil (L:=mkL [(0,Xfc.fr)]) (l:=[(0,.loop Xfc.c)]) ⟨Lam.cons Xfc.ok,trivial⟩
  (fun x=>by simp only[Xdr,mC,mB,mS,mO,mN];kernel_rfl)
end Xdr
def Xfd.B (v:Fs_) (v2:List Int) (v3:Int):Option (Int⊕((Bool⊕Unit))):=
 cond (decide (v3<(v.1.length:Int))) (cond (inB v3 v.1.length) ((Xgr v.1 v3).bind fun v4=>cond ((v.1.getD v3.toNat Xc).1 == 0) (some (.inl (w64 (v3+1)))) (cond ((v.1.getD v3.toNat Xc).1 == 1) (cond (v4 != (v.1.getD v3.toNat Xc).2.1) (some (.inr (.inl false))) ((Xdr v2 v3).bind fun v5=>cond (!v5) (some (.inr (.inl false))) (some (.inl (w64 (v3+1)))))) (cond (v3 == 0) (cond (v4 != 0) (some (.inr (.inl false))) ((Xdr v2 v3).bind fun v6=>cond (!v6) (some (.inr (.inl false))) (some (.inl (w64 (v3+1)))))) (cond (v4 != 1) (some (.inr (.inl false))) ((Xdr v2 v3).bind fun v7=>cond (!v7) (some (.inr (.inl false))) (some (.inl (w64 (v3+1))))))))) none) (some (.inr (.inr ())))
def Xfd (v:Fs_) (v2:List Int):Int→Option ((Bool⊕Unit)):=
 Yap fun s=>Xfd.B v v2 s
def Xeg (v:Fs_):Option Bool:=
 (Xgq v).bind fun v2=>(Xfd v v2 0).bind fun v8=>sel v8 (fun v9=>some v9) (fun v10=>some true)
namespace Xeg
def G:Gam:=mkG [(52,Xgq.FS),(53,Xgr.FS),(27,Xdr.FS)]
theorem Gok:GOk PR G:=.cons Xgq.ok (.cons Xgr.ok (.cons Xdr.ok .nil))
end Xeg
namespace Xfd
noncomputable def c:=Yal (Yah Proofs.Tryz.f33) [1,1,0,1,0,0]
def sp:SP:=⟨[(0,.pt Xp),(3,.seg 3 []),(4,.cs I64)],[(3,.reg,.cd SI)]⟩
def fr:=Yig sp (fun x s=>Xfd.B x.1.1 x.2.1 s) (fun x=>x.1.2.2.1) fun x (oo0:(Bool⊕Unit)) _ kk0=>sel oo0 (fun bb0=>kk0 (.rt) ⟨[(2,.cs .bool bb0)],[]⟩) (fun cc0=>kk0 (.ex 0) ⟨[],[]⟩)
theorem ok:Ya6 PR 59 1 (.loop c) fr:=
 Yr7 Xe Xd h0 .no (G:=Xeg.G) Xeg.Gok (L:=mkL []) (l:=[]) hT [(0,([],[]))] ([2],[]) (fun x s=>((x.1.1,x.1.2.1,s,x.1.2.2.2),x.2))
  (fun x s=>by simp only[B,mC,mB,mS,mO,mN];kernel_rfl)
end Xfd
namespace Xeg
def pts:List PT:=[.pt Xp]
def FS:FS:=Yc6 [.sh] pts (fun x=>Xeg x.1) fun t=>⟨[.cs .bool t],[]⟩
theorem ok:Ycv PR 33 FS:=
 Yvf Xe Xd Proofs.Tryz.f33 h0 (.R (.R (.L (.R (.one (.fr 0)))))) (G:=G) Gok (L:=mkL [(0,Xfd.fr)]) (l:=[(0,.loop Xfd.c)]) ⟨Lam.cons Xfd.ok,trivial⟩
  (fun x=>by simp only[Xeg,mC,mB,mS,mO,mN];kernel_rfl)
end Xeg
def Xgs (v:Int) (v2:Int):Option Int:=
 cond (decide (v<v2)) (some v) (some v2)
namespace Xgs
def pts:List PT:=[.cs I64,.cs I64]
def FS:FS:=Yc6 [.sh,.sh] pts (fun x=>Xgs x.1 x.2.1) fun t=>⟨[.cs I64 t],[]⟩
theorem ok:Ycv PR 54 FS:=
 Yvf Xe Xd Proofs.Tryz.f54 h0 .no (G:=(mkG [])) .nil (L:=mkL []) (l:=[]) hT
  (fun x=>by simp only[Xgs,mC,mB,mS,mO,mN];kernel_rfl)
end Xgs
def Xds.B (v:Fs_) (v2:Int) (v4:Xa) (v5:Int) (v6:List Int):Option ((Int×List Int)⊕(List Int)):=
 cond (decide (v5<(v4.2.2.2.1.length:Int))) (cond (inB v5 v4.2.2.2.1.length) ((Xgs 8 (w64 (v4.2.2.1-(w64 (v5*8))))).bind fun v7=>cond (inB (v4.2.2.2.1.getD v5.toNat 0) v6.length) (some (.inl (w64 (v5+1),v6.set ((v4.2.2.2.1.getD v5.toNat 0).toNat) v7))) none) none) (some (.inr v6))
def Xds (v:Fs_) (v2:Int) (v4:Xa):(Int×List Int)→Option (List Int):=
 Yap fun s=>Xds.B v v2 v4 s.1 s.2
def Xeh.B (v:Fs_) (v2:Int) (v3:List Int):Option ((Int×List Int)⊕(List Int)):=
 cond (decide (v2<(v.1.length:Int))) (cond (inB v2 v.1.length) ((Xds v v2 (v.1.getD v2.toNat Xc) (0,v3)).bind fun v8=>some (.inl (w64 (v2+1),v8))) none) (some (.inr v3))
def Xeh (v:Fs_):(Int×List Int)→Option (List Int):=
 Yap fun s=>Xeh.B v s.1 s.2
def Xfe.B (v:Fs_) (v9:List Int) (v10:Int):Option (Int⊕((Bool⊕Unit))):=
 cond (decide (v10<(v.2.1.length:Int))) (cond (inB v10 v.2.1.length) (cond (inB v10 v9.length) ((some (((v.2.1.getD v10.toNat []).length:Int) != (v9.getD v10.toNat 0))).bind fun v11=>cond v11 (some (.inr (.inl false))) (some (.inl (w64 (v10+1))))) none) none) (some (.inr (.inr ())))
def Xfe (v:Fs_) (v9:List Int):Int→Option ((Bool⊕Unit)):=
 Yap fun s=>Xfe.B v v9 s
def Xcd (v:Fs_):Option Bool:=
 cond (decide ((0:Int)≤(20:Int))&&(decide ((20:Int)≤(20:Int))&&decide ((20:Int)≤2147483648))) ((Xeh v (0,List.replicate (20:Int).toNat 0)).bind fun v9=>(Xfe v v9 0).bind fun v12=>sel v12 (fun v13=>some v13) (fun v14=>some true)) none
namespace Xcd
def G:Gam:=mkG [(54,Xgs.FS)]
theorem Gok:GOk PR G:=.cons Xgs.ok .nil
end Xcd
namespace Xds
noncomputable def c:=Yal (Yah Proofs.Tryz.f34) [1,1,0,1,0,0,1,0,0,1,1,0,0]
def sp:SP:=⟨[(0,.pt Xp),(3,.seg 3 []),(4,.cs I64),(5,.pt Xb),(6,.cs I64)],[(3,.reg,.cd SI)]⟩
def fr:=Yig sp (fun x s=>Xds.B x.1.1 x.1.2.2.1 x.1.2.2.2.1 s.1 s.2) (fun x=>(x.1.2.2.2.2.1,x.2.1)) fun x (bb0:List Int) _ kk0=>kk0 (.ex 2) ⟨[(0,.pt Xp x.1.1),(3,.seg 3 []),(4,.cs I64 x.1.2.2.1)],[sr 3 (.cd SI bb0)]⟩
theorem ok:Ya6 PR 72 1 (.loop c) fr:=
 Yvh Xe Xd h0 (G:=Xcd.G) Xcd.Gok [(2,([0,3,4],[3]))] (fun x s=>((x.1.1,x.1.2.1,x.1.2.2.1,x.1.2.2.2.1,s.1,x.1.2.2.2.2.2),(s.2,x.2.2)))
  (fun x s=>by simp only[B,mC,mB,mS,mO,mN];kernel_rfl)
end Xds
namespace Xeh
noncomputable def c:=Yal (Yah Proofs.Tryz.f34) [1,1,0,1,0,0]
def sp:SP:=⟨[(0,.pt Xp),(3,.seg 3 []),(4,.cs I64)],[(3,.reg,.cd SI)]⟩
def fr:=Yig sp (fun x s=>Xeh.B x.1.1 s.1 s.2) (fun x=>(x.1.2.2.1,x.2.1)) fun x (bb0:List Int) _ kk0=>kk0 (.ex 0) ⟨[(0,.pt Xp x.1.1),(3,.seg 3 [])],[sr 3 (.cd SI bb0)]⟩
theorem ok:Ya6 PR 72 1 (.loop c) fr:=
 Yvi Xe Xd h0 (.R (.L (.one (.R (.R (.one (.fr 1))))))) (G:=Xcd.G) Xcd.Gok (L:=mkL [(1,Xds.fr)]) (l:=[(1,.loop Xds.c)]) ⟨Lam.cons Xds.ok,trivial⟩ [(0,([0,3],[3]))] (fun x s=>((x.1.1,x.1.2.1,s.1,x.1.2.2.2),(s.2,x.2.2)))
  (fun x s=>by simp only[B,mC,mB,mS,mO,mN];kernel_rfl)
end Xeh
namespace Xfe
noncomputable def c:=Yal (Yah Proofs.Tryz.f34) [1,1,1,0,1,0,0]
def sp:SP:=⟨[(0,.pt Xp),(3,.seg 3 []),(7,.cs I64)],[(3,.reg,.cd SI)]⟩
def fr:=Yig sp (fun x s=>Xfe.B x.1.1 x.2.1 s) (fun x=>x.1.2.2.1) fun x (oo0:(Bool⊕Unit)) _ kk0=>sel oo0 (fun bb0=>kk0 (.rt) ⟨[(2,.cs .bool bb0)],[]⟩) (fun cc0=>kk0 (.ex 4) ⟨[],[]⟩)
theorem ok:Ya6 PR 72 1 (.loop c) fr:=
 Yr7 Xe Xd h0 .no (G:=Xcd.G) Xcd.Gok (L:=mkL []) (l:=[]) hT [(4,([],[]))] ([2],[]) (fun x s=>((x.1.1,x.1.2.1,s,x.1.2.2.2),x.2))
  (fun x s=>by simp only[B,mC,mB,mS,mO,mN];kernel_rfl)
end Xfe
namespace Xcd
def pts:List PT:=[.pt Xp]
def FS:FS:=Yc6 [.sh] pts (fun x=>Xcd x.1) fun t=>⟨[.cs .bool t],[]⟩
theorem ok:Ycv PR 34 FS:=
 Yvf Xe Xd Proofs.Tryz.f34 h0 (.R (.R (.two (.R (.one (.fr 0))) (.L (.R (.one (.fr 2))))))) (G:=G) Gok (L:=mkL [(1,Xds.fr),(0,Xeh.fr),(2,Xfe.fr)]) (l:=[(0,.loop Xeh.c),(2,.loop Xfe.c)]) ⟨Lam.skip rfl (Lam.cons Xeh.ok),Lam.skip rfl (Lam.skip rfl (Lam.cons Xfe.ok)),trivial⟩
  (fun x=>by simp only[Xcd,mC,mB,mS,mO,mN];kernel_rfl)
end Xcd
def Xff (v:Fs_):Option Int:=
 (Xcc v).bind fun v2=>cond (v2 != 0) (some v2) ((Xeg v).bind fun v3=>cond (!v3) (some 1) ((Xcd v).bind fun v4=>cond (!v4) (some 1) (some 0)))
namespace Xff
def G:Gam:=mkG [(32,Xcc.FS),(33,Xeg.FS),(34,Xcd.FS)]
def pts:List PT:=[.pt Xp]
def FS:FS:=Yc6 [.sh] pts (fun x=>Xff x.1) fun t=>⟨[.cs I64 t],[]⟩
theorem ok:Ycv PR 15 FS:=
 Yvf Xe Xd Proofs.Tryz.f15 h0 .no (G:=G) (show GOk PR G from .cons Xcc.ok (.cons Xeg.ok (.cons Xcd.ok .nil))) (L:=mkL []) (l:=[]) hT
  (fun x=>by simp only[Xff,mC,mB,mS,mO,mN];kernel_rfl)
end Xff
def Xg5 (v:Fs_) (v2:Int):Option Bool:=
 (Xan v2 0 (w64 ((v.1.length:Int)-1))).bind fun v3=>some v3
namespace Xg5
def G:Gam:=mkG [(26,Xan.FS)]
def pts:List PT:=[.pt Xp,.cs I64]
def FS:FS:=Yc6 [.sh,.sh] pts (fun x=>Xg5 x.1 x.2.1) fun t=>⟨[.cs .bool t],[]⟩
theorem ok:Ycv PR 16 FS:=
 Yvf Xe Xd Proofs.Tryz.f16 h0 .no (G:=G) (show GOk PR G from .cons Xan.ok .nil) (L:=mkL []) (l:=[]) hT
  (fun x=>by simp only[Xg5,mC,mB,mS,mO,mN];kernel_rfl)
end Xg5
abbrev X5.Ty:Type:=Fs_→Int→(List UInt8)→Int→Option (List (List UInt8))
def Xcu.B (self:X5.Ty) (v:Fs_) (v2:Int) (v3:List UInt8) (v4:Int) (v5:Int) (v6:List (List UInt8)):Option ((Int×List (List UInt8))⊕(List (List UInt8))):=
 cond (cond (decide (v4>0)) (inB v2 v.1.length) true) ((some (cond (decide (v4>0)) (decide (v5<((v.1.getD v2.toNat Xc).2.2.2.2.1.length:Int))) false)).bind fun v7=>cond v7 (cond (inB v2 v.1.length) (cond (inB v5 ((v.1.getD v2.toNat Xc).2.2.2.2.1.length)) ((some ((v.1.getD v2.toNat Xc).2.2.2.2.1.getD v5.toNat Xo)).bind fun v8=>cond (decide (v3.length+([47]:List UInt8).length≤2147483648)) (cond (decide ((v3++([47]:List UInt8)).length+v8.1.length≤2147483648)) (cond (decide ((v6++([(v3++([47]:List UInt8))++v8.1])).length≤2147483648)) (cond (inB v8.2.1 v.1.length) (cond ((v.1.getD v8.2.1.toNat Xc).1 == 2) ((self v v8.2.1 ((v3++([47]:List UInt8))++v8.1) (w64 (v4-1))).bind fun v9=>(some ((v6++([(v3++([47]:List UInt8))++v8.1]))++v9)).bind fun v10=>cond (decide (v10.length≤2147483648)) (some (.inl (w64 (v5+1),v10))) none) (some (.inl (w64 (v5+1),v6++([(v3++([47]:List UInt8))++v8.1]))))) none) none) none) none) none) none) (some (.inr v6))) none
def Xcu (self:X5.Ty) (v:Fs_) (v2:Int) (v3:List UInt8) (v4:Int):(Int×List (List UInt8))→Option (List (List UInt8)):=
 Yap fun s=>Xcu.B self v v2 v3 v4 s.1 s.2
def X5.step (self:X5.Ty) (v:Fs_) (v2:Int) (v3:List UInt8) (v4:Int):Option (List (List UInt8)):=
 (Xcu self v v2 v3 v4 (0,[])).bind fun v11=>some v11
def X5.R:Nat→X5.Ty
 |0=>fun _ _ _ _=>none
 |k+1=>fun v v2 v3 v4=>X5.step (X5.R k) v v2 v3 v4
def X5 (v:Fs_) (v2:Int) (v3:List UInt8) (v4:Int):Option (List (List UInt8)):=
 X5.R 40 v v2 v3 v4
namespace X5
def pts:List PT:=[.pt Xp,.cs I64,.cs .str,.cs I64]
noncomputable def FSr (self:Ty):FS:=Yc6 [.sh,.sh,.sh,.sh] pts (fun x=>self x.1 x.2.1 x.2.2.1 x.2.2.2.1) fun t=>⟨[.cd (.sl .str) t],[]⟩
noncomputable def G (self:Ty):Gam:=mkG [(35,FSr self)]
theorem Gok (self:Ty) (hs:Ycv PR 35 (FSr self)):GOk PR (G self):=.cons hs .nil
end X5
namespace Xcu
noncomputable def c:=Yal (Yah Proofs.Tryz.f35) [1,1,0,1,0,0]
def sp:SP:=⟨[(0,.pt Xp),(1,.cs I64),(2,.cs .str),(3,.cs I64),(9,.seg 9 []),(10,.cs I64)],[(9,.reg,.cd (.sl .str))]⟩
noncomputable def fr (self:X5.Ty):=Yig sp (fun x s=>Xcu.B self x.1.1 x.1.2.1 x.1.2.2.1 x.1.2.2.2.1 s.1 s.2) (fun x=>(x.1.2.2.2.2.2.1,x.2.1)) fun x (bb0:List (List UInt8)) _ kk0=>kk0 (.ex 0) ⟨[(9,.seg 9 [])],[sr 9 (.cd (.sl .str) bb0)]⟩
theorem ok (self:X5.Ty) (hs:Ycv PR 35 (X5.FSr self)):Ya6 PR 71 4 (.loop c) (fr self):=
 Yvh Xe Xd h0 (G:=X5.G self) (X5.Gok self hs) [(0,([9],[9]))] (fun x s=>((x.1.1,x.1.2.1,x.1.2.2.1,x.1.2.2.2.1,x.1.2.2.2.2.1,s.1,x.1.2.2.2.2.2.2),(s.2,x.2.2)))
  (fun x s=>by simp only[B,mC,mB,mS,mO,mN];kernel_rfl)
end Xcu
namespace X5
def FS:FS:=Yc6 [.sh,.sh,.sh,.sh] pts (fun x=>X5 x.1 x.2.1 x.2.2.1 x.2.2.2.1) fun t=>⟨[.cd (.sl .str) t],[]⟩
theorem okS (self:Ty) (hs:Ycv PR 35 (FSr self)):Ycv PR 35 (FSr (step self)):=
 Yvf Xe Xd Proofs.Tryz.f35 h0 (.R (.R (.L (.R (.one (.fr 0)))))) (G:=(G self)) (Gok self hs) (L:=mkL [(0,Xcu.fr self)]) (l:=[(0,.loop Xcu.c)]) ⟨Lam.cons (Xcu.ok self hs),trivial⟩
  (fun x=>by simp only[step,mC,mB,mS,mO,mN];kernel_rfl)
theorem okR:∀ k,Ycv PR 35 (FSr (R k))
 |0=>Ycv.bot
 |k+1=>okS _ (okR k)
theorem ok:Ycv PR 35 FS:=okR 40
end X5
def Xgt (v:Fs_):Option (List (List UInt8)):=
 (X5 v 0 ([]:List UInt8) 6).bind fun v2=>cond (decide ((v2.length:Int)>60)) (cond (decide ((0:Int)≤(60:Int))&&decide ((60:Int)≤(v2.length:Int))) (some ((v2.drop 0).take (((60:Int).toNat)-0))) none) (some v2)
namespace Xgt
def G:Gam:=mkG [(35,X5.FS)]
def pts:List PT:=[.pt Xp]
def FS:FS:=Yc6 [.sh] pts (fun x=>Xgt x.1) fun t=>⟨[.cd (.sl .str) t],[]⟩
theorem ok:Ycv PR 17 FS:=
 Yvf Xe Xd Proofs.Tryz.f17 h0 .no (G:=G) (show GOk PR G from .cons X5.ok .nil) (L:=mkL []) (l:=[]) hT
  (fun x=>by simp only[Xgt,mC,mB,mS,mO,mN];kernel_rfl)
end Xgt
def Xcv.B (v:List UInt8) (v2:Int) (v3:Int) (v4:Int) (v5:List (List UInt8)):Option ((Int×Int×List (List UInt8))⊕(List (List UInt8))):=
 cond (decide (v4≤(v.length:Int))) (cond (cond (!(v4 == (v.length:Int))) (inB v4 v.length) true) ((some (cond (v4 == (v.length:Int)) true (((v.getD v4.toNat 0).toNat:Int) == v2))).bind fun v6=>cond v6 (cond (decide ((0:Int)≤v4)&&decide (v4≤(v.length:Int))&&(decide ((0:Int)≤v3)&&decide (v3≤v4))) (cond (decide ((v5++([(v.take v4.toNat).drop v3.toNat])).length≤2147483648)) (some (.inl (w64 (v4+1),w64 (v4+1),v5++([(v.take v4.toNat).drop v3.toNat])))) none) none) (some (.inl (v3,w64 (v4+1),v5)))) none) (some (.inr v5))
def Xcv (v:List UInt8) (v2:Int):(Int×Int×List (List UInt8))→Option (List (List UInt8)):=
 Yap fun s=>Xcv.B v v2 s.1 s.2.1 s.2.2
def Xf4 (v:List UInt8) (v2:Int):Option (List (List UInt8)):=
 (Xcv v v2 (0,0,[])).bind fun v7=>some v7
namespace Xcv
noncomputable def c:=Yal (Yah Proofs.Tryz.f19) [1,1,1,0,1,0,0]
def sp:SP:=⟨[(0,.cs .str),(1,.cs U8),(5,.seg 5 []),(6,.cs I64),(7,.cs I64)],[(5,.reg,.cd (.sl .str))]⟩
def fr:=Yig sp (fun x s=>Xcv.B x.1.1 x.1.2.1 s.1 s.2.1 s.2.2) (fun x=>(x.1.2.2.2.1,x.1.2.2.2.2.1,x.2.1)) fun x (bb0:List (List UInt8)) _ kk0=>kk0 (.ex 0) ⟨[(5,.seg 5 [])],[sr 5 (.cd (.sl .str) bb0)]⟩
theorem ok:Ya6 PR 36 2 (.loop c) fr:=
 Yu9 Xe Xd h0 [(0,([5],[5]))] (fun x s=>((x.1.1,x.1.2.1,x.1.2.2.1,s.1,s.2.1,x.1.2.2.2.2.2),(s.2.2,x.2.2)))
  (fun x s=>by simp only[B,mC,mB,mS,mO,mN];kernel_rfl)
end Xcv
namespace Xf4
def pts:List PT:=[.cs .str,.cs U8]
def FS:FS:=Yc6 [.sh,.sh] pts (fun x=>Xf4 x.1 x.2.1) fun t=>⟨[.cd (.sl .str) t],[]⟩
theorem ok:Ycv PR 19 FS:=
 Yvf Xe Xd Proofs.Tryz.f19 h0 (.R (.R (.R (.L (.R (.one (.fr 0))))))) (G:=(mkG [])) .nil (L:=mkL [(0,Xcv.fr)]) (l:=[(0,.loop Xcv.c)]) ⟨Lam.cons Xcv.ok,trivial⟩
  (fun x=>by simp only[Xf4,mC,mB,mS,mO,mN];kernel_rfl)
end Xf4
def Xfg.B (v:List Xf) (v2:List UInt8) (v3:Int):Option (Int⊕((Int⊕Unit))):=
 cond (decide (v3<(v.length:Int))) (cond (inB v3 v.length) (cond ((v.getD v3.toNat Xo).1 == v2) (some (.inr (.inl v3))) (some (.inl (w64 (v3+1))))) none) (some (.inr (.inr ())))
def Xfg (v:List Xf) (v2:List UInt8):Int→Option ((Int⊕Unit)):=
 Yap fun s=>Xfg.B v v2 s
def Xgu (v:List Xf) (v2:List UInt8):Option Int:=
 (Xfg v v2 0).bind fun v4=>sel v4 (fun v5=>some v5) (fun v6=>some (-1))
namespace Xfg
noncomputable def c:=Yal (Yah Proofs.Tryz.f36) [1,0,1,0,0]
def sp:SP:=⟨[(0,.cs (.sl Xm)),(1,.cs .str),(5,.cs I64)],[]⟩
def fr:=Yig sp (fun x s=>Xfg.B x.1.1 x.1.2.1 s) (fun x=>x.1.2.2.1) fun x (oo0:(Int⊕Unit)) _ kk0=>sel oo0 (fun bb0=>kk0 (.rt) ⟨[(4,.cs I64 bb0)],[]⟩) (fun cc0=>kk0 (.ex 0) ⟨[],[]⟩)
theorem ok:Ya6 PR 20 2 (.loop c) fr:=
 Yr7 Xe Xd h0 .no (G:=(mkG [])) .nil (L:=mkL []) (l:=[]) hT [(0,([],[]))] ([4],[]) (fun x s=>((x.1.1,x.1.2.1,s,x.1.2.2.2),x.2))
  (fun x s=>by simp only[B,mC,mB,mS,mO,mN];kernel_rfl)
end Xfg
namespace Xgu
def pts:List PT:=[.cs (.sl Xm),.cs .str]
def FS:FS:=Yc6 [.sh,.sh] pts (fun x=>Xgu x.1 x.2.1) fun t=>⟨[.cs I64 t],[]⟩
theorem ok:Ycv PR 36 FS:=
 Yvf Xe Xd Proofs.Tryz.f36 h0 (.R (.L (.R (.one (.fr 0))))) (G:=(mkG [])) .nil (L:=mkL [(0,Xfg.fr)]) (l:=[(0,.loop Xfg.c)]) ⟨Lam.cons Xfg.ok,trivial⟩
  (fun x=>by simp only[Xgu,mC,mB,mS,mO,mN];kernel_rfl)
end Xgu
def Xei.B (v:Fs_) (v2:List (List UInt8)) (v3:Int) (v4:Int):Option ((Int×Int)⊕(((Int×Int)⊕Int))):=
 cond (decide (v4<(v2.length:Int))) (cond (inB v3 v.1.length) (cond ((v.1.getD v3.toNat Xc).1 != 2) (some (.inr (.inl (0,9)))) (cond (inB v3 v.1.length) (cond (inB v4 v2.length) ((Xgu (v.1.getD v3.toNat Xc).2.2.2.2.1 (v2.getD v4.toNat [])).bind fun v5=>cond (decide (v5<0)) (some (.inr (.inl (0,4)))) (cond (inB v3 v.1.length) (cond (inB v5 ((v.1.getD v3.toNat Xc).2.2.2.2.1.length)) ((some ((v.1.getD v3.toNat Xc).2.2.2.2.1.getD v5.toNat Xo).2.1).bind fun v6=>some (.inl (v6,w64 (v4+1)))) none) none)) none) none)) none) (some (.inr (.inr v3)))
def Xei (v:Fs_) (v2:List (List UInt8)):(Int×Int)→Option (((Int×Int)⊕Int)):=
 Yap fun s=>Xei.B v v2 s.1 s.2
def Xej (v:Fs_) (v2:List (List UInt8)):Option (Int×Int):=
 (Xei v v2 (0,0)).bind fun v7=>sel v7 (fun v8=>some (v8.1,v8.2)) (fun v9=>some (v9,0))
namespace Xej
def G:Gam:=mkG [(36,Xgu.FS)]
theorem Gok:GOk PR G:=.cons Xgu.ok .nil
end Xej
namespace Xei
noncomputable def c:=Yal (Yah Proofs.Tryz.f18) [1,1,0,1,0,0]
def sp:SP:=⟨[(0,.pt Xp),(1,.cs (.sl .str)),(6,.cs I64),(7,.cs I64)],[]⟩
def fr:=Yig sp (fun x s=>Xei.B x.1.1 x.1.2.1 s.1 s.2) (fun x=>(x.1.2.2.1,x.1.2.2.2.1)) fun x (oo0:((Int×Int)⊕Int)) _ kk0=>sel oo0 (fun bb0=>kk0 (.rt) ⟨[(4,.cs I64 bb0.1),(5,.cs I64 bb0.2)],[]⟩) (fun cc0=>kk0 (.ex 0) ⟨[(6,.cs I64 cc0)],[]⟩)
theorem ok:Ya6 PR 52 2 (.loop c) fr:=
 Yr7 Xe Xd h0 .no (G:=Xej.G) Xej.Gok (L:=mkL []) (l:=[]) hT [(0,([6],[]))] ([4,5],[]) (fun x s=>((x.1.1,x.1.2.1,s.1,s.2,x.1.2.2.2.2),x.2))
  (fun x s=>by simp only[B,mC,mB,mS,mO,mN];kernel_rfl)
end Xei
namespace Xej
def pts:List PT:=[.pt Xp,.cs (.sl .str)]
def FS:FS:=Yc6 [.sh,.sh] pts (fun x=>Xej x.1 x.2.1) fun t=>⟨[.cs I64 t.1,.cs I64 t.2],[]⟩
theorem ok:Ycv PR 18 FS:=
 Yvf Xe Xd Proofs.Tryz.f18 h0 (.R (.R (.L (.R (.one (.fr 0)))))) (G:=G) Gok (L:=mkL [(0,Xei.fr)]) (l:=[(0,.loop Xei.c)]) ⟨Lam.cons Xei.ok,trivial⟩
  (fun x=>by simp only[Xej,mC,mB,mS,mO,mN];kernel_rfl)
end Xej
def Xfh.B (v2:Int) (v:Fs_) (v7:Xj) (v5:List (List UInt8)) (v6:Int):Option (Int⊕((Xj⊕Unit))):=
 cond (decide (v6<(v5.length:Int))) (cond (inB v6 v5.length) (cond (decide ((0:Int)≤(1:Int))&&decide ((1:Int)≤((v5.getD v6.toNat []).length:Int))) ((some (((v5.getD v6.toNat []).take ((v5.getD v6.toNat []).length)).drop ((1:Int).toNat))).bind fun v8=>(Xf4 v8 47).bind fun v9=>(Xej v v9).bind fun v10=>cond (cond (v10.2 == 0) (v10.1 == v2) false) (cond (inB v6 v5.length) (some (.inr (.inl (0,v5.getD v6.toNat [],())))) none) (some (.inl (w64 (v6+1))))) none) none) (some (.inr (.inr ())))
def Xfh (v2:Int) (v:Fs_) (v7:Xj) (v5:List (List UInt8)):Int→Option ((Xj⊕Unit)):=
 Yap fun s=>Xfh.B v2 v v7 v5 s
def Xek (v:Fs_) (v2:Int):Option Xj:=
 (Xff v).bind fun v3=>cond (v3 != 0) (some (v3,[],())) ((Xg5 v v2).bind fun v4=>cond (!v4) (some (3,[],())) (cond (v2 == 0) (some (0,([47]:List UInt8),())) ((Xgt v).bind fun v5=>(Xfh v2 v (0,[],()) v5 0).bind fun v11=>sel v11 (fun v12=>some v12) (fun v13=>some (4,[],())))))
namespace Xek
def G:Gam:=mkG [(15,Xff.FS),(16,Xg5.FS),(17,Xgt.FS),(19,Xf4.FS),(18,Xej.FS)]
theorem Gok:GOk PR G:=.cons Xff.ok (.cons Xg5.ok (.cons Xgt.ok (.cons Xf4.ok (.cons Xej.ok .nil))))
end Xek
namespace Xfh
noncomputable def c:=Yal (Yah Proofs.Tryz.f6) [1,1,1,1,1,0,1,0,0]
def sp:SP:=⟨[(1,.cs I64),(2,.pt Xp),(4,.loc 4 []),(6,.seg 6 []),(7,.cs I64)],[(4,.mem,.cd Xn),(6,.reg,.cd (.sl .str))]⟩
def fr:=Yig sp (fun x s=>Xfh.B x.1.1 x.1.2.1 x.2.1 x.2.2.1 s) (fun x=>x.1.2.2.2.2.1) fun x (oo0:(Xj⊕Unit)) _ kk0=>sel oo0 (fun bb0=>kk0 (.rt) ⟨[(4,.loc 4 [])],[(4,some ⟨.mem,.cd Xn bb0⟩)]⟩) (fun cc0=>kk0 (.ex 0) ⟨[(4,.loc 4 [])],[(4,some ⟨.mem,.cd Xn x.2.1⟩)]⟩)
theorem ok:Ya6 PR 52 2 (.loop c) fr:=
 Yr7 Xe Xd ⟨[2],[],[],0⟩ .no (G:=Xek.G) Xek.Gok (L:=mkL []) (l:=[]) hT [(0,([4],[4]))] ([4],[4]) (fun x s=>((x.1.1,x.1.2.1,x.1.2.2.1,x.1.2.2.2.1,s,x.1.2.2.2.2.2),x.2))
  (fun x s=>by simp only[B,mC,mB,mS,mO,mN];kernel_rfl)
end Xfh
namespace Xek
def pts:List PT:=[.cs Xp,.cs I64]
def FS:FS:=Yc6 [.sh,.sh] pts (fun x=>Xek x.1 x.2.1) fun t=>⟨[.cs Xn t],[]⟩
theorem ok:Ycv PR 6 FS:=
 Yvf Xe Xd Proofs.Tryz.f6 ⟨[2],[],[],0⟩ (.R (.R (.R (.R (.R (.L (.R (.one (.fr 0))))))))) (G:=G) Gok (L:=mkL [(0,Xfh.fr)]) (l:=[(0,.loop Xfh.c)]) ⟨Lam.cons Xfh.ok,trivial⟩
  (fun x=>by simp only[Xek,mC,mB,mS,mO,mN];kernel_rfl)
end Xek
def Xel.B (v2:Int) (v:Fs_) (v6:Xj) (v5:Int):Option (Int⊕((Xj⊕Unit))):=
 cond (decide (v5<(v.1.length:Int))) (cond (inB v5 v.1.length) ((Xdr (v.1.getD v5.toNat Xc).2.2.2.1 v2).bind fun v7=>cond v7 ((Xek v v5).bind fun v8=>some (.inr (.inl v8))) (some (.inl (w64 (v5+1))))) none) (some (.inr (.inr ())))
def Xel (v2:Int) (v:Fs_) (v6:Xj):Int→Option ((Xj⊕Unit)):=
 Yap fun s=>Xel.B v2 v v6 s
def Xdt (v:Fs_) (v2:Int):Option Xj:=
 (Xff v).bind fun v3=>cond (v3 != 0) (some (v3,[],())) ((Xan v2 0 19).bind fun v4=>cond (!v4) (some (3,[],())) ((Xel v2 v (0,[],()) 0).bind fun v9=>sel v9 (fun v10=>some v10) (fun v11=>some (4,[],()))))
namespace Xdt
def G:Gam:=mkG [(15,Xff.FS),(26,Xan.FS),(27,Xdr.FS),(6,Xek.FS)]
theorem Gok:GOk PR G:=.cons Xff.ok (.cons Xan.ok (.cons Xdr.ok (.cons Xek.ok .nil)))
end Xdt
namespace Xel
noncomputable def c:=Yal (Yah Proofs.Tryz.f11) [1,1,1,0,1,0,0]
def sp:SP:=⟨[(1,.cs I64),(2,.pt Xp),(4,.loc 4 []),(6,.cs I64)],[(4,.mem,.cd Xn)]⟩
def fr:=Yig sp (fun x s=>Xel.B x.1.1 x.1.2.1 x.2.1 s) (fun x=>x.1.2.2.2.1) fun x (oo0:(Xj⊕Unit)) _ kk0=>sel oo0 (fun bb0=>kk0 (.rt) ⟨[(4,.loc 4 [])],[(4,some ⟨.mem,.cd Xn bb0⟩)]⟩) (fun cc0=>kk0 (.ex 0) ⟨[(4,.loc 4 [])],[(4,some ⟨.mem,.cd Xn x.2.1⟩)]⟩)
theorem ok:Ya6 PR 35 2 (.loop c) fr:=
 Yr7 Xe Xd ⟨[2],[],[],0⟩ .no (G:=Xdt.G) Xdt.Gok (L:=mkL []) (l:=[]) hT [(0,([4],[4]))] ([4],[4]) (fun x s=>((x.1.1,x.1.2.1,x.1.2.2.1,s,x.1.2.2.2.2),x.2))
  (fun x s=>by simp only[B,mC,mB,mS,mO,mN];kernel_rfl)
end Xel
namespace Xdt
def pts:List PT:=[.cs Xp,.cs I64]
def FS:FS:=Yc6 [.sh,.sh] pts (fun x=>Xdt x.1 x.2.1) fun t=>⟨[.cs Xn t],[]⟩
theorem ok:Ycv PR 11 FS:=
 Yvf Xe Xd Proofs.Tryz.f11 ⟨[2],[],[],0⟩ (.R (.R (.R (.L (.R (.one (.fr 0))))))) (G:=G) Gok (L:=mkL [(0,Xel.fr)]) (l:=[(0,.loop Xel.c)]) ⟨Lam.cons Xel.ok,trivial⟩
  (fun x=>by simp only[Xdt,mC,mB,mS,mO,mN];kernel_rfl)
end Xdt
def Xao (v:Int) (v2:Int) (v3:Int):Option Bool:=
 some (cond (decide (v≥v2)) (decide (v≤v3)) false)
namespace Xao
def pts:List PT:=[.cs I64,.cs I64,.cs I64]
def FS:FS:=Yc6 [.sh,.sh,.sh] pts (fun x=>Xao x.1 x.2.1 x.2.2.1) fun t=>⟨[.cs .bool t],[]⟩
theorem ok:Ycv PR 28 FS:=
 Yvf Xe Xd Proofs.Tryz.f28 h0 .no (G:=(mkG [])) .nil (L:=mkL []) (l:=[]) hT
  (fun x=>by simp only[Xao,mC,mB,mS,mO,mN];kernel_rfl)
end Xao
def Xg6 (v:List Int):Option Int:=
 some (v.length:Int)
namespace Xg6
def pts:List PT:=[.cs SI]
def FS:FS:=Yc6 [.sh] pts (fun x=>Xg6 x.1) fun t=>⟨[.cs I64 t],[]⟩
theorem ok:Ycv PR 119 FS:=
 Yvf Xe Xd Proofs.Tryz.f119 h0 .no (G:=(mkG [])) .nil (L:=mkL []) (l:=[]) hT
  (fun x=>by simp only[Xg6,mC,mB,mS,mO,mN];kernel_rfl)
end Xg6
def Xg7 (v:Int):Option Int:=
 cond (!((8:Int) == 0)) (some (w64 ((w64 ((w64 (v+8))-1)).tdiv 8))) none
namespace Xg7
def pts:List PT:=[.cs I64]
def FS:FS:=Yc6 [.sh] pts (fun x=>Xg7 x.1) fun t=>⟨[.cs I64 t],[]⟩
theorem ok:Ycv PR 120 FS:=
 Yvf Xe Xd Proofs.Tryz.f120 h0 .no (G:=(mkG [])) .nil (L:=mkL []) (l:=[]) hT
  (fun x=>by simp only[Xg7,mC,mB,mS,mO,mN];kernel_rfl)
end Xg7
def Xg8 (v:Int):Option Bool:=
 (Xao v 0 19).bind fun v2=>some (!v2)
namespace Xg8
def G:Gam:=mkG [(28,Xao.FS)]
def pts:List PT:=[.cs I64]
def FS:FS:=Yc6 [.sh] pts (fun x=>Xg8 x.1) fun t=>⟨[.cs .bool t],[]⟩
theorem ok:Ycv PR 122 FS:=
 Yvf Xe Xd Proofs.Tryz.f122 h0 .no (G:=G) (show GOk PR G from .cons Xao.ok .nil) (L:=mkL []) (l:=[]) hT
  (fun x=>by simp only[Xg8,mC,mB,mS,mO,mN];kernel_rfl)
end Xg8
def Xfi.B (v:List Int) (v2:Unit) (v3:Int) (v4:Int):Option (Int⊕((Int⊕Unit))):=
 cond (decide (v4<v3)) (cond (inB v4 v.length) ((Xg8 (v.getD v4.toNat 0)).bind fun v5=>cond v5 (some (.inr (.inl v4))) (some (.inl (w64 (v4+1))))) none) (some (.inr (.inr ())))
def Xfi (v:List Int) (v2:Unit) (v3:Int):Int→Option ((Int⊕Unit)):=
 Yap fun s=>Xfi.B v v2 v3 s
def Xfj (v:List Int) (v2:Unit):Option Int:=
 (Xfi v v2 (v.length:Int) 0).bind fun v6=>sel v6 (fun v7=>some v7) (fun v8=>some (-1))
namespace Xfj
def G:Gam:=mkG [(122,Xg8.FS)]
theorem Gok:GOk PR G:=.cons Xg8.ok .nil
end Xfj
namespace Xfi
noncomputable def c:=Yal (Yah Proofs.Tryz.f135) [1,0,1,0,0]
def sp:SP:=⟨[(0,.cs SI),(1,.clo 122 (.cs .unit)),(7,.cs I64),(8,.cs I64)],[]⟩
def fr:=Yig sp (fun x s=>Xfi.B x.1.1 x.1.2.1 x.1.2.2.1 s) (fun x=>x.1.2.2.2.1) fun x (oo0:(Int⊕Unit)) _ kk0=>sel oo0 (fun bb0=>kk0 (.rt) ⟨[(4,.cs I64 bb0)],[]⟩) (fun cc0=>kk0 (.ex 0) ⟨[],[]⟩)
theorem ok:Ya6 PR 19 2 (.loop c) fr:=
 Yr7 Xe Xd h0 .no (G:=Xfj.G) Xfj.Gok (L:=mkL []) (l:=[]) hT [(0,([],[]))] ([4],[]) (fun x s=>((x.1.1,x.1.2.1,x.1.2.2.1,s,x.1.2.2.2.2),x.2))
  (fun x s=>by simp only[B,mC,mB,mS,mO,mN];kernel_rfl)
end Xfi
namespace Xfj
def pts:List PT:=[.cs SI,.clo 122 (.cs .unit)]
def FS:FS:=Yc6 [.sh,.sh] pts (fun x=>Xfj x.1 x.2.1) fun t=>⟨[.cs I64 t],[]⟩
theorem ok:Ycv PR 135 FS:=
 Yvf Xe Xd Proofs.Tryz.f135 h0 (.R (.L (.R (.one (.fr 0))))) (G:=G) Gok (L:=mkL [(0,Xfi.fr)]) (l:=[(0,.loop Xfi.c)]) ⟨Lam.cons Xfi.ok,trivial⟩
  (fun x=>by simp only[Xfj,mC,mB,mS,mO,mN];kernel_rfl)
end Xfj
def Xgv (v:List Int) (v2:Unit):Option Bool:=
 (Xfj v v2).bind fun v3=>some (decide (v3≥0))
namespace Xgv
def G:Gam:=mkG [(135,Xfj.FS)]
def pts:List PT:=[.cs SI,.clo 122 (.cs .unit)]
def FS:FS:=Yc6 [.sh,.sh] pts (fun x=>Xgv x.1 x.2.1) fun t=>⟨[.cs .bool t],[]⟩
theorem ok:Ycv PR 121 FS:=
 Yvf Xe Xd Proofs.Tryz.f121 h0 .no (G:=G) (show GOk PR G from .cons Xfj.ok .nil) (L:=mkL []) (l:=[]) hT
  (fun x=>by simp only[Xgv,mC,mB,mS,mO,mN];kernel_rfl)
end Xgv
def Xfk.B (v:List Int) (v2:Int) (v3:Int) (v4:Int):Option (Int⊕((Int⊕Unit))):=
 cond (decide (v4<v3)) (cond (inB v4 v.length) (cond (v2 == (v.getD v4.toNat 0)) (some (.inr (.inl v4))) (some (.inl (w64 (v4+1))))) none) (some (.inr (.inr ())))
def Xfk (v:List Int) (v2:Int) (v3:Int):Int→Option ((Int⊕Unit)):=
 Yap fun s=>Xfk.B v v2 v3 s
def Xg9 (v:List Int) (v2:Int):Option Int:=
 (Xfk v v2 (v.length:Int) 0).bind fun v5=>sel v5 (fun v6=>some v6) (fun v7=>some (-1))
namespace Xfk
noncomputable def c:=Yal (Yah Proofs.Tryz.f47) [1,0,1,0,0]
def sp:SP:=⟨[(0,.cs SI),(1,.cs I64),(7,.cs I64),(8,.cs I64)],[]⟩
def fr:=Yig sp (fun x s=>Xfk.B x.1.1 x.1.2.1 x.1.2.2.1 s) (fun x=>x.1.2.2.2.1) fun x (oo0:(Int⊕Unit)) _ kk0=>sel oo0 (fun bb0=>kk0 (.rt) ⟨[(4,.cs I64 bb0)],[]⟩) (fun cc0=>kk0 (.ex 0) ⟨[],[]⟩)
theorem ok:Ya6 PR 19 2 (.loop c) fr:=
 Yr7 Xe Xd h0 .no (G:=(mkG [])) .nil (L:=mkL []) (l:=[]) hT [(0,([],[]))] ([4],[]) (fun x s=>((x.1.1,x.1.2.1,x.1.2.2.1,s,x.1.2.2.2.2),x.2))
  (fun x s=>by simp only[B,mC,mB,mS,mO,mN];kernel_rfl)
end Xfk
namespace Xg9
def pts:List PT:=[.cs SI,.cs I64]
def FS:FS:=Yc6 [.sh,.sh] pts (fun x=>Xg9 x.1 x.2.1) fun t=>⟨[.cs I64 t],[]⟩
theorem ok:Ycv PR 47 FS:=
 Yvf Xe Xd Proofs.Tryz.f47 h0 (.R (.L (.R (.one (.fr 0))))) (G:=(mkG [])) .nil (L:=mkL [(0,Xfk.fr)]) (l:=[(0,.loop Xfk.c)]) ⟨Lam.cons Xfk.ok,trivial⟩
  (fun x=>by simp only[Xg9,mC,mB,mS,mO,mN];kernel_rfl)
end Xg9
def Xcw (v:List Int) (v2:Int):Option Bool:=
 (Xg9 v v2).bind fun v3=>some (decide (v3≥0))
namespace Xcw
def G:Gam:=mkG [(47,Xg9.FS)]
def pts:List PT:=[.cs SI,.cs I64]
def FS:FS:=Yc6 [.sh,.sh] pts (fun x=>Xcw x.1 x.2.1) fun t=>⟨[.cs .bool t],[]⟩
theorem ok:Ycv PR 29 FS:=
 Yvf Xe Xd Proofs.Tryz.f29 h0 .no (G:=G) (show GOk PR G from .cons Xg9.ok .nil) (L:=mkL []) (l:=[]) hT
  (fun x=>by simp only[Xcw,mC,mB,mS,mO,mN];kernel_rfl)
end Xcw
def Xem.B (v:Xa) (v7:List Int) (v8:Int) (v9:Int):Option (Int⊕((Int⊕Unit))):=
 cond (decide (v9<v8)) (cond (inB v9 v7.length) (cond (decide ((0:Int)≤v9)&&decide (v9≤(v.2.2.2.1.length:Int))) ((Xcw ((v.2.2.2.1.take v9.toNat).drop 0) (v7.getD v9.toNat 0)).bind fun v10=>cond v10 (some (.inr (.inl 7))) (some (.inl (w64 (v9+1))))) none) none) (some (.inr (.inr ())))
def Xem (v:Xa) (v7:List Int) (v8:Int):Int→Option ((Int⊕Unit)):=
 Yap fun s=>Xem.B v v7 v8 s
def Xen (v:Xa):Option Int:=
 (Xao v.2.1 1 60).bind fun v2=>cond (!v2) (some 3) ((Xao v.2.2.1 0 32).bind fun v3=>cond (!v3) (some 3) ((Xg6 v.2.2.2.1).bind fun v4=>(Xg7 v.2.2.1).bind fun v5=>cond (v4 != v5) (some 1) ((Xgv v.2.2.2.1 ()).bind fun v6=>cond v6 (some 3) ((Xem v v.2.2.2.1 (v.2.2.2.1.length:Int) 0).bind fun v11=>sel v11 (fun v12=>some v12) (fun v13=>some 0)))))
namespace Xen
def G:Gam:=mkG [(28,Xao.FS),(119,Xg6.FS),(120,Xg7.FS),(121,Xgv.FS),(29,Xcw.FS)]
theorem Gok:GOk PR G:=.cons Xao.ok (.cons Xg6.ok (.cons Xg7.ok (.cons Xgv.ok (.cons Xcw.ok .nil))))
end Xen
namespace Xem
noncomputable def c:=Yal (Yah Proofs.Tryz.f100) [1,1,0,1,0,0]
def sp:SP:=⟨[(1,.pt Xb),(29,.cs SI),(30,.cs I64),(31,.cs I64)],[]⟩
def fr:=Yig sp (fun x s=>Xem.B x.1.1 x.1.2.1 x.1.2.2.1 s) (fun x=>x.1.2.2.2.1) fun x (oo0:(Int⊕Unit)) _ kk0=>sel oo0 (fun bb0=>kk0 (.rt) ⟨[(2,.cs I64 bb0)],[]⟩) (fun cc0=>kk0 (.ex 1) ⟨[],[]⟩)
theorem ok:Ya6 PR 43 1 (.loop c) fr:=
 Yr7 Xe Xd ⟨[1],[],[],0⟩ .no (G:=Xen.G) Xen.Gok (L:=mkL []) (l:=[]) hT [(1,([],[]))] ([2],[]) (fun x s=>((x.1.1,x.1.2.1,x.1.2.2.1,s,x.1.2.2.2.2),x.2))
  (fun x s=>by simp only[B,mC,mB,mS,mO,mN];kernel_rfl)
end Xem
namespace Xen
def pts:List PT:=[.cs Xb]
def FS:FS:=Yc6 [.sh] pts (fun x=>Xen x.1) fun t=>⟨[.cs I64 t],[]⟩
theorem ok:Ycv PR 100 FS:=
 Yvf Xe Xd Proofs.Tryz.f100 ⟨[1],[],[],0⟩ (.R (.R (.L (.R (.one (.fr 0)))))) (G:=G) Gok (L:=mkL [(0,Xem.fr)]) (l:=[(0,.loop Xem.c)]) ⟨Lam.cons Xem.ok,trivial⟩
  (fun x=>by simp only[Xen,mC,mB,mS,mO,mN];kernel_rfl)
end Xen
def Xfl.B (v:List UInt8) (v2:Int) (v3:Int):Option (Int⊕((Int⊕Unit))):=
 cond (decide (v3<v2)) (cond (inB v3 v.length) (cond (cond (!(decide (((v.getD v3.toNat 0).toNat:Int)<97))) (inB v3 v.length) true) ((some (cond (decide (((v.getD v3.toNat 0).toNat:Int)<97)) true (decide (((v.getD v3.toNat 0).toNat:Int)>122)))).bind fun v4=>cond v4 (some (.inr (.inl 5))) (some (.inl (w64 (v3+1))))) none) none) (some (.inr (.inr ())))
def Xfl (v:List UInt8) (v2:Int):Int→Option ((Int⊕Unit)):=
 Yap fun s=>Xfl.B v v2 s
def Xfm (v:List UInt8):Option Int:=
 cond (v == ([]:List UInt8)) (some 5) ((Xfl v (v.length:Int) 0).bind fun v5=>sel v5 (fun v6=>some v6) (fun v7=>cond (decide ((v.length:Int)>4)) (some 2) (some 0)))
namespace Xfl
noncomputable def c:=Yal (Yah Proofs.Tryz.f84) [1,1,0,1,0,0]
def sp:SP:=⟨[(0,.cs .str),(7,.cs I64),(8,.cs I64)],[]⟩
def fr:=Yig sp (fun x s=>Xfl.B x.1.1 x.1.2.1 s) (fun x=>x.1.2.2.1) fun x (oo0:(Int⊕Unit)) _ kk0=>sel oo0 (fun bb0=>kk0 (.rt) ⟨[(2,.cs I64 bb0)],[]⟩) (fun cc0=>kk0 (.ex 0) ⟨[(0,.cs .str x.1.1)],[]⟩)
theorem ok:Ya6 PR 25 1 (.loop c) fr:=
 Yr7 Xe Xd h0 .no (G:=(mkG [])) .nil (L:=mkL []) (l:=[]) hT [(0,([0],[]))] ([2],[]) (fun x s=>((x.1.1,x.1.2.1,s,x.1.2.2.2),x.2))
  (fun x s=>by simp only[B,mC,mB,mS,mO,mN];kernel_rfl)
end Xfl
namespace Xfm
def pts:List PT:=[.cs .str]
def FS:FS:=Yc6 [.sh] pts (fun x=>Xfm x.1) fun t=>⟨[.cs I64 t],[]⟩
theorem ok:Ycv PR 84 FS:=
 Yvf Xe Xd Proofs.Tryz.f84 h0 (.R (.R (.L (.R (.one (.fr 0)))))) (G:=(mkG [])) .nil (L:=mkL [(0,Xfl.fr)]) (l:=[(0,.loop Xfl.c)]) ⟨Lam.cons Xfl.ok,trivial⟩
  (fun x=>by simp only[Xfm,mC,mB,mS,mO,mN];kernel_rfl)
end Xfm
def Xeo.B (v:Xa) (v2:List Xf) (v3:Int) (v4:Int):Option (Int⊕((Int⊕Unit))):=
 cond (decide (v4<v3)) (cond (inB v4 v2.length) ((Xfm (v2.getD v4.toNat Xo).1).bind fun v5=>cond (v5 != 0) (some (.inr (.inl v5))) ((Xao (v2.getD v4.toNat Xo).2.1 0 9).bind fun v6=>cond (!v6) (some (.inr (.inl 3))) (cond (cond (decide (v4>0)) (inB (w64 (v4-1)) v.2.2.2.2.1.length) true) ((some (cond (decide (v4>0)) (!leB (v.2.2.2.2.1.getD (w64 (v4-1)).toNat Xo).1 (v2.getD v4.toNat Xo).1) false)).bind fun v7=>cond v7 (some (.inr (.inl 1))) (some (.inl (w64 (v4+1))))) none))) none) (some (.inr (.inr ())))
def Xeo (v:Xa) (v2:List Xf) (v3:Int):Int→Option ((Int⊕Unit)):=
 Yap fun s=>Xeo.B v v2 v3 s
def Xep (v:Xa):Option Int:=
 cond (decide ((v.2.2.2.2.1.length:Int)>6)) (some 2) ((Xeo v v.2.2.2.2.1 (v.2.2.2.2.1.length:Int) 0).bind fun v8=>sel v8 (fun v9=>some v9) (fun v10=>some 0))
namespace Xep
def G:Gam:=mkG [(84,Xfm.FS),(28,Xao.FS)]
theorem Gok:GOk PR G:=.cons Xfm.ok (.cons Xao.ok .nil)
end Xep
namespace Xeo
noncomputable def c:=Yal (Yah Proofs.Tryz.f101) [1,1,0,1,0,0]
def sp:SP:=⟨[(1,.pt Xb),(11,.cs (.sl Xm)),(12,.cs I64),(13,.cs I64)],[]⟩
def fr:=Yig sp (fun x s=>Xeo.B x.1.1 x.1.2.1 x.1.2.2.1 s) (fun x=>x.1.2.2.2.1) fun x (oo0:(Int⊕Unit)) _ kk0=>sel oo0 (fun bb0=>kk0 (.rt) ⟨[(2,.cs I64 bb0)],[]⟩) (fun cc0=>kk0 (.ex 0) ⟨[],[]⟩)
theorem ok:Ya6 PR 43 1 (.loop c) fr:=
 Yr7 Xe Xd ⟨[1],[],[],0⟩ .no (G:=Xep.G) Xep.Gok (L:=mkL []) (l:=[]) hT [(0,([],[]))] ([2],[]) (fun x s=>((x.1.1,x.1.2.1,x.1.2.2.1,s,x.1.2.2.2.2),x.2))
  (fun x s=>by simp only[B,mC,mB,mS,mO,mN];kernel_rfl)
end Xeo
namespace Xep
def pts:List PT:=[.cs Xb]
def FS:FS:=Yc6 [.sh] pts (fun x=>Xep x.1) fun t=>⟨[.cs I64 t],[]⟩
theorem ok:Ycv PR 101 FS:=
 Yvf Xe Xd Proofs.Tryz.f101 ⟨[1],[],[],0⟩ (.R (.R (.L (.R (.one (.fr 0)))))) (G:=G) Gok (L:=mkL [(0,Xeo.fr)]) (l:=[(0,.loop Xeo.c)]) ⟨Lam.cons Xeo.ok,trivial⟩
  (fun x=>by simp only[Xep,mC,mB,mS,mO,mN];kernel_rfl)
end Xep
def Xgw (v:Xa):Option Int:=
 (some (cond (cond (v.2.1 == 0) (v.2.2.1 == 0) false) ((v.2.2.2.1.length:Int) == 0) false)).bind fun v2=>(Xao v.1 0 2).bind fun v3=>cond (!v3) (some 1) (cond (cond (v.1 != 1) (!v2) false) (some 1) ((some (cond (v.1 != 2) (!((v.2.2.2.2.1.length:Int) == 0)) false)).bind fun v4=>cond v4 (some 1) (cond (v.1 == 1) ((Xen v).bind fun v5=>some v5) ((Xep v).bind fun v6=>some v6))))
namespace Xgw
def G:Gam:=mkG [(28,Xao.FS),(100,Xen.FS),(101,Xep.FS)]
def pts:List PT:=[.cs Xb]
def FS:FS:=Yc6 [.sh] pts (fun x=>Xgw x.1) fun t=>⟨[.cs I64 t],[]⟩
theorem ok:Ycv PR 89 FS:=
 Yvf Xe Xd Proofs.Tryz.f89 ⟨[1],[],[],0⟩ .no (G:=G) (show GOk PR G from .cons Xao.ok (.cons Xen.ok (.cons Xep.ok .nil))) (L:=mkL []) (l:=[]) hT
  (fun x=>by simp only[Xgw,mC,mB,mS,mO,mN];kernel_rfl)
end Xgw
def Xfn.B (v:List Xa) (v2:Int) (v3:Int):Option (Int⊕((Int⊕Unit))):=
 cond (decide (v3<v2)) (cond (inB v3 v.length) ((Xgw (v.getD v3.toNat Xc)).bind fun v4=>cond (v4 != 0) (some (.inr (.inl v4))) (some (.inl (w64 (v3+1))))) none) (some (.inr (.inr ())))
def Xfn (v:List Xa) (v2:Int):Int→Option ((Int⊕Unit)):=
 Yap fun s=>Xfn.B v v2 s
def Xeq (v:List Xa):Option Int:=
 cond (decide ((v.length:Int)>10)) (some 2) ((Xfn v (v.length:Int) 0).bind fun v5=>sel v5 (fun v6=>some v6) (fun v7=>some 0))
namespace Xeq
def G:Gam:=mkG [(89,Xgw.FS)]
theorem Gok:GOk PR G:=.cons Xgw.ok .nil
end Xeq
namespace Xfn
noncomputable def c:=Yal (Yah Proofs.Tryz.f74) [1,1,0,1,0,0]
def sp:SP:=⟨[(9,.cs (.sl Xb)),(10,.cs I64),(11,.cs I64)],[]⟩
def fr:=Yig sp (fun x s=>Xfn.B x.1.1 x.1.2.1 s) (fun x=>x.1.2.2.1) fun x (oo0:(Int⊕Unit)) _ kk0=>sel oo0 (fun bb0=>kk0 (.rt) ⟨[(2,.cs I64 bb0)],[]⟩) (fun cc0=>kk0 (.ex 0) ⟨[],[]⟩)
theorem ok:Ya6 PR 21 1 (.loop c) fr:=
 Yr7 Xe Xd h0 .no (G:=Xeq.G) Xeq.Gok (L:=mkL []) (l:=[]) hT [(0,([],[]))] ([2],[]) (fun x s=>((x.1.1,x.1.2.1,s,x.1.2.2.2),x.2))
  (fun x s=>by simp only[B,mC,mB,mS,mO,mN];kernel_rfl)
end Xfn
namespace Xeq
def pts:List PT:=[.cs (.sl Xb)]
def FS:FS:=Yc6 [.sh] pts (fun x=>Xeq x.1) fun t=>⟨[.cs I64 t],[]⟩
theorem ok:Ycv PR 74 FS:=
 Yvf Xe Xd Proofs.Tryz.f74 h0 (.R (.R (.L (.R (.one (.fr 0)))))) (G:=G) Gok (L:=mkL [(0,Xfn.fr)]) (l:=[(0,.loop Xfn.c)]) ⟨Lam.cons Xfn.ok,trivial⟩
  (fun x=>by simp only[Xeq,mC,mB,mS,mO,mN];kernel_rfl)
end Xeq
def Xgx (v:Fs_):Option Int:=
 (Xeq v.1).bind fun v2=>cond (v2 != 0) (some v2) (cond (cond (!((v.1.length:Int) == 0)) (inB 0 v.1.length) true) ((some (cond ((v.1.length:Int) == 0) true ((v.1.getD (0:Int).toNat Xc).1 != 2))).bind fun v3=>cond (cond v3 true ((v.2.1.length:Int) != 20)) (some 1) (some 0)) none)
namespace Xgx
def G:Gam:=mkG [(74,Xeq.FS)]
def pts:List PT:=[.cs Xp]
def FS:FS:=Yc6 [.sh] pts (fun x=>Xgx x.1) fun t=>⟨[.cs I64 t],[]⟩
theorem ok:Ycv PR 57 FS:=
 Yvf Xe Xd Proofs.Tryz.f57 ⟨[1],[],[],0⟩ .no (G:=G) (show GOk PR G from .cons Xeq.ok .nil) (L:=mkL []) (l:=[]) hT
  (fun x=>by simp only[Xgx,mC,mB,mS,mO,mN];kernel_rfl)
end Xgx
def Xha (v:List Int):Option Bool:=
 some (decide ((v.length:Int)>8))
namespace Xha
def pts:List PT:=[.cs SB]
def FS:FS:=Yc6 [.sh] pts (fun x=>Xha x.1) fun t=>⟨[.cs .bool t],[]⟩
theorem ok:Ycv PR 59 FS:=
 Yvf Xe Xd Proofs.Tryz.f59 h0 .no (G:=(mkG [])) .nil (L:=mkL []) (l:=[]) hT
  (fun x=>by simp only[Xha,mC,mB,mS,mO,mN];kernel_rfl)
end Xha
def Xby.B (v:List (List Int)) (v2:Unit) (v3:Int) (v4:Int):Option (Int⊕((Int⊕Unit))):=
 cond (decide (v4<v3)) (cond (inB v4 v.length) ((Xha (v.getD v4.toNat [])).bind fun v5=>cond v5 (some (.inr (.inl v4))) (some (.inl (w64 (v4+1))))) none) (some (.inr (.inr ())))
def Xby (v:List (List Int)) (v2:Unit) (v3:Int):Int→Option ((Int⊕Unit)):=
 Yap fun s=>Xby.B v v2 v3 s
def Xbz (v:List (List Int)) (v2:Unit):Option Int:=
 (Xby v v2 (v.length:Int) 0).bind fun v6=>sel v6 (fun v7=>some v7) (fun v8=>some (-1))
namespace Xbz
def G:Gam:=mkG [(59,Xha.FS)]
theorem Gok:GOk PR G:=.cons Xha.ok .nil
end Xbz
namespace Xby
noncomputable def c:=Yal (Yah Proofs.Tryz.f75) [1,0,1,0,0]
def sp:SP:=⟨[(0,.cs (.sl SB)),(1,.clo 59 (.cs .unit)),(7,.cs I64),(8,.cs I64)],[]⟩
def fr:=Yig sp (fun x s=>Xby.B x.1.1 x.1.2.1 x.1.2.2.1 s) (fun x=>x.1.2.2.2.1) fun x (oo0:(Int⊕Unit)) _ kk0=>sel oo0 (fun bb0=>kk0 (.rt) ⟨[(4,.cs I64 bb0)],[]⟩) (fun cc0=>kk0 (.ex 0) ⟨[],[]⟩)
theorem ok:Ya6 PR 19 2 (.loop c) fr:=
 Yr7 Xe Xd h0 .no (G:=Xbz.G) Xbz.Gok (L:=mkL []) (l:=[]) hT [(0,([],[]))] ([4],[]) (fun x s=>((x.1.1,x.1.2.1,x.1.2.2.1,s,x.1.2.2.2.2),x.2))
  (fun x s=>by simp only[B,mC,mB,mS,mO,mN];kernel_rfl)
end Xby
namespace Xbz
def pts:List PT:=[.cs (.sl SB),.clo 59 (.cs .unit)]
def FS:FS:=Yc6 [.sh,.sh] pts (fun x=>Xbz x.1 x.2.1) fun t=>⟨[.cs I64 t],[]⟩
theorem ok:Ycv PR 75 FS:=
 Yvf Xe Xd Proofs.Tryz.f75 h0 (.R (.L (.R (.one (.fr 0))))) (G:=G) Gok (L:=mkL [(0,Xby.fr)]) (l:=[(0,.loop Xby.c)]) ⟨Lam.cons Xby.ok,trivial⟩
  (fun x=>by simp only[Xbz,mC,mB,mS,mO,mN];kernel_rfl)
end Xbz
def Xc3 (v:List (List Int)) (v2:Unit):Option Bool:=
 (Xbz v v2).bind fun v3=>some (decide (v3≥0))
namespace Xc3
def G:Gam:=mkG [(75,Xbz.FS)]
def pts:List PT:=[.cs (.sl SB),.clo 59 (.cs .unit)]
def FS:FS:=Yc6 [.sh,.sh] pts (fun x=>Xc3 x.1 x.2.1) fun t=>⟨[.cs .bool t],[]⟩
theorem ok:Ycv PR 58 FS:=
 Yvf Xe Xd Proofs.Tryz.f58 h0 .no (G:=G) (show GOk PR G from .cons Xbz.ok .nil) (L:=mkL []) (l:=[]) hT
  (fun x=>by simp only[Xc3,mC,mB,mS,mO,mN];kernel_rfl)
end Xc3
noncomputable def Xey (s:List Int):Option (List Int):=Ys1 s
def Xey.FS:FS:=Yc6 [.mu] [.cl .deep (.sl (.int .i64))] (fun x=>Xey x.1) fun y=>⟨[],[.cl .deep (.sl (.int .i64)) y]⟩
theorem Xey.ok:Ycv Go.Proofs.Tryz.prog 76 Xey.FS:=
 Yuz ⟨Go.Proofs.Tryz.f76,by kernel_rfl,by kernel_rfl,by kernel_rfl⟩ (fun blk off cap zs w h1 h2 h3=>Go.Proofs.AnyM.slices_Sort_int Go.Proofs.Tryz.Xhw blk off cap zs w h1 h2 h3) (fun p cap w=>Go.Proofs.AnyM.slices_Sort_int_none Go.Proofs.Tryz.Xhw p cap w)
noncomputable def Xez (s:List Int):Option (List Int):=Yp9 s
noncomputable def Xez.FS:FS:=Yc6 [.sh] [.cl .sh (.sl (.int .i64))] (fun x=>Xez x.1) fun y=>⟨[.cl .deep (.sl (.int .i64)) y],[]⟩
theorem Xez.ok:Ycv Go.Proofs.Tryz.prog 78 Xez.FS:=
 Yt5 (hn:=⟨[],[],[],0⟩) Xe Xd (fn:=Go.Proofs.Tryz.f78) (by kernel_rfl) (Yjj (by kernel_rfl)) (by kernel_rfl) (by kernel_rfl) .deep (.int .i64) 56 56 2 (by kernel_rfl) (by kernel_rfl) (by kernel_rfl) (by kernel_rfl) (by kernel_rfl) (by kernel_rfl) (by kernel_rfl) (by kernel_rfl) (fun xs=>by kernel_rfl) (fun xs=>by kernel_rfl) (fun xs=>by kernel_rfl) (fun xs=>by kernel_rfl)
def Xam.B (v5:Nat) (v6:Nat) (v4:Int) (v7:Int) (v8:List Int):Option ((Int×Int×List Int)⊕(Int×List Int)):=
 cond (decide (v7<(v6:Int))) (cond (inB v7 v6) (cond (inB (w64 (v7-1)) v6) ((some ((v8.getD (v5+v7.toNat) 0) != (v8.getD (v5+(w64 (v7-1)).toNat) 0))).bind fun v9=>cond v9 (cond (inB v7 v6) (cond (inB v4 v8.length) (some (.inl (w64 (v4+1),w64 (v7+1),v8.set v4.toNat (v8.getD (v5+v7.toNat) 0)))) none) none) (some (.inl (v4,w64 (v7+1),v8)))) none) none) (some (.inr (v4,v8)))
def Xam (v5:Nat) (v6:Nat):(Int×Int×List Int)→Option (Int×List Int):=
 Yap fun s=>Xam.B v5 v6 s.1 s.2.1 s.2.2
def X9.B (v:List Int) (v2:Int):Option (Int⊕(((Nat×Nat×List Int)⊕Unit))):=
 cond (decide (v2<(v.length:Int))) (cond (inB v2 v.length) (cond (inB (w64 (v2-1)) v.length) ((some ((v.getD v2.toNat 0) == (v.getD ((w64 (v2-1)).toNat) 0))).bind fun v3=>cond v3 (cond (decide ((0:Int)≤v2)&&decide (v2≤(v.length:Int))) ((Xam v2.toNat (v.length-v2.toNat) (v2,1,v)).bind fun v10=>cond (decide ((0:Int)≤v10.1)&&decide (v10.1≤(v10.2.length:Int))) ((some (splice v10.2 v10.1.toNat (List.replicate (v10.2.length-v10.1.toNat) 0))).bind fun v11=>cond (decide ((0:Int)≤v10.1)&&decide (v10.1≤(v11.length:Int))) (some (.inr (.inl (0,v10.1.toNat-0,v11)))) none) none) none) (some (.inl (w64 (v2+1))))) none) none) (some (.inr (.inr ())))
def X9 (v:List Int):Int→Option (((Nat×Nat×List Int)⊕Unit)):=
 Yap fun s=>X9.B v s
def Xc4 (v:List Int):Option (List Int):=
 cond (decide ((v.length:Int)<2)) (some v) ((X9 v 1).bind fun v12=>sel v12 (fun v13=>some ((v13.2.2.drop v13.1).take v13.2.1)) (fun v14=>some v))
namespace Xam
noncomputable def c:=Yal (Yah Proofs.Tryz.f77) [1,1,0,1,0,0,1,0,0,1,0,1,0,1,0,0]
def sp:SP:=⟨[(0,.seg 0 []),(3,.cs I64),(4,.sub 0 []),(5,.cs I64)],[(0,.reg,.cd SI)]⟩
def fr:=Yig sp (fun x s=>Xam.B x.1.2.2.1.2.1 x.1.2.2.1.2.2 s.1 s.2.1 s.2.2) (fun x=>(x.1.2.1,x.1.2.2.2.1,x.2.1)) fun x (bb0:Int×List Int) _ kk0=>kk0 (.ex 2) ⟨[(0,.seg 0 []),(3,.cs I64 bb0.1)],[sr 0 (.cd SI bb0.2)]⟩
theorem ok:Ya6 PR 61 1 (.loop c) fr:=
 Yu9 Xe Xd h0 [(2,([0,3],[0]))] (fun x s=>((x.1.1,s.1,x.1.2.2.1,s.2.1,x.1.2.2.2.2),(s.2.2,x.2.2)))
  (fun x s=>by simp only[B,mC,mB,mS,mO,mN];kernel_rfl)
end Xam
namespace X9
noncomputable def c:=Yal (Yah Proofs.Tryz.f77) [1,1,0,1,0,0]
def sp:SP:=⟨[(0,.seg 0 []),(3,.cs I64)],[(0,.reg,.cd SI)]⟩
def fr:=Yig sp (fun x s=>X9.B x.2.1 s) (fun x=>x.1.2.1) fun x (oo0:((Nat×Nat×List Int)⊕Unit)) _ kk0=>sel oo0 (fun bb0=>kk0 (.rt) ⟨[(2,.sub 0 [] bb0.1 bb0.2.1)],[sr 0 (.cd SI bb0.2.2)]⟩) (fun cc0=>kk0 (.ex 0) ⟨[(0,.seg 0 [])],[sr 0 (.cd SI x.2.1)]⟩)
theorem ok:Ya6 PR 61 1 (.loop c) fr:=
 Yr7 Xe Xd h0 (.R (.L (.one (.R (.L (.R (.L (.R (.one (.fr 1)))))))))) (G:=(mkG [])) .nil (L:=mkL [(1,Xam.fr)]) (l:=[(1,.loop Xam.c)]) ⟨Lam.cons Xam.ok,trivial⟩ [(0,([0],[0]))] ([2],[0]) (fun x s=>((x.1.1,s,x.1.2.2),x.2))
  (fun x s=>by simp only[B,mC,mB,mS,mO,mN];kernel_rfl)
end X9
namespace Xc4
def pts:List PT:=[.cd SI]
def FS:FS:=Yc6 [.mv] pts (fun x=>Xc4 x.1) fun t=>⟨[.cd SI t],[]⟩
theorem ok:Ycv PR 77 FS:=
 Yvf Xe Xd Proofs.Tryz.f77 h0 (.R (.R (.L (.R (.one (.fr 0)))))) (G:=(mkG [])) .nil (L:=mkL [(1,Xam.fr),(0,X9.fr)]) (l:=[(0,.loop X9.c)]) ⟨Lam.skip rfl (Lam.cons X9.ok),trivial⟩
  (fun x=>by simp only[Xc4,mC,mB,mS,mO,mN];kernel_rfl)
end Xc4
def Xa2.B (v:List Xa) (v2:Int) (v3:Int) (v4:List Int):Option ((Int×List Int)⊕(List Int)):=
 cond (decide (v3<v2)) (cond (inB v3 v.length) (cond (decide ((v4++(v.getD v3.toNat Xc).2.2.2.1).length≤2147483648)) (some (.inl (w64 (v3+1),v4++(v.getD v3.toNat Xc).2.2.2.1))) none) none) (some (.inr v4))
def Xa2 (v:List Xa) (v2:Int):(Int×List Int)→Option (List Int):=
 Yap fun s=>Xa2.B v v2 s.1 s.2
def Xa3 (v:List Xa):Option ((List Int)×Bool):=
 (Xa2 v (v.length:Int) (0,[])).bind fun v5=>(Xey v5).bind fun v6=>(Xez v6).bind fun v7=>(Xc4 v7).bind fun v8=>some (v6,(v8.length:Int) == (v6.length:Int))
namespace Xa3
def G:Gam:=mkG [(76,Xey.FS),(78,Xez.FS),(77,Xc4.FS)]
theorem Gok:GOk PR G:=.cons Xey.ok (.cons Xez.ok (.cons Xc4.ok .nil))
end Xa3
namespace Xa2
noncomputable def c:=Yal (Yah Proofs.Tryz.f60) [1,1,0,1,0,0]
def sp:SP:=⟨[(4,.seg 4 []),(7,.cs (.sl Xb)),(8,.cs I64),(9,.cs I64)],[(4,.reg,.cd SI)]⟩
def fr:=Yig sp (fun x s=>Xa2.B x.1.2.1 x.1.2.2.1 s.1 s.2) (fun x=>(x.1.2.2.2.1,x.2.1)) fun x (bb0:List Int) _ kk0=>kk0 (.ex 0) ⟨[(4,.seg 4 [])],[sr 4 (.cd SI bb0)]⟩
theorem ok:Ya6 PR 28 1 (.loop c) fr:=
 Yvh Xe Xd h0 (G:=Xa3.G) Xa3.Gok [(0,([4],[4]))] (fun x s=>((x.1.1,x.1.2.1,x.1.2.2.1,s.1,x.1.2.2.2.2),(s.2,x.2.2)))
  (fun x s=>by simp only[B,mC,mB,mS,mO,mN];kernel_rfl)
end Xa2
namespace Xa3
def pts:List PT:=[.cs (.sl Xb)]
def FS:FS:=Yc6 [.sh] pts (fun x=>Xa3 x.1) fun t=>⟨[.cd SI t.1,.cs .bool t.2],[]⟩
theorem ok:Ycv PR 60 FS:=
 Yvf Xe Xd Proofs.Tryz.f60 h0 (.R (.R (.L (.R (.one (.fr 0)))))) (G:=G) Gok (L:=mkL [(0,Xa2.fr)]) (l:=[(0,.loop Xa2.c)]) ⟨Lam.cons Xa2.ok,trivial⟩
  (fun x=>by simp only[Xa3,mC,mB,mS,mO,mN];kernel_rfl)
end Xa3
def Xb0 (v:List Xa):Option Int:=
 some (v.length:Int)
namespace Xb0
def pts:List PT:=[.cs (.sl Xb)]
def FS:FS:=Yc6 [.sh] pts (fun x=>Xb0 x.1) fun t=>⟨[.cs I64 t],[]⟩
theorem ok:Ycv PR 42 FS:=
 Yvf Xe Xd Proofs.Tryz.f42 h0 .no (G:=(mkG [])) .nil (L:=mkL []) (l:=[]) hT
  (fun x=>by simp only[Xb0,mC,mB,mS,mO,mN];kernel_rfl)
end Xb0
def Xat.B (v:Fs_) (v5:List Xa) (v6:Int) (v7:Int) (v9:List Xf) (v8:Int) (v10:Int):Option (Int⊕((Int⊕Unit))):=
 cond (decide (v10<v8)) (cond (inB v10 v9.length) ((Xb0 v.1).bind fun v11=>(some (decide ((v9.getD v10.toNat Xo).2.1≥v11))).bind fun v12=>cond (cond (!v12) (inB (v9.getD v10.toNat Xo).2.1 v.1.length) true) ((some (cond v12 true ((v.1.getD (v9.getD v10.toNat Xo).2.1.toNat Xc).1 == 0))).bind fun v13=>cond v13 (some (.inr (.inl 4))) (some (.inl (w64 (v10+1))))) none) none) (some (.inr (.inr ())))
def Xat (v:Fs_) (v5:List Xa) (v6:Int) (v7:Int) (v9:List Xf) (v8:Int):Int→Option ((Int⊕Unit)):=
 Yap fun s=>Xat.B v v5 v6 v7 v9 v8 s
def Xb1.B (v:Fs_) (v5:List Xa) (v6:Int) (v7:Int):Option (Int⊕((Int⊕Unit))):=
 cond (decide (v7<v6)) (cond (inB v7 v5.length) ((some ((v5.getD v7.toNat Xc).2.2.2.2.1.length:Int)).bind fun v8=>(Xat v v5 v6 v7 (v5.getD v7.toNat Xc).2.2.2.2.1 v8 0).bind fun v14=>sel v14 (fun v15=>some (.inr (.inl v15))) (fun v16=>some (.inl (w64 (v7+1))))) none) (some (.inr (.inr ())))
def Xb1 (v:Fs_) (v5:List Xa) (v6:Int):Int→Option ((Int⊕Unit)):=
 Yap fun s=>Xb1.B v v5 v6 s
def Xap (v:Fs_):Option Int:=
 (Xgx v).bind fun v2=>cond (v2 != 0) (some v2) ((Xc3 v.2.1 ()).bind fun v3=>cond v3 (some 2) ((Xa3 v.1).bind fun v4=>cond (!v4.2) (some 7) ((Xb1 v v.1 (v.1.length:Int) 0).bind fun v17=>sel v17 (fun v18=>some v18) (fun v19=>some 0))))
namespace Xap
def G:Gam:=mkG [(57,Xgx.FS),(58,Xc3.FS),(60,Xa3.FS),(42,Xb0.FS)]
theorem Gok:GOk PR G:=.cons Xgx.ok (.cons Xc3.ok (.cons Xa3.ok (.cons Xb0.ok .nil)))
end Xap
namespace Xat
noncomputable def c:=Yal (Yah Proofs.Tryz.f39) [1,1,1,1,0,1,0,0,1,1,0,0,1,1,0,0]
def sp:SP:=⟨[(1,.pt Xp),(27,.cs (.sl Xb)),(28,.cs I64),(29,.cs I64),(34,.cs (.sl Xm)),(35,.cs I64),(36,.cs I64)],[]⟩
def fr:=Yig sp (fun x s=>Xat.B x.1.1 x.1.2.1 x.1.2.2.1 x.1.2.2.2.1 x.1.2.2.2.2.1 x.1.2.2.2.2.2.1 s) (fun x=>x.1.2.2.2.2.2.2.1) fun x (oo0:(Int⊕Unit)) _ kk0=>sel oo0 (fun bb0=>kk0 (.rt) ⟨[(2,.cs I64 bb0)],[]⟩) (fun cc0=>kk0 (.ex 2) ⟨[(1,.pt Xp x.1.1),(27,.cs (.sl Xb) x.1.2.1),(28,.cs I64 x.1.2.2.1),(29,.cs I64 x.1.2.2.2.1)],[]⟩)
theorem ok:Ya6 PR 58 1 (.loop c) fr:=
 Yr7 Xe Xd ⟨[1],[],[],0⟩ .no (G:=Xap.G) Xap.Gok (L:=mkL []) (l:=[]) hT [(2,([1,27,28,29],[]))] ([2],[]) (fun x s=>((x.1.1,x.1.2.1,x.1.2.2.1,x.1.2.2.2.1,x.1.2.2.2.2.1,x.1.2.2.2.2.2.1,s,x.1.2.2.2.2.2.2.2),x.2))
  (fun x s=>by simp only[B,mC,mB,mS,mO,mN];kernel_rfl)
end Xat
namespace Xb1
noncomputable def c:=Yal (Yah Proofs.Tryz.f39) [1,1,1,1,0,1,0,0]
def sp:SP:=⟨[(1,.pt Xp),(27,.cs (.sl Xb)),(28,.cs I64),(29,.cs I64)],[]⟩
def fr:=Yig sp (fun x s=>Xb1.B x.1.1 x.1.2.1 x.1.2.2.1 s) (fun x=>x.1.2.2.2.1) fun x (oo0:(Int⊕Unit)) _ kk0=>sel oo0 (fun bb0=>kk0 (.rt) ⟨[(2,.cs I64 bb0)],[]⟩) (fun cc0=>kk0 (.ex 0) ⟨[],[]⟩)
theorem ok:Ya6 PR 58 1 (.loop c) fr:=
 Yr7 Xe Xd ⟨[1],[],[],0⟩ (.R (.R (.L (.one (.R (.R (.one (.fr 1)))))))) (G:=Xap.G) Xap.Gok (L:=mkL [(1,Xat.fr)]) (l:=[(1,.loop Xat.c)]) ⟨Lam.cons Xat.ok,trivial⟩ [(0,([],[]))] ([2],[]) (fun x s=>((x.1.1,x.1.2.1,x.1.2.2.1,s,x.1.2.2.2.2),x.2))
  (fun x s=>by simp only[B,mC,mB,mS,mO,mN];kernel_rfl)
end Xb1
namespace Xap
def pts:List PT:=[.cs Xp]
def FS:FS:=Yc6 [.sh] pts (fun x=>Xap x.1) fun t=>⟨[.cs I64 t],[]⟩
theorem ok:Ycv PR 39 FS:=
 Yvf Xe Xd Proofs.Tryz.f39 ⟨[1],[],[],0⟩ (.R (.R (.R (.R (.L (.R (.one (.fr 0)))))))) (G:=G) Gok (L:=mkL [(1,Xat.fr),(0,Xb1.fr)]) (l:=[(0,.loop Xb1.c)]) ⟨Lam.skip rfl (Lam.cons Xb1.ok),trivial⟩
  (fun x=>by simp only[Xap,mC,mB,mS,mO,mN];kernel_rfl)
end Xap
def Xau.B (v:List Xa) (v8:List Xf) (v9:Int) (v7:List Bool) (v10:Int) (v11:List Int):Option ((Int×List Int)⊕(List Int)):=
 cond (decide (v10<v9)) (cond (inB v10 v8.length) (cond (decide ((v11++([(v8.getD v10.toNat Xo).2.1])).length≤2147483648)) (some (.inl (w64 (v10+1),v11++([(v8.getD v10.toNat Xo).2.1])))) none) none) (some (.inr v11))
def Xau (v:List Xa) (v8:List Xf) (v9:Int) (v7:List Bool):(Int×List Int)→Option (List Int):=
 Yap fun s=>Xau.B v v8 v9 v7 s.1 s.2
def Xah.B (v:List Xa) (v3:List Bool) (v4:List Int):Option (((List Bool)×List Int)⊕(List Bool)):=
 cond (decide ((v4.length:Int)>0)) (cond (inB (w64 ((v4.length:Int)-1)) v4.length) (cond (decide ((0:Int)≤(w64 ((v4.length:Int)-1)))&&decide ((w64 ((v4.length:Int)-1))≤(v4.length:Int))) ((some ((v4.drop 0).take (((w64 ((v4.length:Int)-1)).toNat)-0))).bind fun v5=>cond (inB (v4.getD ((w64 ((v4.length:Int)-1)).toNat) 0) v3.length) ((some (v3.getD ((v4.getD ((w64 ((v4.length:Int)-1)).toNat) 0).toNat) false)).bind fun v6=>cond v6 (some (.inl (v3,v5))) (cond (inB (v4.getD ((w64 ((v4.length:Int)-1)).toNat) 0) v3.length) ((some (v3.set ((v4.getD ((w64 ((v4.length:Int)-1)).toNat) 0).toNat) true)).bind fun v7=>cond (inB (v4.getD ((w64 ((v4.length:Int)-1)).toNat) 0) v.length) ((some (v.getD (v4.getD ((w64 ((v4.length:Int)-1)).toNat) 0).toNat Xc).2.2.2.2.1).bind fun v8=>(Xau v v8 (v8.length:Int) v7 (0,v5)).bind fun v12=>some (.inl (v7,v12))) none) none)) none) none) none) (some (.inr v3))
def Xah (v:List Xa):((List Bool)×List Int)→Option (List Bool):=
 Yap fun s=>Xah.B v s.1 s.2
def Xa4.B (v14:Int) (v13:List Bool) (v15:Int) (v16:List Int):Option ((Int×List Int)⊕(List Int)):=
 cond (decide (v15<v14)) (cond (inB v15 v13.length) (cond (v13.getD v15.toNat false) (cond (decide ((v16++([v15])).length≤2147483648)) (some (.inl (w64 (v15+1),v16++([v15])))) none) (some (.inl (w64 (v15+1),v16)))) none) (some (.inr v16))
def Xa4 (v14:Int) (v13:List Bool):(Int×List Int)→Option (List Int):=
 Yap fun s=>Xa4.B v14 v13 s.1 s.2
def Xcp (v:List Xa) (v2:Int):Option (List Int):=
 cond (decide ((0:Int)≤(v.length:Int))&&(decide ((v.length:Int)≤(v.length:Int))&&decide ((v.length:Int)≤2147483648))) ((Xah v (List.replicate (v.length:Int).toNat false,[v2])).bind fun v13=>(Xa4 (v13.length:Int) v13 (0,[])).bind fun v17=>some v17) none
namespace Xau
noncomputable def c:=Yal (Yah Proofs.Tryz.f61) [1,1,1,0,0,0,1,0,1,1,1,1,1,0,0]
def sp:SP:=⟨[(0,.cs (.sl Xb)),(5,.seg 5 []),(6,.seg 6 []),(43,.cs (.sl Xm)),(44,.cs I64),(45,.cs I64)],[(5,.reg,.cd (.sl .bool)),(6,.reg,.cd SI)]⟩
def fr:=Yig sp (fun x s=>Xau.B x.1.1 x.1.2.2.2.1 x.1.2.2.2.2.1 x.2.1 s.1 s.2) (fun x=>(x.1.2.2.2.2.2.1,x.2.2.1)) fun x (bb0:List Int) _ kk0=>kk0 (.ex 2) ⟨[(0,.cs (.sl Xb) x.1.1),(5,.seg 5 []),(6,.seg 6 [])],[sr 5 (.cd (.sl .bool) x.2.1),sr 6 (.cd SI bb0)]⟩
theorem ok:Ya6 PR 69 2 (.loop c) fr:=
 Yu9 Xe Xd h0 [(2,([0,5,6],[5,6]))] (fun x s=>((x.1.1,x.1.2.1,x.1.2.2.1,x.1.2.2.2.1,x.1.2.2.2.2.1,s.1,x.1.2.2.2.2.2.2),(x.2.1,s.2,x.2.2.2)))
  (fun x s=>by simp only[B,mC,mB,mS,mO,mN];kernel_rfl)
end Xau
namespace Xah
noncomputable def c:=Yal (Yah Proofs.Tryz.f61) [1,1,1,0,0,0]
def sp:SP:=⟨[(0,.cs (.sl Xb)),(5,.seg 5 []),(6,.seg 6 [])],[(5,.reg,.cd (.sl .bool)),(6,.reg,.cd SI)]⟩
def fr:=Yig sp (fun x s=>Xah.B x.1.1 s.1 s.2) (fun x=>(x.2.1,x.2.2.1)) fun x (bb0:List Bool) _ kk0=>kk0 (.ex 0) ⟨[(5,.seg 5 [])],[sr 5 (.cd (.sl .bool) bb0)]⟩
theorem ok:Ya6 PR 69 2 (.loop c) fr:=
 Yvg Xe Xd h0 (.R (.one (.R (.R (.R (.R (.R (.one (.fr 1))))))))) (L:=mkL [(1,Xau.fr)]) (l:=[(1,.loop Xau.c)]) ⟨Lam.cons Xau.ok,trivial⟩ [(0,([5],[5]))] (fun x s=>(x.1,(s.1,s.2,x.2.2.2)))
  (fun x s=>by simp only[B,mC,mB,mS,mO,mN];kernel_rfl)
end Xah
namespace Xa4
noncomputable def c:=Yal (Yah Proofs.Tryz.f61) [1,1,1,1,1,0,1,0,0]
def sp:SP:=⟨[(10,.seg 10 []),(55,.seg 5 []),(56,.cs I64),(57,.cs I64)],[(5,.reg,.cd (.sl .bool)),(10,.reg,.cd SI)]⟩
def fr:=Yig sp (fun x s=>Xa4.B x.1.2.2.1 x.2.1 s.1 s.2) (fun x=>(x.1.2.2.2.1,x.2.2.1)) fun x (bb0:List Int) _ kk0=>kk0 (.ex 4) ⟨[(10,.seg 10 [])],[sr 10 (.cd SI bb0)]⟩
theorem ok:Ya6 PR 69 2 (.loop c) fr:=
 Yu9 Xe Xd h0 [(4,([10],[10]))] (fun x s=>((x.1.1,x.1.2.1,x.1.2.2.1,s.1,x.1.2.2.2.2),(x.2.1,s.2,x.2.2.2)))
  (fun x s=>by simp only[B,mC,mB,mS,mO,mN];kernel_rfl)
end Xa4
namespace Xcp
def pts:List PT:=[.cs (.sl Xb),.cs I64]
def FS:FS:=Yc6 [.sh,.sh] pts (fun x=>Xcp x.1 x.2.1) fun t=>⟨[.cd SI t],[]⟩
theorem ok:Ycv PR 61 FS:=
 Yvf Xe Xd Proofs.Tryz.f61 h0 (.R (.R (.R (.two (.one (.fr 0)) (.R (.L (.R (.one (.fr 2))))))))) (G:=(mkG [])) .nil (L:=mkL [(1,Xau.fr),(0,Xah.fr),(2,Xa4.fr)]) (l:=[(0,.loop Xah.c),(2,.loop Xa4.c)]) ⟨Lam.skip rfl (Lam.cons Xah.ok),Lam.skip rfl (Lam.skip rfl (Lam.cons Xa4.ok)),trivial⟩
  (fun x=>by simp only[Xcp,mC,mB,mS,mO,mN];kernel_rfl)
end Xcp
def Xav.B (v2:Int) (v:List Xa) (v4:Int) (v5:Int) (v8:List Xf) (v6:Int) (v7:Int) (v9:Int):Option ((Int×Int)⊕Int):=
 cond (decide (v9<v6)) (cond (inB v9 v8.length) (cond ((v8.getD v9.toNat Xo).2.1 == v2) (some (.inl (w64 (v7+1),w64 (v9+1)))) (some (.inl (v7,w64 (v9+1))))) none) (some (.inr v7))
def Xav (v2:Int) (v:List Xa) (v4:Int) (v5:Int) (v8:List Xf) (v6:Int):(Int×Int)→Option Int:=
 Yap fun s=>Xav.B v2 v v4 v5 v8 v6 s.1 s.2
def Xa5.B (v2:Int) (v:List Xa) (v4:Int) (v3:Int) (v5:Int):Option ((Int×Int)⊕Int):=
 cond (decide (v5<v4)) (cond (inB v5 v.length) ((some ((v.getD v5.toNat Xc).2.2.2.2.1.length:Int)).bind fun v6=>(Xav v2 v v4 v5 (v.getD v5.toNat Xc).2.2.2.2.1 v6 (v3,0)).bind fun v10=>some (.inl (v10,w64 (v5+1)))) none) (some (.inr v3))
def Xa5 (v2:Int) (v:List Xa) (v4:Int):(Int×Int)→Option Int:=
 Yap fun s=>Xa5.B v2 v v4 s.1 s.2
def Xc5 (v:List Xa) (v2:Int):Option Int:=
 (Xa5 v2 v (v.length:Int) (0,0)).bind fun v11=>some v11
namespace Xav
noncomputable def c:=Yal (Yah Proofs.Tryz.f62) [1,1,0,1,0,0,1,1,0,0,1,1,0,0]
def sp:SP:=⟨[(1,.cs I64),(5,.cs I64),(10,.cs (.sl Xb)),(11,.cs I64),(12,.cs I64),(17,.cs (.sl Xm)),(18,.cs I64),(19,.cs I64)],[]⟩
def fr:=Yig sp (fun x s=>Xav.B x.1.1 x.1.2.2.1 x.1.2.2.2.1 x.1.2.2.2.2.1 x.1.2.2.2.2.2.1 x.1.2.2.2.2.2.2.1 s.1 s.2) (fun x=>(x.1.2.1,x.1.2.2.2.2.2.2.2.1)) fun x (bb0:Int) _ kk0=>kk0 (.ex 2) ⟨[(1,.cs I64 x.1.1),(5,.cs I64 bb0),(10,.cs (.sl Xb) x.1.2.2.1),(11,.cs I64 x.1.2.2.2.1),(12,.cs I64 x.1.2.2.2.2.1)],[]⟩
theorem ok:Ya6 PR 32 2 (.loop c) fr:=
 Yu9 Xe Xd h0 [(2,([1,5,10,11,12],[]))] (fun x s=>((x.1.1,s.1,x.1.2.2.1,x.1.2.2.2.1,x.1.2.2.2.2.1,x.1.2.2.2.2.2.1,x.1.2.2.2.2.2.2.1,s.2,x.1.2.2.2.2.2.2.2.2),x.2))
  (fun x s=>by simp only[B,mC,mB,mS,mO,mN];kernel_rfl)
end Xav
namespace Xa5
noncomputable def c:=Yal (Yah Proofs.Tryz.f62) [1,1,0,1,0,0]
def sp:SP:=⟨[(1,.cs I64),(5,.cs I64),(10,.cs (.sl Xb)),(11,.cs I64),(12,.cs I64)],[]⟩
def fr:=Yig sp (fun x s=>Xa5.B x.1.1 x.1.2.2.1 x.1.2.2.2.1 s.1 s.2) (fun x=>(x.1.2.1,x.1.2.2.2.2.1)) fun x (bb0:Int) _ kk0=>kk0 (.ex 0) ⟨[(5,.cs I64 bb0)],[]⟩
theorem ok:Ya6 PR 32 2 (.loop c) fr:=
 Yvg Xe Xd h0 (.R (.R (.L (.one (.R (.R (.one (.fr 1)))))))) (L:=mkL [(1,Xav.fr)]) (l:=[(1,.loop Xav.c)]) ⟨Lam.cons Xav.ok,trivial⟩ [(0,([5],[]))] (fun x s=>((x.1.1,s.1,x.1.2.2.1,x.1.2.2.2.1,s.2,x.1.2.2.2.2.2),x.2))
  (fun x s=>by simp only[B,mC,mB,mS,mO,mN];kernel_rfl)
end Xa5
namespace Xc5
def pts:List PT:=[.cs (.sl Xb),.cs I64]
def FS:FS:=Yc6 [.sh,.sh] pts (fun x=>Xc5 x.1 x.2.1) fun t=>⟨[.cs I64 t],[]⟩
theorem ok:Ycv PR 62 FS:=
 Yvf Xe Xd Proofs.Tryz.f62 h0 (.R (.R (.L (.R (.one (.fr 0)))))) (G:=(mkG [])) .nil (L:=mkL [(1,Xav.fr),(0,Xa5.fr)]) (l:=[(0,.loop Xa5.c)]) ⟨Lam.skip rfl (Lam.cons Xa5.ok),trivial⟩
  (fun x=>by simp only[Xc5,mC,mB,mS,mO,mN];kernel_rfl)
end Xc5
def Xb2.B (v:Fs_) (v3:List Xa) (v4:Int) (v2:List Int) (v5:Int):Option (Int⊕((Int⊕Unit))):=
 cond (decide (v5<v4)) (cond (inB v5 v3.length) ((Xc5 v.1 v5).bind fun v6=>(some (cond ((v3.getD v5.toNat Xc).1 == 1) ((v3.getD v5.toNat Xc).2.1 != v6) false)).bind fun v7=>cond v7 (some (.inr (.inl 1))) ((some (cond ((v3.getD v5.toNat Xc).1 == 2) (v5 == 0) false)).bind fun v8=>cond (cond v8 (v6 != 0) false) (some (.inr (.inl 1))) ((some (cond ((v3.getD v5.toNat Xc).1 == 2) (decide (v5>0)) false)).bind fun v9=>cond (cond v9 (v6 != 1) false) (some (.inr (.inl 1))) (cond ((v3.getD v5.toNat Xc).1 != 0) ((Xcw v2 v5).bind fun v10=>cond (!v10) (some (.inr (.inl 1))) (some (.inl (w64 (v5+1))))) (some (.inl (w64 (v5+1)))))))) none) (some (.inr (.inr ())))
def Xb2 (v:Fs_) (v3:List Xa) (v4:Int) (v2:List Int):Int→Option ((Int⊕Unit)):=
 Yap fun s=>Xb2.B v v3 v4 v2 s
def Xa6 (v:Fs_):Option Int:=
 (Xcp v.1 0).bind fun v2=>(Xb2 v v.1 (v.1.length:Int) v2 0).bind fun v11=>sel v11 (fun v12=>some v12) (fun v13=>some 0)
namespace Xa6
def G:Gam:=mkG [(61,Xcp.FS),(62,Xc5.FS),(29,Xcw.FS)]
theorem Gok:GOk PR G:=.cons Xcp.ok (.cons Xc5.ok (.cons Xcw.ok .nil))
end Xa6
namespace Xb2
noncomputable def c:=Yal (Yah Proofs.Tryz.f40) [1,1,0,1,0,0]
def sp:SP:=⟨[(1,.pt Xp),(3,.seg 3 []),(12,.cs (.sl Xb)),(13,.cs I64),(14,.cs I64)],[(3,.reg,.cd SI)]⟩
def fr:=Yig sp (fun x s=>Xb2.B x.1.1 x.1.2.2.1 x.1.2.2.2.1 x.2.1 s) (fun x=>x.1.2.2.2.2.1) fun x (oo0:(Int⊕Unit)) _ kk0=>sel oo0 (fun bb0=>kk0 (.rt) ⟨[(2,.cs I64 bb0)],[]⟩) (fun cc0=>kk0 (.ex 0) ⟨[],[]⟩)
theorem ok:Ya6 PR 66 1 (.loop c) fr:=
 Yr7 Xe Xd ⟨[1],[],[],0⟩ .no (G:=Xa6.G) Xa6.Gok (L:=mkL []) (l:=[]) hT [(0,([],[]))] ([2],[]) (fun x s=>((x.1.1,x.1.2.1,x.1.2.2.1,x.1.2.2.2.1,s,x.1.2.2.2.2.2),x.2))
  (fun x s=>by simp only[B,mC,mB,mS,mO,mN];kernel_rfl)
end Xb2
namespace Xa6
def pts:List PT:=[.cs Xp]
def FS:FS:=Yc6 [.sh] pts (fun x=>Xa6 x.1) fun t=>⟨[.cs I64 t],[]⟩
theorem ok:Ycv PR 40 FS:=
 Yvf Xe Xd Proofs.Tryz.f40 ⟨[1],[],[],0⟩ (.R (.R (.L (.R (.one (.fr 0)))))) (G:=G) Gok (L:=mkL [(0,Xb2.fr)]) (l:=[(0,.loop Xb2.c)]) ⟨Lam.cons Xb2.ok,trivial⟩
  (fun x=>by simp only[Xa6,mC,mB,mS,mO,mN];kernel_rfl)
end Xa6
def Xaw.B (v:List Xa) (v2:Int) (v3:Int) (v7:List Int) (v6:Int) (v4:List Int) (v10:Xa) (v8:Int) (v9:List Int):Option ((Int×List Int)⊕(List Int)):=
 cond (decide (v8<v6)) (cond (inB v8 v7.length) ((some (cond (decide ((w64 (v10.2.2.1-(w64 (v8*8))))<8)) (w64 (v10.2.2.1-(w64 (v8*8)))) 8)).bind fun v11=>cond (inB (v7.getD v8.toNat 0) 20) (some (.inl (w64 (v8+1),v9.set ((v7.getD v8.toNat 0).toNat) v11))) none) none) (some (.inr v9))
def Xaw (v:List Xa) (v2:Int) (v3:Int) (v7:List Int) (v6:Int) (v4:List Int) (v10:Xa):(Int×List Int)→Option (List Int):=
 Yap fun s=>Xaw.B v v2 v3 v7 v6 v4 v10 s.1 s.2
def Xa7.B (v:List Xa) (v2:Int) (v4:List Int) (v3:Int) (v5:List Int):Option ((Int×List Int)⊕(List Int)):=
 cond (decide (v3<v2)) (cond (inB v3 v.length) ((some ((v.getD v3.toNat Xc).2.2.2.1.length:Int)).bind fun v6=>(Xaw v v2 v3 (v.getD v3.toNat Xc).2.2.2.1 v6 v4 (v.getD v3.toNat Xc) (0,v5)).bind fun v12=>some (.inl (w64 (v3+1),v12))) none) (some (.inr v5))
def Xa7 (v:List Xa) (v2:Int) (v4:List Int):(Int×List Int)→Option (List Int):=
 Yap fun s=>Xa7.B v v2 v4 s.1 s.2
def Xc6 (v:List Xa):Option (List Int):=
 (Xa7 v (v.length:Int) (List.replicate 20 0) (0,(List.replicate 20 0))).bind fun v13=>some v13
namespace Xaw
noncomputable def c:=Yal (Yah Proofs.Tryz.f63) [1,1,0,1,0,0,1,1,0,0,1,1,0,0]
def sp:SP:=⟨[(2,.loc 2 []),(3,.loc 3 []),(5,.loc 5 []),(8,.cs (.sl Xb)),(9,.cs I64),(10,.cs I64),(15,.cs SI),(16,.cs I64),(17,.cs I64)],[(2,.mem,.cd (.arr 20 I64)),(3,.mem,.cd (.arr 20 I64)),(5,.mem,.cs Xb)]⟩
def fr:=Yig sp (fun x s=>Xaw.B x.1.2.2.2.1 x.1.2.2.2.2.1 x.1.2.2.2.2.2.1 x.1.2.2.2.2.2.2.1 x.1.2.2.2.2.2.2.2.1 x.2.1 x.2.2.2.1 s.1 s.2) (fun x=>(x.1.2.2.2.2.2.2.2.2.1,x.2.2.1)) fun x (bb0:List Int) _ kk0=>kk0 (.ex 2) ⟨[(2,.loc 2 []),(3,.loc 3 []),(8,.cs (.sl Xb) x.1.2.2.2.1),(9,.cs I64 x.1.2.2.2.2.1),(10,.cs I64 x.1.2.2.2.2.2.1)],[(2,some ⟨.mem,.cd (.arr 20 I64) x.2.1⟩),(3,some ⟨.mem,.cd (.arr 20 I64) bb0⟩)]⟩
theorem ok:Ya6 PR 33 1 (.loop c) fr:=
 Yu9 Xe Xd h0 [(2,([2,3,8,9,10],[2,3]))] (fun x s=>((x.1.1,x.1.2.1,x.1.2.2.1,x.1.2.2.2.1,x.1.2.2.2.2.1,x.1.2.2.2.2.2.1,x.1.2.2.2.2.2.2.1,x.1.2.2.2.2.2.2.2.1,s.1,x.1.2.2.2.2.2.2.2.2.2),(x.2.1,s.2,x.2.2.2)))
  (fun x s=>by simp only[B,mC,mB,mS,mO,mN];kernel_rfl)
end Xaw
namespace Xa7
noncomputable def c:=Yal (Yah Proofs.Tryz.f63) [1,1,0,1,0,0]
def sp:SP:=⟨[(2,.loc 2 []),(3,.loc 3 []),(8,.cs (.sl Xb)),(9,.cs I64),(10,.cs I64)],[(2,.mem,.cd (.arr 20 I64)),(3,.mem,.cd (.arr 20 I64))]⟩
def fr:=Yig sp (fun x s=>Xa7.B x.1.2.2.1 x.1.2.2.2.1 x.2.1 s.1 s.2) (fun x=>(x.1.2.2.2.2.1,x.2.2.1)) fun x (bb0:List Int) _ kk0=>kk0 (.ex 0) ⟨[(2,.loc 2 []),(3,.loc 3 [])],[(2,some ⟨.mem,.cd (.arr 20 I64) x.2.1⟩),(3,some ⟨.mem,.cd (.arr 20 I64) bb0⟩)]⟩
theorem ok:Ya6 PR 33 1 (.loop c) fr:=
 Yvg Xe Xd h0 (.R (.R (.L (.one (.R (.R (.one (.fr 1)))))))) (L:=mkL [(1,Xaw.fr)]) (l:=[(1,.loop Xaw.c)]) ⟨Lam.cons Xaw.ok,trivial⟩ [(0,([2,3],[2,3]))] (fun x s=>((x.1.1,x.1.2.1,x.1.2.2.1,x.1.2.2.2.1,s.1,x.1.2.2.2.2.2),(x.2.1,s.2,x.2.2.2)))
  (fun x s=>by simp only[B,mC,mB,mS,mO,mN];kernel_rfl)
end Xa7
namespace Xc6
def pts:List PT:=[.cs (.sl Xb)]
def FS:FS:=Yc6 [.sh] pts (fun x=>Xc6 x.1) fun t=>⟨[.cs (.arr 20 I64) t],[]⟩
theorem ok:Ycv PR 63 FS:=
 Yvf Xe Xd Proofs.Tryz.f63 h0 (.R (.R (.L (.R (.one (.fr 0)))))) (G:=(mkG [])) .nil (L:=mkL [(1,Xaw.fr),(0,Xa7.fr)]) (l:=[(0,.loop Xa7.c)]) ⟨Lam.skip rfl (Lam.cons Xa7.ok),trivial⟩
  (fun x=>by simp only[Xc6,mC,mB,mS,mO,mN];kernel_rfl)
end Xc6
def Xe0 (v:List Int):Option Int:=
 some (v.length:Int)
namespace Xe0
def pts:List PT:=[.cs SB]
def FS:FS:=Yc6 [.sh] pts (fun x=>Xe0 x.1) fun t=>⟨[.cs I64 t],[]⟩
theorem ok:Ycv PR 64 FS:=
 Yvf Xe Xd Proofs.Tryz.f64 h0 .no (G:=(mkG [])) .nil (L:=mkL []) (l:=[]) hT
  (fun x=>by simp only[Xe0,mC,mB,mS,mO,mN];kernel_rfl)
end Xe0
def Xca.B (v:Fs_) (v2:List Int) (v3:Int):Option (Int⊕((Int⊕Unit))):=
 cond (decide (v3<20)) (cond (inB v3 20) (cond (inB v3 v.2.1.length) ((Xe0 (v.2.1.getD v3.toNat [])).bind fun v4=>cond (v4 != (v2.getD v3.toNat 0)) (some (.inr (.inl 1))) (some (.inl (w64 (v3+1))))) none) none) (some (.inr (.inr ())))
def Xca (v:Fs_) (v2:List Int):Int→Option ((Int⊕Unit)):=
 Yap fun s=>Xca.B v v2 s
def Xa8 (v:Fs_):Option Int:=
 (Xc6 v.1).bind fun v2=>(Xca v v2 0).bind fun v5=>sel v5 (fun v6=>some v6) (fun v7=>some 0)
namespace Xa8
def G:Gam:=mkG [(63,Xc6.FS),(64,Xe0.FS)]
theorem Gok:GOk PR G:=.cons Xc6.ok (.cons Xe0.ok .nil)
end Xa8
namespace Xca
noncomputable def c:=Yal (Yah Proofs.Tryz.f41) [1,0,1,0,0]
def sp:SP:=⟨[(1,.pt Xp),(7,.cs (.arr 20 I64)),(8,.cs I64)],[]⟩
def fr:=Yig sp (fun x s=>Xca.B x.1.1 x.1.2.1 s) (fun x=>x.1.2.2.1) fun x (oo0:(Int⊕Unit)) _ kk0=>sel oo0 (fun bb0=>kk0 (.rt) ⟨[(2,.cs I64 bb0)],[]⟩) (fun cc0=>kk0 (.ex 0) ⟨[],[]⟩)
theorem ok:Ya6 PR 21 1 (.loop c) fr:=
 Yr7 Xe Xd ⟨[1],[],[],0⟩ .no (G:=Xa8.G) Xa8.Gok (L:=mkL []) (l:=[]) hT [(0,([],[]))] ([2],[]) (fun x s=>((x.1.1,x.1.2.1,s,x.1.2.2.2),x.2))
  (fun x s=>by simp only[B,mC,mB,mS,mO,mN];kernel_rfl)
end Xca
namespace Xa8
def pts:List PT:=[.cs Xp]
def FS:FS:=Yc6 [.sh] pts (fun x=>Xa8 x.1) fun t=>⟨[.cs I64 t],[]⟩
theorem ok:Ycv PR 41 FS:=
 Yvf Xe Xd Proofs.Tryz.f41 ⟨[1],[],[],0⟩ (.R (.L (.R (.one (.fr 0))))) (G:=G) Gok (L:=mkL [(0,Xca.fr)]) (l:=[(0,.loop Xca.c)]) ⟨Lam.cons Xca.ok,trivial⟩
  (fun x=>by simp only[Xa8,mC,mB,mS,mO,mN];kernel_rfl)
end Xa8
def Xc7 (v:Fs_):Option Int:=
 (Xap v).bind fun v2=>cond (v2 != 0) (some v2) ((Xa6 v).bind fun v3=>cond (v3 != 0) (some v3) ((Xa8 v).bind fun v4=>some v4))
namespace Xc7
def G:Gam:=mkG [(39,Xap.FS),(40,Xa6.FS),(41,Xa8.FS)]
def pts:List PT:=[.cs Xp]
def FS:FS:=Yc6 [.sh] pts (fun x=>Xc7 x.1) fun t=>⟨[.cs I64 t],[]⟩
theorem ok:Ycv PR 22 FS:=
 Yvf Xe Xd Proofs.Tryz.f22 ⟨[1],[],[],0⟩ .no (G:=G) (show GOk PR G from .cons Xap.ok (.cons Xa6.ok (.cons Xa8.ok .nil))) (L:=mkL []) (l:=[]) hT
  (fun x=>by simp only[Xc7,mC,mB,mS,mO,mN];kernel_rfl)
end Xc7
def Xe1 (x:List (List (List UInt8))):Option (List (List UInt8)):=Yko x
def Xe1.FS:FS:=Yc6 [.sh] [.cl .sh (.sl (.sl .str))] (fun x=>Yko x.1) fun y=>⟨[.cl .deep (.sl .str) y],[]⟩
theorem Xe1.ok:Ycv Go.Proofs.Tryz.prog 79 Xe1.FS:=
 Ysv (E:=9) rfl ⟨Go.Proofs.Tryz.f79,by kernel_rfl,by kernel_rfl,by kernel_rfl⟩ (fun w A b off m c hs cs hA hr hm ht=>Go.Proofs.Cc79.concat_in w A b off m c hs cs (by kernel_rfl) hA hr hm ht)
def Xfp (xs:List (List UInt8)) (sep:List UInt8):Option (List UInt8):=Yqo xs sep
def Xfp.FS:FS:=Yc6 [.sh,.sh] [.cl .sh (.sl .str),.cl .sh .str] (fun x=>Yqo x.1 x.2.1) fun y=>⟨[.cl .sh .str y],[]⟩
theorem Xfp.ok:Ycv Go.Proofs.Tryz.prog 93 Xfp.FS:=
 Yuw ⟨Go.Proofs.Tryz.f93,by kernel_rfl,by kernel_rfl,by kernel_rfl⟩ Go.Proofs.Jn.join_any
def Xc8 (v:List (List UInt8)):Option (List UInt8):=
 (Xfp v ([47]:List UInt8)).bind fun v2=>cond (decide (([47]:List UInt8).length+v2.length≤2147483648)) (some (([47]:List UInt8)++v2)) none
namespace Xc8
def G:Gam:=mkG [(93,Xfp.FS)]
def pts:List PT:=[.cs (.sl .str)]
def FS:FS:=Yc6 [.sh] pts (fun x=>Xc8 x.1) fun t=>⟨[.cs .str t],[]⟩
theorem ok:Ycv PR 80 FS:=
 Yvf Xe Xd Proofs.Tryz.f80 h0 .no (G:=G) (show GOk PR G from .cons Xfp.ok .nil) (L:=mkL []) (l:=[]) hT
  (fun x=>by simp only[Xc8,mC,mB,mS,mO,mN];kernel_rfl)
end Xc8
abbrev Xv.Ty:Type:=Fs_→Int→(List (List UInt8))→(List (List UInt8))→Option (List (List UInt8))
def Xa9.B (self:Xv.Ty) (v:Fs_) (v3:List (List UInt8)) (v6:List Xf) (v5:Int) (v7:Int) (v8:List (List UInt8)):Option ((Int×List (List UInt8))⊕(List (List UInt8))):=
 cond (decide (v7<v5)) (cond (inB v7 v6.length) ((Xe1 ([v3,[(v6.getD v7.toNat Xo).1]])).bind fun v9=>(Xc8 v9).bind fun v10=>cond (decide ((v8++([v10])).length≤2147483648)) ((self v (v6.getD v7.toNat Xo).2.1 v9 (v8++([v10]))).bind fun v11=>some (.inl (w64 (v7+1),v11))) none) none) (some (.inr v8))
def Xa9 (self:Xv.Ty) (v:Fs_) (v3:List (List UInt8)) (v6:List Xf) (v5:Int):(Int×List (List UInt8))→Option (List (List UInt8)):=
 Yap fun s=>Xa9.B self v v3 v6 v5 s.1 s.2
def Xv.step (self:Xv.Ty) (v:Fs_) (v2:Int) (v3:List (List UInt8)) (v4:List (List UInt8)):Option (List (List UInt8)):=
 cond ((v3.length:Int) == 6) (some v4) (cond (inB v2 v.1.length) ((some ((v.1.getD v2.toNat Xc).2.2.2.2.1.length:Int)).bind fun v5=>(Xa9 self v v3 (v.1.getD v2.toNat Xc).2.2.2.2.1 v5 (0,v4)).bind fun v12=>some v12) none)
def Xv.R:Nat→Xv.Ty
 |0=>fun _ _ _ _=>none
 |k+1=>fun v v2 v3 v4=>Xv.step (Xv.R k) v v2 v3 v4
def Xv (v:Fs_) (v2:Int) (v3:List (List UInt8)) (v4:List (List UInt8)):Option (List (List UInt8)):=
 Xv.R 40 v v2 v3 v4
namespace Xv
def pts:List PT:=[.pt Xp,.cs I64,.cs (.sl .str),.cd (.sl .str)]
noncomputable def FSr (self:Ty):FS:=Yc6 [.sh,.sh,.sh,.mu] pts (fun x=>self x.1 x.2.1 x.2.2.1 x.2.2.2.1) fun t=>⟨[.cd (.sl .str) t],[.dead 1]⟩
noncomputable def G (self:Ty):Gam:=mkG [(79,Xe1.FS),(80,Xc8.FS),(65,FSr self)]
theorem Gok (self:Ty) (hs:Ycv PR 65 (FSr self)):GOk PR (G self):=.cons Xe1.ok (.cons Xc8.ok (.cons hs .nil))
end Xv
namespace Xa9
noncomputable def c:=Yal (Yah Proofs.Tryz.f65) [1,1,0,1,0,0]
def sp:SP:=⟨[(0,.pt Xp),(2,.cs (.sl .str)),(3,.seg 3 []),(23,.cs (.sl Xm)),(24,.cs I64),(25,.cs I64)],[(3,.reg,.cd (.sl .str))]⟩
noncomputable def fr (self:Xv.Ty):=Yig sp (fun x s=>Xa9.B self x.1.1 x.1.2.1 x.1.2.2.2.1 x.1.2.2.2.2.1 s.1 s.2) (fun x=>(x.1.2.2.2.2.2.1,x.2.1)) fun x (bb0:List (List UInt8)) _ kk0=>kk0 (.ex 0) ⟨[(3,.seg 3 [])],[sr 3 (.cd (.sl .str) bb0)]⟩
theorem ok (self:Xv.Ty) (hs:Ycv PR 65 (Xv.FSr self)):Ya6 PR 48 0 (.loop c) (fr self):=
 Yvh Xe Xd h0 (G:=Xv.G self) (Xv.Gok self hs) [(0,([3],[3]))] (fun x s=>((x.1.1,x.1.2.1,x.1.2.2.1,x.1.2.2.2.1,x.1.2.2.2.2.1,s.1,x.1.2.2.2.2.2.2),(s.2,x.2.2)))
  (fun x s=>by simp only[B,mC,mB,mS,mO,mN];kernel_rfl)
end Xa9
namespace Xv
def FS:FS:=Yc6 [.sh,.sh,.sh,.mu] pts (fun x=>Xv x.1 x.2.1 x.2.2.1 x.2.2.2.1) fun t=>⟨[.cd (.sl .str) t],[.dead 1]⟩
theorem okS (self:Ty) (hs:Ycv PR 65 (FSr self)):Ycv PR 65 (FSr (step self)):=
 Yu3 Xe Xd Proofs.Tryz.f65 h0 (.R (.R (.L (.R (.one (.fr 0)))))) (G:=(G self)) (Gok self hs) (L:=mkL [(0,Xa9.fr self)]) (l:=[(0,.loop Xa9.c)]) ⟨Lam.cons (Xa9.ok self hs),trivial⟩
  (fun x=>by simp only[step,mC,mB,mS,mO,mN];kernel_rfl)
theorem okR:∀ k,Ycv PR 65 (FSr (R k))
 |0=>Ycv.bot
 |k+1=>okS _ (okR k)
theorem ok:Ycv PR 65 FS:=okR 40
end Xv
def Xc9 (v:Fs_):Option (List (List UInt8)):=
 (Xv v 0 [] []).bind fun v2=>(some (cond (decide ((60:Int)<(v2.length:Int))) 60 (v2.length:Int))).bind fun v3=>cond (decide ((0:Int)≤v3)&&decide (v3≤(v2.length:Int))) (some ((v2.drop 0).take (v3.toNat-0))) none
namespace Xc9
def G:Gam:=mkG [(65,Xv.FS)]
def pts:List PT:=[.pt Xp]
def FS:FS:=Yc6 [.sh] pts (fun x=>Xc9 x.1) fun t=>⟨[.cd (.sl .str) t],[]⟩
theorem ok:Ycv PR 43 FS:=
 Yvf Xe Xd Proofs.Tryz.f43 h0 .no (G:=G) (show GOk PR G from .cons Xv.ok .nil) (L:=mkL []) (l:=[]) hT
  (fun x=>by simp only[Xc9,mC,mB,mS,mO,mN];kernel_rfl)
end Xc9
def Xh (v:List UInt8) (v2:List UInt8):Option Bool:=
 cond (cond (decide ((v.length:Int)≥(v2.length:Int))) (decide ((0:Int)≤(v2.length:Int))&&decide ((v2.length:Int)≤(v.length:Int))) true) ((some (cond (decide ((v.length:Int)≥(v2.length:Int))) (((v.take ((v2.length:Int).toNat)).drop 0) == v2) false)).bind fun v3=>some v3) none
namespace Xh
def pts:List PT:=[.cs .str,.cs .str]
def FS:FS:=Yc6 [.sh,.sh] pts (fun x=>Xh x.1 x.2.1) fun t=>⟨[.cs .bool t],[]⟩
theorem ok:Ycv PR 94 FS:=
 Yvf Xe Xd Proofs.Tryz.f94 h0 .no (G:=(mkG [])) .nil (L:=mkL []) (l:=[]) hT
  (fun x=>by simp only[Xh,mC,mB,mS,mO,mN];kernel_rfl)
end Xh
def Xda (v:List UInt8) (v2:List UInt8):Option Bool:=
 (Xh v v2).bind fun v3=>some v3
namespace Xda
def G:Gam:=mkG [(94,Xh.FS)]
def pts:List PT:=[.cs .str,.cs .str]
def FS:FS:=Yc6 [.sh,.sh] pts (fun x=>Xda x.1 x.2.1) fun t=>⟨[.cs .bool t],[]⟩
theorem ok:Ycv PR 81 FS:=
 Yvf Xe Xd Proofs.Tryz.f81 h0 .no (G:=G) (show GOk PR G from .cons Xh.ok .nil) (L:=mkL []) (l:=[]) hT
  (fun x=>by simp only[Xda,mC,mB,mS,mO,mN];kernel_rfl)
end Xda
def Xi (v:List UInt8) (v2:List UInt8):Option Bool:=
 cond (cond (decide ((v.length:Int)≥(v2.length:Int))) (decide ((0:Int)≤(w64 ((v.length:Int)-(v2.length:Int))))&&decide ((w64 ((v.length:Int)-(v2.length:Int)))≤(v.length:Int))) true) ((some (cond (decide ((v.length:Int)≥(v2.length:Int))) (((v.take v.length).drop ((w64 ((v.length:Int)-(v2.length:Int))).toNat)) == v2) false)).bind fun v3=>some v3) none
namespace Xi
def pts:List PT:=[.cs .str,.cs .str]
def FS:FS:=Yc6 [.sh,.sh] pts (fun x=>Xi x.1 x.2.1) fun t=>⟨[.cs .bool t],[]⟩
theorem ok:Ycv PR 95 FS:=
 Yvf Xe Xd Proofs.Tryz.f95 h0 .no (G:=(mkG [])) .nil (L:=mkL []) (l:=[]) hT
  (fun x=>by simp only[Xi,mC,mB,mS,mO,mN];kernel_rfl)
end Xi
def Xdb (v:List UInt8) (v2:List UInt8):Option Bool:=
 (Xi v v2).bind fun v3=>some v3
namespace Xdb
def G:Gam:=mkG [(95,Xi.FS)]
def pts:List PT:=[.cs .str,.cs .str]
def FS:FS:=Yc6 [.sh,.sh] pts (fun x=>Xdb x.1 x.2.1) fun t=>⟨[.cs .bool t],[]⟩
theorem ok:Ycv PR 82 FS:=
 Yvf Xe Xd Proofs.Tryz.f82 h0 .no (G:=G) (show GOk PR G from .cons Xi.ok .nil) (L:=mkL []) (l:=[]) hT
  (fun x=>by simp only[Xdb,mC,mB,mS,mO,mN];kernel_rfl)
end Xdb
def Xfq (s sub:List UInt8):Option Int:=countP s sub
def Xfq.FS:FS:=Yc6 [.sh,.sh] [.cl .sh .str,.cl .sh .str] (fun x=>countP x.1 x.2.1) fun y=>⟨[.cl .sh (.int .i64) y],[]⟩
theorem Xfq.ok:Ycv Go.Proofs.Tryz.prog 117 Xfq.FS:=
 Yt6 ⟨Go.Proofs.Tryz.f117,by kernel_rfl,by kernel_rfl,by kernel_rfl⟩ Go.Proofs.Ct.count_one
def Xk (s:List UInt8) (c:Int):Option Int:=Yie s c
def Xk.FS:FS:=Yc6 [.sh,.sh] [.cl .sh .str,.cl .sh (.int .u8)] (fun x=>Yie x.1 x.2.1) fun y=>⟨[.cl .sh (.int .i64) y],[]⟩
theorem Xk.ok:Ycv Go.Proofs.Tryz.prog 140 Xk.FS:=
 Yr0 ⟨Go.Proofs.Tryz.f140,by kernel_rfl,by kernel_rfl,by kernel_rfl⟩ Go.Proofs.Ib.index_any
def Xl (v:List UInt8) (v2:List UInt8):Option Int:=
 cond (cond ((v2.length:Int) == 0) true (v2 == v)) (some 0) (cond ((v2.length:Int) == 1) (cond (inB 0 v2.length) ((Xk v ((v2.getD (0:Int).toNat 0).toNat:Int)).bind fun v3=>some v3) none) (cond (decide ((v2.length:Int)≥(v.length:Int))) (some (-1)) none))
namespace Xl
def G:Gam:=mkG [(140,Xk.FS)]
def pts:List PT:=[.cs .str,.cs .str]
def FS:FS:=Yc6 [.sh,.sh] pts (fun x=>Xl x.1 x.2.1) fun t=>⟨[.cs I64 t],[]⟩
theorem ok:Ycv PR 134 FS:=
 Yvf Xe Xd Proofs.Tryz.f134 h0 .no (G:=G) (show GOk PR G from .cons Xk.ok .nil) (L:=mkL []) (l:=[]) hT
  (fun x=>by simp only[Xl,mC,mB,mS,mO,mN];kernel_rfl)
end Xl
def Xdc (v:List UInt8) (v2:List UInt8):Option Int:=
 (Xl v v2).bind fun v3=>some v3
namespace Xdc
def G:Gam:=mkG [(134,Xl.FS)]
def pts:List PT:=[.cs .str,.cs .str]
def FS:FS:=Yc6 [.sh,.sh] pts (fun x=>Xdc x.1 x.2.1) fun t=>⟨[.cs I64 t],[]⟩
theorem ok:Ycv PR 118 FS:=
 Yvf Xe Xd Proofs.Tryz.f118 h0 .no (G:=G) (show GOk PR G from .cons Xl.ok .nil) (L:=mkL []) (l:=[]) hT
  (fun x=>by simp only[Xdc,mC,mB,mS,mO,mN];kernel_rfl)
end Xdc
def Xba.B (v2:List UInt8) (v3:Int) (v8:Int) (v7:List UInt8) (v9:Int) (v10:List (List UInt8)):Option (((List UInt8)×Int×List (List UInt8))⊕((List UInt8)×Int×List (List UInt8))):=
 cond (decide (v9<v8)) ((Xdc v7 v2).bind fun v11=>cond (decide (v11<0)) (some (.inr (v7,v9,v10))) (cond (decide ((0:Int)≤(w64 (v11+v3)))&&decide ((w64 (v11+v3))≤(v7.length:Int))) (cond (inB v9 v10.length) ((some (v10.set v9.toNat ((v7.take ((w64 (v11+v3)).toNat)).drop 0))).bind fun v12=>cond (decide ((0:Int)≤(w64 (v11+(v2.length:Int))))&&decide ((w64 (v11+(v2.length:Int)))≤(v7.length:Int))) ((some ((v7.take v7.length).drop ((w64 (v11+(v2.length:Int))).toNat))).bind fun v13=>some (.inl (v13,w64 (v9+1),v12))) none) none) none)) (some (.inr (v7,v9,v10)))
def Xba (v2:List UInt8) (v3:Int) (v8:Int):((List UInt8)×Int×List (List UInt8))→Option ((List UInt8)×Int×List (List UInt8)):=
 Yap fun s=>Xba.B v2 v3 v8 s.1 s.2.1 s.2.2
def Xb3 (v:List UInt8) (v2:List UInt8) (v3:Int) (v4:Int):Option (List (List UInt8)):=
 cond (v4 == 0) (some []) (cond (v2 == ([]:List UInt8)) none (cond (decide (v4<0)) ((Xfq v v2).bind fun v5=>(some (cond (decide ((w64 ((v.length:Int)+1))<(w64 (v5+1)))) (w64 ((v.length:Int)+1)) (w64 (v5+1)))).bind fun v6=>cond (decide ((0:Int)≤v6)&&(decide (v6≤v6)&&decide (v6≤2147483648))) ((Xba v2 v3 (w64 (v6-1)) (v,0,List.replicate v6.toNat ([]:List UInt8))).bind fun v14=>cond (inB v14.2.1 v14.2.2.length) (cond (decide ((0:Int)≤(w64 (v14.2.1+1)))&&decide ((w64 (v14.2.1+1))≤((v14.2.2.set v14.2.1.toNat v14.1).length:Int))) ((some (((v14.2.2.set v14.2.1.toNat v14.1).drop 0).take (((w64 (v14.2.1+1)).toNat)-0))).bind fun v15=>some v15) none) none) none) ((some (cond (decide ((w64 ((v.length:Int)+1))<v4)) (w64 ((v.length:Int)+1)) v4)).bind fun v16=>cond (decide ((0:Int)≤v16)&&(decide (v16≤v16)&&decide (v16≤2147483648))) ((Xba v2 v3 (w64 (v16-1)) (v,0,List.replicate v16.toNat ([]:List UInt8))).bind fun v17=>cond (inB v17.2.1 v17.2.2.length) (cond (decide ((0:Int)≤(w64 (v17.2.1+1)))&&decide ((w64 (v17.2.1+1))≤((v17.2.2.set v17.2.1.toNat v17.1).length:Int))) ((some (((v17.2.2.set v17.2.1.toNat v17.1).drop 0).take (((w64 (v17.2.1+1)).toNat)-0))).bind fun v18=>some v18) none) none) none)))
namespace Xb3
def G:Gam:=mkG [(117,Xfq.FS),(118,Xdc.FS)]
theorem Gok:GOk PR G:=.cons Xfq.ok (.cons Xdc.ok .nil)
end Xb3
namespace Xba
noncomputable def c:=Yal (Yah Proofs.Tryz.f96) [1,1,1,1,1,1,1,1,0,0,0]
def sp:SP:=⟨[(0,.cs .str),(1,.cs .str),(2,.cs I64),(3,.cs I64),(9,.seg 9 []),(10,.cs I64)],[(9,.reg,.cd (.sl .str))]⟩
def fr:=Yig sp (fun x s=>Xba.B x.1.2.1 x.1.2.2.1 x.1.2.2.2.1 s.1 s.2.1 s.2.2) (fun x=>(x.1.1,x.1.2.2.2.2.2.1,x.2.1)) fun x (bb0:(List UInt8)×Int×List (List UInt8)) _ kk0=>kk0 (.ex 0) ⟨[(0,.cs .str bb0.1),(9,.seg 9 []),(10,.cs I64 bb0.2.1)],[sr 9 (.cd (.sl .str) bb0.2.2)]⟩
theorem ok:Ya6 PR 66 4 (.loop c) fr:=
 Yvh Xe Xd h0 (G:=Xb3.G) Xb3.Gok [(0,([0,9,10],[9]))] (fun x s=>((s.1,x.1.2.1,x.1.2.2.1,x.1.2.2.2.1,x.1.2.2.2.2.1,s.2.1,x.1.2.2.2.2.2.2),(s.2.2,x.2.2)))
  (fun x s=>by simp only[B,mC,mB,mS,mO,mN];kernel_rfl)
end Xba
namespace Xb3
def pts:List PT:=[.cs .str,.cs .str,.cs I64,.cs I64]
def FS:FS:=Yc6 [.sh,.sh,.sh,.sh] pts (fun x=>Xb3 x.1 x.2.1 x.2.2.1 x.2.2.2.1) fun t=>⟨[.cd (.sl .str) t],[]⟩
theorem ok:Ycv PR 96 FS:=
 Yvf Xe Xd Proofs.Tryz.f96 h0 (.R (.R (.R (.R (.R (.R (.R (.R (.L (.one (.fr 0))))))))))) (G:=G) Gok (L:=mkL [(0,Xba.fr)]) (l:=[(0,.loop Xba.c)]) ⟨Lam.cons Xba.ok,trivial⟩
  (fun x=>by simp only[Xb3,mC,mB,mS,mO,mN];kernel_rfl)
end Xb3
def Xdd (v:List UInt8) (v2:List UInt8):Option (List (List UInt8)):=
 (Xb3 v v2 0 (-1)).bind fun v3=>some v3
namespace Xdd
def G:Gam:=mkG [(96,Xb3.FS)]
def pts:List PT:=[.cs .str,.cs .str]
def FS:FS:=Yc6 [.sh,.sh] pts (fun x=>Xdd x.1 x.2.1) fun t=>⟨[.cd (.sl .str) t],[]⟩
theorem ok:Ycv PR 83 FS:=
 Yvf Xe Xd Proofs.Tryz.f83 h0 .no (G:=G) (show GOk PR G from .cons Xb3.ok .nil) (L:=mkL []) (l:=[]) hT
  (fun x=>by simp only[Xdd,mC,mB,mS,mO,mN];kernel_rfl)
end Xdd
def Xbb.B (v5:Int) (v4:List (List UInt8)) (v6:Int):Option (Int⊕(((Int×List (List UInt8))⊕Unit))):=
 cond (decide (v6<v5)) (cond (inB v6 v4.length) ((Xfm (v4.getD v6.toNat [])).bind fun v7=>cond (v7 != 0) (some (.inr (.inl (v7,[])))) (some (.inl (w64 (v6+1))))) none) (some (.inr (.inr ())))
def Xbb (v5:Int) (v4:List (List UInt8)):Int→Option (((Int×List (List UInt8))⊕Unit)):=
 Yap fun s=>Xbb.B v5 v4 s
def Xbc (v:List UInt8):Option ((List (List UInt8))×Int):=
 cond (decide ((v.length:Int)>30)) (some ([],2)) (cond (v == ([47]:List UInt8)) (some ([],0)) ((Xda v ([47]:List UInt8)).bind fun v2=>cond (!v2) (some ([],5)) ((Xdb v ([47]:List UInt8)).bind fun v3=>cond v3 (some ([],5)) (cond (decide ((0:Int)≤(1:Int))&&decide ((1:Int)≤(v.length:Int))) ((Xdd ((v.take v.length).drop ((1:Int).toNat)) ([47]:List UInt8)).bind fun v4=>cond (decide ((v4.length:Int)>6)) (some ([],2)) ((Xbb (v4.length:Int) v4 0).bind fun v8=>sel v8 (fun v9=>some (v9.2,v9.1)) (fun v10=>some (v4,0)))) none))))
namespace Xbc
def G:Gam:=mkG [(81,Xda.FS),(82,Xdb.FS),(83,Xdd.FS),(84,Xfm.FS)]
theorem Gok:GOk PR G:=.cons Xda.ok (.cons Xdb.ok (.cons Xdd.ok (.cons Xfm.ok .nil)))
end Xbc
namespace Xbb
noncomputable def c:=Yal (Yah Proofs.Tryz.f66) [1,1,1,1,1,1,0,1,0,0]
def sp:SP:=⟨[(4,.seg 4 []),(26,.seg 4 []),(27,.cs I64),(28,.cs I64)],[(4,.reg,.cd (.sl .str))]⟩
def fr:=Yig sp (fun x s=>Xbb.B x.1.2.2.1 x.2.1 s) (fun x=>x.1.2.2.2.1) fun x (oo0:((Int×List (List UInt8))⊕Unit)) _ kk0=>sel oo0 (fun bb0=>kk0 (.rt) ⟨[(2,.seg 2 []),(3,.cs I64 bb0.1)],[sr 2 (.cd (.sl .str) bb0.2)]⟩) (fun cc0=>kk0 (.ex 0) ⟨[(4,.seg 4 [])],[sr 4 (.cd (.sl .str) x.2.1)]⟩)
theorem ok:Ya6 PR 39 1 (.loop c) fr:=
 Yr7 Xe Xd h0 .no (G:=Xbc.G) Xbc.Gok (L:=mkL []) (l:=[]) hT [(0,([4],[4]))] ([2,3],[2]) (fun x s=>((x.1.1,x.1.2.1,x.1.2.2.1,s,x.1.2.2.2.2),x.2))
  (fun x s=>by simp only[B,mC,mB,mS,mO,mN];kernel_rfl)
end Xbb
namespace Xbc
def pts:List PT:=[.cs .str]
def FS:FS:=Yc6 [.sh] pts (fun x=>Xbc x.1) fun t=>⟨[.cd (.sl .str) t.1,.cs I64 t.2],[]⟩
theorem ok:Ycv PR 66 FS:=
 Yvf Xe Xd Proofs.Tryz.f66 h0 (.R (.R (.R (.R (.R (.R (.L (.R (.one (.fr 0)))))))))) (G:=G) Gok (L:=mkL [(0,Xbb.fr)]) (l:=[(0,.loop Xbb.c)]) ⟨Lam.cons Xbb.ok,trivial⟩
  (fun x=>by simp only[Xbc,mC,mB,mS,mO,mN];kernel_rfl)
end Xbc
def Xb4.B (v3:List UInt8) (v5:List Xf) (v4:Int) (v6:Int):Option (Int⊕((Int⊕Unit))):=
 cond (decide (v6<v4)) (cond (inB v6 v5.length) (cond ((v5.getD v6.toNat Xo).1 == v3) (some (.inr (.inl (v5.getD v6.toNat Xo).2.1))) (some (.inl (w64 (v6+1))))) none) (some (.inr (.inr ())))
def Xb4 (v3:List UInt8) (v5:List Xf) (v4:Int):Int→Option ((Int⊕Unit)):=
 Yap fun s=>Xb4.B v3 v5 v4 s
def Xde (v:Fs_) (v2:Int) (v3:List UInt8):Option Int:=
 cond (inB v2 v.1.length) ((some ((v.1.getD v2.toNat Xc).2.2.2.2.1.length:Int)).bind fun v4=>(Xb4 v3 (v.1.getD v2.toNat Xc).2.2.2.2.1 v4 0).bind fun v7=>sel v7 (fun v8=>some v8) (fun v9=>some (-1))) none
namespace Xb4
noncomputable def c:=Yal (Yah Proofs.Tryz.f85) [1,0,1,0,0]
def sp:SP:=⟨[(2,.cs .str),(16,.cs (.sl Xm)),(17,.cs I64),(18,.cs I64)],[]⟩
def fr:=Yig sp (fun x s=>Xb4.B x.1.1 x.1.2.1 x.1.2.2.1 s) (fun x=>x.1.2.2.2.1) fun x (oo0:(Int⊕Unit)) _ kk0=>sel oo0 (fun bb0=>kk0 (.rt) ⟨[(6,.cs I64 bb0)],[]⟩) (fun cc0=>kk0 (.ex 0) ⟨[],[]⟩)
theorem ok:Ya6 PR 29 3 (.loop c) fr:=
 Yr7 Xe Xd h0 .no (G:=(mkG [])) .nil (L:=mkL []) (l:=[]) hT [(0,([],[]))] ([6],[]) (fun x s=>((x.1.1,x.1.2.1,x.1.2.2.1,s,x.1.2.2.2.2),x.2))
  (fun x s=>by simp only[B,mC,mB,mS,mO,mN];kernel_rfl)
end Xb4
namespace Xde
def pts:List PT:=[.pt Xp,.cs I64,.cs .str]
def FS:FS:=Yc6 [.sh,.sh,.sh] pts (fun x=>Xde x.1 x.2.1 x.2.2.1) fun t=>⟨[.cs I64 t],[]⟩
theorem ok:Ycv PR 85 FS:=
 Yvf Xe Xd Proofs.Tryz.f85 h0 (.R (.L (.R (.one (.fr 0))))) (G:=(mkG [])) .nil (L:=mkL [(0,Xb4.fr)]) (l:=[(0,.loop Xb4.c)]) ⟨Lam.cons Xb4.ok,trivial⟩
  (fun x=>by simp only[Xde,mC,mB,mS,mO,mN];kernel_rfl)
end Xde
def Xbd.B (v:Fs_) (v2:List (List UInt8)) (v4:Int) (v3:Int) (v5:Int):Option ((Int×Int)⊕(((Int×Int)⊕Int))):=
 cond (decide (v5<v4)) (cond (inB v5 v2.length) (cond (inB v3 v.1.length) (cond ((v.1.getD v3.toNat Xc).1 != 2) (some (.inr (.inl (0,9)))) ((Xde v v3 (v2.getD v5.toNat [])).bind fun v6=>cond (decide (v6<0)) (some (.inr (.inl (0,4)))) (some (.inl (v6,w64 (v5+1)))))) none) none) (some (.inr (.inr v3)))
def Xbd (v:Fs_) (v2:List (List UInt8)) (v4:Int):(Int×Int)→Option (((Int×Int)⊕Int)):=
 Yap fun s=>Xbd.B v v2 v4 s.1 s.2
def Xbe (v:Fs_) (v2:List (List UInt8)):Option (Int×Int):=
 (Xbd v v2 (v2.length:Int) (0,0)).bind fun v7=>sel v7 (fun v8=>some (v8.1,v8.2)) (fun v9=>some (v9,0))
namespace Xbe
def G:Gam:=mkG [(85,Xde.FS)]
theorem Gok:GOk PR G:=.cons Xde.ok .nil
end Xbe
namespace Xbd
noncomputable def c:=Yal (Yah Proofs.Tryz.f67) [1,1,0,1,0,0]
def sp:SP:=⟨[(0,.pt Xp),(6,.cs I64),(9,.cs (.sl .str)),(10,.cs I64),(11,.cs I64)],[]⟩
def fr:=Yig sp (fun x s=>Xbd.B x.1.1 x.1.2.2.1 x.1.2.2.2.1 s.1 s.2) (fun x=>(x.1.2.1,x.1.2.2.2.2.1)) fun x (oo0:((Int×Int)⊕Int)) _ kk0=>sel oo0 (fun bb0=>kk0 (.rt) ⟨[(4,.cs I64 bb0.1),(5,.cs I64 bb0.2)],[]⟩) (fun cc0=>kk0 (.ex 0) ⟨[(6,.cs I64 cc0)],[]⟩)
theorem ok:Ya6 PR 32 2 (.loop c) fr:=
 Yr7 Xe Xd h0 .no (G:=Xbe.G) Xbe.Gok (L:=mkL []) (l:=[]) hT [(0,([6],[]))] ([4,5],[]) (fun x s=>((x.1.1,s.1,x.1.2.2.1,x.1.2.2.2.1,s.2,x.1.2.2.2.2.2),x.2))
  (fun x s=>by simp only[B,mC,mB,mS,mO,mN];kernel_rfl)
end Xbd
namespace Xbe
def pts:List PT:=[.pt Xp,.cs (.sl .str)]
def FS:FS:=Yc6 [.sh,.sh] pts (fun x=>Xbe x.1 x.2.1) fun t=>⟨[.cs I64 t.1,.cs I64 t.2],[]⟩
theorem ok:Ycv PR 67 FS:=
 Yvf Xe Xd Proofs.Tryz.f67 h0 (.R (.R (.L (.R (.one (.fr 0)))))) (G:=G) Gok (L:=mkL [(0,Xbd.fr)]) (l:=[(0,.loop Xbd.c)]) ⟨Lam.cons Xbd.ok,trivial⟩
  (fun x=>by simp only[Xbe,mC,mB,mS,mO,mN];kernel_rfl)
end Xbe
def Xdf (v:Fs_) (v2:List UInt8):Option (Int×Int):=
 (Xbc v2).bind fun v3=>cond (v3.2 != 0) (some (0,v3.2)) ((Xbe v v3.1).bind fun v4=>some (v4.1,v4.2))
namespace Xdf
def G:Gam:=mkG [(66,Xbc.FS),(67,Xbe.FS)]
def pts:List PT:=[.pt Xp,.cs .str]
def FS:FS:=Yc6 [.sh,.sh] pts (fun x=>Xdf x.1 x.2.1) fun t=>⟨[.cs I64 t.1,.cs I64 t.2],[]⟩
theorem ok:Ycv PR 44 FS:=
 Yvf Xe Xd Proofs.Tryz.f44 h0 .no (G:=G) (show GOk PR G from .cons Xbc.ok (.cons Xbe.ok .nil)) (L:=mkL []) (l:=[]) hT
  (fun x=>by simp only[Xdf,mC,mB,mS,mO,mN];kernel_rfl)
end Xdf
def Xb5.B (v:Fs_) (v2:Int) (v6:Int) (v5:List (List UInt8)) (v7:Int):Option (Int⊕((((List UInt8)×Int)⊕Unit))):=
 cond (decide (v7<v6)) (cond (inB v7 v5.length) ((Xdf v (v5.getD v7.toNat [])).bind fun v8=>cond (v8.1 == v2) (some (.inr (.inl (v5.getD v7.toNat [],0)))) (some (.inl (w64 (v7+1))))) none) (some (.inr (.inr ())))
def Xb5 (v:Fs_) (v2:Int) (v6:Int) (v5:List (List UInt8)):Int→Option ((((List UInt8)×Int)⊕Unit)):=
 Yap fun s=>Xb5.B v v2 v6 v5 s
def Xbf (v:Fs_) (v2:Int):Option ((List UInt8)×Int):=
 (Xb0 v.1).bind fun v3=>(Xao v2 0 (w64 (v3-1))).bind fun v4=>cond (!v4) (some (([]:List UInt8),3)) (cond (v2 == 0) (some (([47]:List UInt8),0)) ((Xc9 v).bind fun v5=>(Xb5 v v2 (v5.length:Int) v5 0).bind fun v9=>sel v9 (fun v10=>some (v10.1,v10.2)) (fun v11=>some (([]:List UInt8),4))))
namespace Xbf
def G:Gam:=mkG [(42,Xb0.FS),(28,Xao.FS),(43,Xc9.FS),(44,Xdf.FS)]
theorem Gok:GOk PR G:=.cons Xb0.ok (.cons Xao.ok (.cons Xc9.ok (.cons Xdf.ok .nil)))
end Xbf
namespace Xb5
noncomputable def c:=Yal (Yah Proofs.Tryz.f23) [1,1,1,0,1,0,0]
def sp:SP:=⟨[(0,.pt Xp),(1,.cs I64),(22,.seg 22 []),(23,.cs I64),(24,.cs I64)],[(22,.reg,.cd (.sl .str))]⟩
def fr:=Yig sp (fun x s=>Xb5.B x.1.1 x.1.2.1 x.1.2.2.2.1 x.2.1 s) (fun x=>x.1.2.2.2.2.1) fun x (oo0:(((List UInt8)×Int)⊕Unit)) _ kk0=>sel oo0 (fun bb0=>kk0 (.rt) ⟨[(4,.cs .str bb0.1),(5,.cs I64 bb0.2)],[]⟩) (fun cc0=>kk0 (.ex 0) ⟨[],[]⟩)
theorem ok:Ya6 PR 39 2 (.loop c) fr:=
 Yr7 Xe Xd h0 .no (G:=Xbf.G) Xbf.Gok (L:=mkL []) (l:=[]) hT [(0,([],[]))] ([4,5],[]) (fun x s=>((x.1.1,x.1.2.1,x.1.2.2.1,x.1.2.2.2.1,s,x.1.2.2.2.2.2),x.2))
  (fun x s=>by simp only[B,mC,mB,mS,mO,mN];kernel_rfl)
end Xb5
namespace Xbf
def pts:List PT:=[.pt Xp,.cs I64]
def FS:FS:=Yc6 [.sh,.sh] pts (fun x=>Xbf x.1 x.2.1) fun t=>⟨[.cs .str t.1,.cs I64 t.2],[]⟩
theorem ok:Ycv PR 23 FS:=
 Yvf Xe Xd Proofs.Tryz.f23 h0 (.R (.R (.R (.L (.R (.one (.fr 0))))))) (G:=G) Gok (L:=mkL [(0,Xb5.fr)]) (l:=[(0,.loop Xb5.c)]) ⟨Lam.cons Xb5.ok,trivial⟩
  (fun x=>by simp only[Xbf,mC,mB,mS,mO,mN];kernel_rfl)
end Xbf
def Xbg.B (v2:Int) (v:Fs_) (v5:List Xa) (v6:Int) (v8:Xj) (v7:Int):Option (Int⊕((Xj⊕Unit))):=
 cond (decide (v7<v6)) (cond (inB v7 v5.length) ((Xcw (v5.getD v7.toNat Xc).2.2.2.1 v2).bind fun v9=>cond v9 ((Xbf v v7).bind fun v10=>some (.inr (.inl (v10.2,v10.1,())))) (some (.inl (w64 (v7+1))))) none) (some (.inr (.inr ())))
def Xbg (v2:Int) (v:Fs_) (v5:List Xa) (v6:Int) (v8:Xj):Int→Option ((Xj⊕Unit)):=
 Yap fun s=>Xbg.B v2 v v5 v6 v8 s
def Xax (v:Fs_) (v2:Int):Option Xj:=
 (Xc7 v).bind fun v3=>cond (v3 != 0) (some (v3,[],())) ((Xao v2 0 19).bind fun v4=>cond (!v4) (some (3,[],())) ((Xbg v2 v v.1 (v.1.length:Int) (0,[],()) 0).bind fun v11=>sel v11 (fun v12=>some v12) (fun v13=>some (4,[],()))))
namespace Xax
def G:Gam:=mkG [(22,Xc7.FS),(28,Xao.FS),(29,Xcw.FS),(23,Xbf.FS)]
theorem Gok:GOk PR G:=.cons Xc7.ok (.cons Xao.ok (.cons Xcw.ok (.cons Xbf.ok .nil)))
end Xax
namespace Xbg
noncomputable def c:=Yal (Yah Proofs.Tryz.f12) [1,1,1,0,1,0,0]
def sp:SP:=⟨[(1,.cs I64),(2,.pt Xp),(4,.loc 4 []),(21,.cs (.sl Xb)),(22,.cs I64),(23,.cs I64)],[(4,.mem,.cd Xn)]⟩
def fr:=Yig sp (fun x s=>Xbg.B x.1.1 x.1.2.1 x.1.2.2.2.1 x.1.2.2.2.2.1 x.2.1 s) (fun x=>x.1.2.2.2.2.2.1) fun x (oo0:(Xj⊕Unit)) _ kk0=>sel oo0 (fun bb0=>kk0 (.rt) ⟨[(4,.loc 4 [])],[(4,some ⟨.mem,.cd Xn bb0⟩)]⟩) (fun cc0=>kk0 (.ex 0) ⟨[(4,.loc 4 [])],[(4,some ⟨.mem,.cd Xn x.2.1⟩)]⟩)
theorem ok:Ya6 PR 42 2 (.loop c) fr:=
 Yr7 Xe Xd ⟨[2],[],[],0⟩ .no (G:=Xax.G) Xax.Gok (L:=mkL []) (l:=[]) hT [(0,([4],[4]))] ([4],[4]) (fun x s=>((x.1.1,x.1.2.1,x.1.2.2.1,x.1.2.2.2.1,x.1.2.2.2.2.1,s,x.1.2.2.2.2.2.2),x.2))
  (fun x s=>by simp only[B,mC,mB,mS,mO,mN];kernel_rfl)
end Xbg
namespace Xax
def pts:List PT:=[.cs Xp,.cs I64]
def FS:FS:=Yc6 [.sh,.sh] pts (fun x=>Xax x.1 x.2.1) fun t=>⟨[.cs Xn t],[]⟩
theorem ok:Ycv PR 12 FS:=
 Yvf Xe Xd Proofs.Tryz.f12 ⟨[2],[],[],0⟩ (.R (.R (.R (.L (.R (.one (.fr 0))))))) (G:=G) Gok (L:=mkL [(0,Xbg.fr)]) (l:=[(0,.loop Xbg.c)]) ⟨Lam.cons Xbg.ok,trivial⟩
  (fun x=>by simp only[Xax,mC,mB,mS,mO,mN];kernel_rfl)
end Xax
def Xdg (a:Xj) (b:Xj):Option Bool:=
 cond (a.1 != b.1) (some false) (cond (!(a.2.1 == b.2.1)) (some false) (some true))
namespace Xdg
def pts:List PT:=[.cs Xn,.cs Xn]
def FS:FS:=Yc6 [.sh,.sh] pts (fun x=>Xdg x.1 x.2.1) fun t=>⟨[.cs .bool t],[]⟩
theorem ok:Ycv PR 9 FS:=
 Yvf Xe Xd Proofs.Tryz.f9 ⟨[2,3],[],[],0⟩ .no (G:=(mkG [])) .nil (L:=mkL []) (l:=[]) hT
  (fun x=>by simp only[Xdg,mC,mB,mS,mO,mN];kernel_rfl)
end Xdg
def Xbh.B (a:List Int) (b:List Int) (i_:Int):Option (Int⊕((Bool⊕Unit))):=
 cond (decide (i_<(a.length:Int))) (cond (inB i_ a.length) (cond (inB i_ b.length) (cond ((a.getD i_.toNat 0) != (b.getD i_.toNat 0)) (some (.inr (.inl false))) (some (.inl (w64 (i_+1))))) none) none) (some (.inr (.inr ())))
def Xbh (a:List Int) (b:List Int):Int→Option ((Bool⊕Unit)):=
 Yap fun s=>Xbh.B a b s
def Xdh (a:List Int) (b:List Int):Option Bool:=
 cond ((a.length:Int) != (b.length:Int)) (some false) ((Xbh a b 0).bind fun o=>sel o (fun b2=>some b2) (fun c=>some true))
namespace Xbh
noncomputable def c:=Yal (Yah Proofs.Tryz.f68) [1,1,0,1,0,0]
def sp:SP:=⟨[(0,.cs SI),(1,.cs SI),(5,.cs I64)],[]⟩
def fr:=Yig sp (fun x s=>Xbh.B x.1.1 x.1.2.1 s) (fun x=>x.1.2.2.1) fun x (oo0:(Bool⊕Unit)) _ kk0=>sel oo0 (fun bb0=>kk0 (.rt) ⟨[(4,.cs .bool bb0)],[]⟩) (fun cc0=>kk0 (.ex 0) ⟨[],[]⟩)
theorem ok:Ya6 PR 26 2 (.loop c) fr:=
 Yr7 Xe Xd h0 .no (G:=(mkG [])) .nil (L:=mkL []) (l:=[]) hT [(0,([],[]))] ([4],[]) (fun x s=>((x.1.1,x.1.2.1,s,x.1.2.2.2),x.2))
  (fun x s=>by simp only[B,mC,mB,mS,mO,mN];kernel_rfl)
end Xbh
namespace Xdh
def pts:List PT:=[.cs SI,.cs SI]
def FS:FS:=Yc6 [.sh,.sh] pts (fun x=>Xdh x.1 x.2.1) fun t=>⟨[.cs .bool t],[]⟩
theorem ok:Ycv PR 68 FS:=
 Yvf Xe Xd Proofs.Tryz.f68 h0 (.R (.R (.L (.R (.one (.fr 0)))))) (G:=(mkG [])) .nil (L:=mkL [(0,Xbh.fr)]) (l:=[(0,.loop Xbh.c)]) ⟨Lam.cons Xbh.ok,trivial⟩
  (fun x=>by simp only[Xdh,mC,mB,mS,mO,mN];kernel_rfl)
end Xdh
def Xdi (a:Xf) (b:Xf):Option Bool:=
 cond (!(a.1 == b.1)) (some false) (cond (a.2.1 != b.2.1) (some false) (some true))
namespace Xdi
def pts:List PT:=[.cs Xm,.cs Xm]
def FS:FS:=Yc6 [.sh,.sh] pts (fun x=>Xdi x.1 x.2.1) fun t=>⟨[.cs .bool t],[]⟩
theorem ok:Ycv PR 86 FS:=
 Yvf Xe Xd Proofs.Tryz.f86 ⟨[2,3],[],[],0⟩ .no (G:=(mkG [])) .nil (L:=mkL []) (l:=[]) hT
  (fun x=>by simp only[Xdi,mC,mB,mS,mO,mN];kernel_rfl)
end Xdi
def Xbi.B (a:List Xf) (b:List Xf) (i_:Int):Option (Int⊕((Bool⊕Unit))):=
 cond (decide (i_<(a.length:Int))) (cond (inB i_ a.length) (cond (inB i_ b.length) ((Xdi (a.getD i_.toNat Xo) (b.getD i_.toNat Xo)).bind fun r=>cond (!r) (some (.inr (.inl false))) (some (.inl (w64 (i_+1))))) none) none) (some (.inr (.inr ())))
def Xbi (a:List Xf) (b:List Xf):Int→Option ((Bool⊕Unit)):=
 Yap fun s=>Xbi.B a b s
def Xbj (a:List Xf) (b:List Xf):Option Bool:=
 cond ((a.length:Int) != (b.length:Int)) (some false) ((Xbi a b 0).bind fun o=>sel o (fun b2=>some b2) (fun c=>some true))
namespace Xbj
def G:Gam:=mkG [(86,Xdi.FS)]
theorem Gok:GOk PR G:=.cons Xdi.ok .nil
end Xbj
namespace Xbi
noncomputable def c:=Yal (Yah Proofs.Tryz.f69) [1,1,0,1,0,0]
def sp:SP:=⟨[(0,.cs (.sl Xm)),(1,.cs (.sl Xm)),(5,.cs I64)],[]⟩
def fr:=Yig sp (fun x s=>Xbi.B x.1.1 x.1.2.1 s) (fun x=>x.1.2.2.1) fun x (oo0:(Bool⊕Unit)) _ kk0=>sel oo0 (fun bb0=>kk0 (.rt) ⟨[(4,.cs .bool bb0)],[]⟩) (fun cc0=>kk0 (.ex 0) ⟨[],[]⟩)
theorem ok:Ya6 PR 27 2 (.loop c) fr:=
 Yr7 Xe Xd h0 .no (G:=Xbj.G) Xbj.Gok (L:=mkL []) (l:=[]) hT [(0,([],[]))] ([4],[]) (fun x s=>((x.1.1,x.1.2.1,s,x.1.2.2.2),x.2))
  (fun x s=>by simp only[B,mC,mB,mS,mO,mN];kernel_rfl)
end Xbi
namespace Xbj
def pts:List PT:=[.cs (.sl Xm),.cs (.sl Xm)]
def FS:FS:=Yc6 [.sh,.sh] pts (fun x=>Xbj x.1 x.2.1) fun t=>⟨[.cs .bool t],[]⟩
theorem ok:Ycv PR 69 FS:=
 Yvf Xe Xd Proofs.Tryz.f69 h0 (.R (.R (.L (.R (.one (.fr 0)))))) (G:=G) Gok (L:=mkL [(0,Xbi.fr)]) (l:=[(0,.loop Xbi.c)]) ⟨Lam.cons Xbi.ok,trivial⟩
  (fun x=>by simp only[Xbj,mC,mB,mS,mO,mN];kernel_rfl)
end Xbj
def Xdj (a:Xa) (b:Xa):Option Bool:=
 cond (a.1 != b.1) (some false) (cond (a.2.1 != b.2.1) (some false) (cond (a.2.2.1 != b.2.2.1) (some false) ((Xdh a.2.2.2.1 b.2.2.2.1).bind fun r=>cond (!r) (some false) ((Xbj a.2.2.2.2.1 b.2.2.2.2.1).bind fun r2=>cond (!r2) (some false) (some true)))))
namespace Xdj
def G:Gam:=mkG [(68,Xdh.FS),(69,Xbj.FS)]
def pts:List PT:=[.cs Xb,.cs Xb]
def FS:FS:=Yc6 [.sh,.sh] pts (fun x=>Xdj x.1 x.2.1) fun t=>⟨[.cs .bool t],[]⟩
theorem ok:Ycv PR 45 FS:=
 Yvf Xe Xd Proofs.Tryz.f45 ⟨[2,3],[],[],0⟩ .no (G:=G) (show GOk PR G from .cons Xdh.ok (.cons Xbj.ok .nil)) (L:=mkL []) (l:=[]) hT
  (fun x=>by simp only[Xdj,mC,mB,mS,mO,mN];kernel_rfl)
end Xdj
def Xbk.B (a:List Xa) (b:List Xa) (i_:Int):Option (Int⊕((Bool⊕Unit))):=
 cond (decide (i_<(a.length:Int))) (cond (inB i_ a.length) (cond (inB i_ b.length) ((Xdj (a.getD i_.toNat Xc) (b.getD i_.toNat Xc)).bind fun r=>cond (!r) (some (.inr (.inl false))) (some (.inl (w64 (i_+1))))) none) none) (some (.inr (.inr ())))
def Xbk (a:List Xa) (b:List Xa):Int→Option ((Bool⊕Unit)):=
 Yap fun s=>Xbk.B a b s
def Xbl (a:List Xa) (b:List Xa):Option Bool:=
 cond ((a.length:Int) != (b.length:Int)) (some false) ((Xbk a b 0).bind fun o=>sel o (fun b2=>some b2) (fun c=>some true))
namespace Xbl
def G:Gam:=mkG [(45,Xdj.FS)]
theorem Gok:GOk PR G:=.cons Xdj.ok .nil
end Xbl
namespace Xbk
noncomputable def c:=Yal (Yah Proofs.Tryz.f24) [1,1,0,1,0,0]
def sp:SP:=⟨[(0,.cs (.sl Xb)),(1,.cs (.sl Xb)),(5,.cs I64)],[]⟩
def fr:=Yig sp (fun x s=>Xbk.B x.1.1 x.1.2.1 s) (fun x=>x.1.2.2.1) fun x (oo0:(Bool⊕Unit)) _ kk0=>sel oo0 (fun bb0=>kk0 (.rt) ⟨[(4,.cs .bool bb0)],[]⟩) (fun cc0=>kk0 (.ex 0) ⟨[],[]⟩)
theorem ok:Ya6 PR 27 2 (.loop c) fr:=
 Yr7 Xe Xd h0 .no (G:=Xbl.G) Xbl.Gok (L:=mkL []) (l:=[]) hT [(0,([],[]))] ([4],[]) (fun x s=>((x.1.1,x.1.2.1,s,x.1.2.2.2),x.2))
  (fun x s=>by simp only[B,mC,mB,mS,mO,mN];kernel_rfl)
end Xbk
namespace Xbl
def pts:List PT:=[.cs (.sl Xb),.cs (.sl Xb)]
def FS:FS:=Yc6 [.sh,.sh] pts (fun x=>Xbl x.1 x.2.1) fun t=>⟨[.cs .bool t],[]⟩
theorem ok:Ycv PR 24 FS:=
 Yvf Xe Xd Proofs.Tryz.f24 h0 (.R (.R (.L (.R (.one (.fr 0)))))) (G:=G) Gok (L:=mkL [(0,Xbk.fr)]) (l:=[(0,.loop Xbk.c)]) ⟨Lam.cons Xbk.ok,trivial⟩
  (fun x=>by simp only[Xbl,mC,mB,mS,mO,mN];kernel_rfl)
end Xbl
def Xbm.B (a:List Int) (b:List Int) (i_:Int):Option (Int⊕((Bool⊕Unit))):=
 cond (decide (i_<(a.length:Int))) (cond (inB i_ a.length) (cond (inB i_ b.length) (cond ((a.getD i_.toNat 0) != (b.getD i_.toNat 0)) (some (.inr (.inl false))) (some (.inl (w64 (i_+1))))) none) none) (some (.inr (.inr ())))
def Xbm (a:List Int) (b:List Int):Int→Option ((Bool⊕Unit)):=
 Yap fun s=>Xbm.B a b s
def Xdk (a:List Int) (b:List Int):Option Bool:=
 cond ((a.length:Int) != (b.length:Int)) (some false) ((Xbm a b 0).bind fun o=>sel o (fun b2=>some b2) (fun c=>some true))
namespace Xbm
noncomputable def c:=Yal (Yah Proofs.Tryz.f46) [1,1,0,1,0,0]
def sp:SP:=⟨[(0,.cs SB),(1,.cs SB),(5,.cs I64)],[]⟩
def fr:=Yig sp (fun x s=>Xbm.B x.1.1 x.1.2.1 s) (fun x=>x.1.2.2.1) fun x (oo0:(Bool⊕Unit)) _ kk0=>sel oo0 (fun bb0=>kk0 (.rt) ⟨[(4,.cs .bool bb0)],[]⟩) (fun cc0=>kk0 (.ex 0) ⟨[],[]⟩)
theorem ok:Ya6 PR 26 2 (.loop c) fr:=
 Yr7 Xe Xd h0 .no (G:=(mkG [])) .nil (L:=mkL []) (l:=[]) hT [(0,([],[]))] ([4],[]) (fun x s=>((x.1.1,x.1.2.1,s,x.1.2.2.2),x.2))
  (fun x s=>by simp only[B,mC,mB,mS,mO,mN];kernel_rfl)
end Xbm
namespace Xdk
def pts:List PT:=[.cs SB,.cs SB]
def FS:FS:=Yc6 [.sh,.sh] pts (fun x=>Xdk x.1 x.2.1) fun t=>⟨[.cs .bool t],[]⟩
theorem ok:Ycv PR 46 FS:=
 Yvf Xe Xd Proofs.Tryz.f46 h0 (.R (.R (.L (.R (.one (.fr 0)))))) (G:=(mkG [])) .nil (L:=mkL [(0,Xbm.fr)]) (l:=[(0,.loop Xbm.c)]) ⟨Lam.cons Xbm.ok,trivial⟩
  (fun x=>by simp only[Xdk,mC,mB,mS,mO,mN];kernel_rfl)
end Xdk
def Xbn.B (a:List (List Int)) (b:List (List Int)) (i_:Int):Option (Int⊕((Bool⊕Unit))):=
 cond (decide (i_<(a.length:Int))) (cond (inB i_ a.length) (cond (inB i_ b.length) ((Xdk (a.getD i_.toNat []) (b.getD i_.toNat [])).bind fun r=>cond (!r) (some (.inr (.inl false))) (some (.inl (w64 (i_+1))))) none) none) (some (.inr (.inr ())))
def Xbn (a:List (List Int)) (b:List (List Int)):Int→Option ((Bool⊕Unit)):=
 Yap fun s=>Xbn.B a b s
def Xbo (a:List (List Int)) (b:List (List Int)):Option Bool:=
 cond ((a.length:Int) != (b.length:Int)) (some false) ((Xbn a b 0).bind fun o=>sel o (fun b2=>some b2) (fun c=>some true))
namespace Xbo
def G:Gam:=mkG [(46,Xdk.FS)]
theorem Gok:GOk PR G:=.cons Xdk.ok .nil
end Xbo
namespace Xbn
noncomputable def c:=Yal (Yah Proofs.Tryz.f25) [1,1,0,1,0,0]
def sp:SP:=⟨[(0,.cs (.sl SB)),(1,.cs (.sl SB)),(5,.cs I64)],[]⟩
def fr:=Yig sp (fun x s=>Xbn.B x.1.1 x.1.2.1 s) (fun x=>x.1.2.2.1) fun x (oo0:(Bool⊕Unit)) _ kk0=>sel oo0 (fun bb0=>kk0 (.rt) ⟨[(4,.cs .bool bb0)],[]⟩) (fun cc0=>kk0 (.ex 0) ⟨[],[]⟩)
theorem ok:Ya6 PR 27 2 (.loop c) fr:=
 Yr7 Xe Xd h0 .no (G:=Xbo.G) Xbo.Gok (L:=mkL []) (l:=[]) hT [(0,([],[]))] ([4],[]) (fun x s=>((x.1.1,x.1.2.1,s,x.1.2.2.2),x.2))
  (fun x s=>by simp only[B,mC,mB,mS,mO,mN];kernel_rfl)
end Xbn
namespace Xbo
def pts:List PT:=[.cs (.sl SB),.cs (.sl SB)]
def FS:FS:=Yc6 [.sh,.sh] pts (fun x=>Xbo x.1 x.2.1) fun t=>⟨[.cs .bool t],[]⟩
theorem ok:Ycv PR 25 FS:=
 Yvf Xe Xd Proofs.Tryz.f25 h0 (.R (.R (.L (.R (.one (.fr 0)))))) (G:=G) Gok (L:=mkL [(0,Xbn.fr)]) (l:=[(0,.loop Xbn.c)]) ⟨Lam.cons Xbn.ok,trivial⟩
  (fun x=>by simp only[Xbo,mC,mB,mS,mO,mN];kernel_rfl)
end Xbo
def Xdl (a:Fs_) (b:Fs_):Option Bool:=
 (Xbl a.1 b.1).bind fun r=>cond (!r) (some false) ((Xbo a.2.1 b.2.1).bind fun r2=>cond (!r2) (some false) (some true))
namespace Xdl
def G:Gam:=mkG [(24,Xbl.FS),(25,Xbo.FS)]
def pts:List PT:=[.cs Xp,.cs Xp]
def FS:FS:=Yc6 [.sh,.sh] pts (fun x=>Xdl x.1 x.2.1) fun t=>⟨[.cs .bool t],[]⟩
theorem ok:Ycv PR 10 FS:=
 Yvf Xe Xd Proofs.Tryz.f10 ⟨[2,3],[],[],0⟩ .no (G:=G) (show GOk PR G from .cons Xbl.ok (.cons Xbo.ok .nil)) (L:=mkL []) (l:=[]) hT
  (fun x=>by simp only[Xdl,mC,mB,mS,mO,mN];kernel_rfl)
end Xdl
def Xe2 (aF:Fs_) (aAt:Int):Option Bool:=
 (Xgi aF 1048576).bind fun r=>cond (decide (r<0)) (some true) ((Xfr aF).bind fun r2=>(Xdt (r2.1,r2.2.1,r2.2.2) aAt).bind fun r3=>(Xfr aF).bind fun r4=>(Xax (r4.1,r4.2.1,r4.2.2) aAt).bind fun r5=>(Xdg r5 r3).bind fun r6=>cond (!r6) (some false) ((Xfr aF).bind fun r7=>(Xdl (r4.1,r4.2.1,r4.2.2) (r7.1,r7.2.1,r7.2.2)).bind fun r8=>cond (!r8) (some false) (some true)))
namespace Xe2
def G:Gam:=mkG [(5,Xgi.FS),(7,Xfr.FS),(11,Xdt.FS),(12,Xax.FS),(9,Xdg.FS),(10,Xdl.FS)]
def pts:List PT:=[.cs Xp,.cs I64]
def FS:FS:=Yc6 [.sh,.sh] pts (fun x=>Xe2 x.1 x.2.1) fun t=>⟨[.cs .bool t],[]⟩
theorem ok:Ycv PR 4 FS:=
 Yvf Xe Xd Proofs.Tryz.f4 ⟨[2],[],[],0⟩ .no (G:=G) (show GOk PR G from .cons Xgi.ok (.cons Xfr.ok (.cons Xdt.ok (.cons Xax.ok (.cons Xdg.ok (.cons Xdl.ok .nil)))))) (L:=mkL []) (l:=[]) hT
  (fun x=>by simp only[Xe2,mC,mB,mS,mO,mN];kernel_rfl)
end Xe2
end Mf
