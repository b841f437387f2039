import Derived.Test.YtmkdncckdmanlaaGreatDoorMf4
import Derived.Test.YtmkdncckdmanlaaGreatDoorDoCallJ
import Derived.Test.YtmkdncckdmanlaaGreatDoorProg
import Derived.KernelRfl
import Derived.Shelf.SortM.Plain
import Derived.Shelf.SortM.SortNone
import Derived.Shelf.SlGeneric
import Derived.Ground.SlgmProg
set_option linter.unusedVariables false
set_option linter.unusedSimpArgs false
namespace Go.Proofs
open Go.Shelf
def Tryz.Xnj:Go.Shelf.Ren:=⟨fun | 5=>155 | 8=>183 | 7=>182 | 19=>207 | 20=>208 | 10=>198 | 11=>199 | 12=>200 | 13=>201 | 14=>202 | 15=>203 | 16=>204 | 17=>205 | 18=>206 | 30=>216 | 31=>217 | 32=>218 | 33=>219 | 34=>220 | 35=>221 | 40=>227 | n=>n,fun | 23=>29 | 25=>2 | 3=>3 | 32=>197 | 22=>29 | 0=>0 | 44=>215 | 46=>217 | 4=>4 | 36=>207 | 35=>206 | 41=>212 | 5=>5 | 9=>9 | 53=>220 | 57=>224 | 63=>231 | 64=>232 | n=>n,fun | n=>n⟩
theorem Tryz.Xoa:Go.Proofs.SlLaysM.n5 Tryz.prog Tryz.Xnj:={
 mixed:=by kernel_rfl
 f5:=⟨Tryz.f155.name,by decide,Tryz.func155.trans (congrArg some (by kernel_rfl))⟩
 f7:=⟨Tryz.f182.name,by decide,Tryz.func182.trans (congrArg some (by kernel_rfl))⟩
 f8:=Tryz.func183.trans (congrArg some (by kernel_rfl))
 f10:=⟨Tryz.f198.name,by decide,Tryz.func198.trans (congrArg some (by kernel_rfl))⟩
 f11:=⟨Tryz.f199.name,by decide,Tryz.func199.trans (congrArg some (by kernel_rfl))⟩
 f12:=⟨Tryz.f200.name,by decide,Tryz.func200.trans (congrArg some (by kernel_rfl))⟩
 f13:=⟨Tryz.f201.name,by decide,Tryz.func201.trans (congrArg some (by kernel_rfl))⟩
 f14:=⟨Tryz.f202.name,by decide,Tryz.func202.trans (congrArg some (by kernel_rfl))⟩
 f15:=⟨Tryz.f203.name,by decide,Tryz.func203.trans (congrArg some (by kernel_rfl))⟩
 f16:=⟨Tryz.f204.name,by decide,Tryz.func204.trans (congrArg some (by kernel_rfl))⟩
 f17:=⟨Tryz.f205.name,by decide,Tryz.func205.trans (congrArg some (by kernel_rfl))⟩
 f18:=⟨Tryz.f206.name,by decide,Tryz.func206.trans (congrArg some (by kernel_rfl))⟩
 f19:=Tryz.func207.trans (congrArg some (by kernel_rfl))
 f20:=Tryz.func208.trans (congrArg some (by kernel_rfl))
 f30:=⟨Tryz.f216.name,by decide,Tryz.func216.trans (congrArg some (by kernel_rfl))⟩
 f31:=Tryz.func217.trans (congrArg some (by kernel_rfl))
 f32:=Tryz.func218.trans (congrArg some (by kernel_rfl))
 f33:=⟨Tryz.f219.name,by decide,Tryz.func219.trans (congrArg some (by kernel_rfl))⟩
 f34:=⟨Tryz.f220.name,by decide,Tryz.func220.trans (congrArg some (by kernel_rfl))⟩
 f35:=⟨Tryz.f221.name,by decide,Tryz.func221.trans (congrArg some (by kernel_rfl))⟩
 f40:=⟨Tryz.f227.name,by decide,Tryz.func227.trans (congrArg some (by kernel_rfl))⟩
 t0:=Tryz.underlying0
 a0:=Tryz.isAgg0
 z0:=Tryz.sizeOf0
 v0:=Tryz.zeroValue0
 t3:=Tryz.underlying3
 a3:=Tryz.isAgg3
 z3:=Tryz.sizeOf3
 v3:=Tryz.zeroValue3
 t4:=Tryz.underlying4
 a4:=Tryz.isAgg4
 z4:=Tryz.sizeOf4
 v4:=Tryz.zeroValue4
 t5:=Tryz.underlying5
 a5:=Tryz.isAgg5
 z5:=Tryz.sizeOf5
 v5:=Tryz.zeroValue5
 t9:=Tryz.underlying9
 a9:=Tryz.isAgg9
 z9:=Tryz.sizeOf9
 v9:=Tryz.zeroValue9
 t22:=Tryz.underlying29
 a22:=Tryz.isAgg29
 z22:=Tryz.sizeOf29
 v22:=Tryz.zeroValue29
 t23:=Tryz.underlying29
 a23:=Tryz.isAgg29
 z23:=Tryz.sizeOf29
 v23:=Tryz.zeroValue29
 t25:=Tryz.underlying2
 a25:=Tryz.isAgg2
 z25:=Tryz.sizeOf2
 v25:=Tryz.zeroValue2
 t32:=Tryz.underlying197
 a32:=Tryz.isAgg197
 z32:=Tryz.sizeOf197
 v32:=Tryz.zeroValue197
 t35:=Tryz.underlying206
 a35:=Tryz.isAgg206
 z35:=Tryz.sizeOf206
 v35:=Tryz.zeroValue206
 t36:=Tryz.underlying207
 a36:=Tryz.isAgg207
 z36:=Tryz.sizeOf207
 v36:=Tryz.zeroValue207
 t41:=Tryz.underlying212
 a41:=Tryz.isAgg212
 z41:=Tryz.sizeOf212
 v41:=Tryz.zeroValue212
 t44:=Tryz.underlying215
 a44:=Tryz.isAgg215
 z44:=Tryz.sizeOf215
 v44:=Tryz.zeroValue215
 t46:=Tryz.underlying217
 a46:=Tryz.isAgg217
 z46:=Tryz.sizeOf217
 v46:=Tryz.zeroValue217
 t53:=Tryz.underlying220
 a53:=Tryz.isAgg220
 z53:=Tryz.sizeOf220
 v53:=Tryz.zeroValue220
 t57:=Tryz.underlying224
 a57:=Tryz.isAgg224
 z57:=Tryz.sizeOf224
 v57:=Tryz.zeroValue224
 t63:=Tryz.underlying231
 a63:=Tryz.isAgg231
 z63:=Tryz.sizeOf231
 v63:=Tryz.zeroValue231
 t64:=Tryz.underlying232
 a64:=Tryz.isAgg232
 z64:=Tryz.sizeOf232
 v64:=Tryz.zeroValue232 }
end Go.Proofs
noncomputable section
namespace Mf
open Go
set_option maxRecDepth 100000
abbrev Xi:Ty:=(.pair .str (.pair (.int .i64) .unit))
abbrev Xg:Type:=(List UInt8)×Int×Unit
def Xk:Xg:=([],0,())
abbrev Xd:Ty:=(.pair (.int .i64) (.pair (.int .i64) (.pair (.int .i64) (.pair (.sl (.int .i64)) (.pair (.sl Xi) .unit)))))
abbrev Xb:Type:=Int×Int×Int×(List Int)×(List Xg)×Unit
def Xa:Xb:=(0,0,0,[],[],())
abbrev Xh:Ty:=(.pair (.sl Xd) (.pair (.sl (.sl (.int .u8))) .unit))
abbrev Fs_:Type:=(List Xb)×(List (List Int))×Unit
def Xtj:Fs_:=([],[],())
abbrev Xa2:Ty:=(.pair (.int .i64) (.pair (.sl (.int .u8)) .unit))
abbrev Xb3:Type:=Int×(List Int)×Unit
def Xpg:Xb3:=(0,[],())
abbrev Xv:Ty:=(.pair (.int .i64) (.pair .str (.pair .str (.pair (.int .i64) Xa2))))
abbrev Xap:Type:=Int×(List UInt8)×(List UInt8)×Int×Xb3
def Xth:Xap:=(0,[],[],0,0,[],())
abbrev Xj:Ty:=(.pair (.int .i64) (.pair (.int .i64) (.pair (.int .i64) (.pair (.sl (.int .u8)) (.pair (.sl .str) (.pair Xh .unit))))))
abbrev Xo:Type:=Int×Int×Int×(List Int)×(List (List UInt8))×Fs_×Unit
def Xpo:Xo:=(0,0,0,[],[],([],[],()),())
abbrev Xy:Ty:=(.pair (.int .i64) (.pair Xh .unit))
abbrev X7:Type:=Int×Fs_×Unit
def Xqx:X7:=(0,([],[],()),())
abbrev Xa9:Ty:=(.pair (.int .i64) (.pair (.sl (.int .i64)) .unit))
abbrev Xcl:Type:=Int×(List Int)×Unit
def Xpp:Xcl:=(0,[],())
abbrev Xal:Ty:=(.pair (.int .i64) (.pair (.sl .str) .unit))
abbrev Xx:Type:=Int×(List (List UInt8))×Unit
def Xph:Xx:=(0,[],())
abbrev Xb4:Ty:=(.pair (.int .i64) (.pair (.int .i64) (.pair (.int .i64) (.pair (.int .i64) (.pair (.int .i64) .unit)))))
abbrev Xf3:Type:=Int×Int×Int×Int×Int×Unit
def Xpq:Xf3:=(0,0,0,0,0,())
abbrev Xc9:Ty:=(.pair (.int .u8) (.pair (.int .u8) .unit))
abbrev Xma:Type:=Int×Int×Unit
def Xpe:Xma:=(0,0,())
abbrev Xhc:Ty:=(.pair (.int .i64) (.pair (.int .i64) (.pair .bool (.pair (.int .u8) .unit))))
abbrev Xmb:Type:=Int×Int×Bool×Int×Unit
def Xpf:Xmb:=(0,0,false,0,())
abbrev Xbu:Ty:=(.pair .str (.pair (.int .u64) .unit))
abbrev Xgu:Type:=(List UInt8)×Int×Unit
def Xnn:Xgu:=([],0,())
noncomputable abbrev PR:Program:=Go.Proofs.Tryz.prog
def tb:Tb:=[(2,⟨.int .i64,(.int .i64),8⟩),(3,⟨.int .i64,(.int .i64),8⟩),(4,⟨.bool,.bool,1⟩),(5,⟨.int .u8,(.int .u8),1⟩),(6,⟨.int .u8,(.int .u8),1⟩),(7,⟨.st [0,1,2,3],Xhc,24⟩),(8,⟨.st [0,1,2,3],Xhc,24⟩),(9,⟨.str,.str,16⟩),(10,⟨.str,.str,16⟩),(11,⟨.str,.str,16⟩),(12,⟨.int .u64,(.int .u64),8⟩),(13,⟨.st [0,1],Xbu,24⟩),(14,⟨.st [0,1],Xbu,24⟩),(21,⟨.int .i32,(.int .i32),4⟩),(22,⟨.sl 75,(.sl Xd),24⟩),(23,⟨.sl 26,(.sl (.sl (.int .u8))),24⟩),(24,⟨.st [0,1],Xh,48⟩),(25,⟨.st [0,1],Xh,48⟩),(26,⟨.sl 5,(.sl (.int .u8)),24⟩),(27,⟨.st [0,1,2,3,4,5],Xv,80⟩),(28,⟨.st [0,1,2,3,4,5],Xv,80⟩),(29,⟨.sl 2,(.sl (.int .i64)),24⟩),(32,⟨.sl 9,(.sl .str),24⟩),(33,⟨.sl 84,(.sl Xd),24⟩),(34,⟨.st [0,1],Xh,48⟩),(35,⟨.st [0,1],Xh,48⟩),(36,⟨.st [0,1,2,3,4,5],Xj,120⟩),(37,⟨.st [0,1,2,3,4,5],Xj,120⟩),(40,⟨.st [0,1,2,3,4,5],Xv,80⟩),(73,⟨.sl 158,(.sl Xi),24⟩),(74,⟨.st [0,1,2,3,4],Xd,72⟩),(75,⟨.st [0,1,2,3,4],Xd,72⟩),(82,⟨.sl 89,(.sl Xi),24⟩),(83,⟨.st [0,1,2,3,4],Xd,72⟩),(84,⟨.st [0,1,2,3,4],Xd,72⟩),(88,⟨.st [0,1],Xi,24⟩),(89,⟨.st [0,1],Xi,24⟩),(96,⟨.st [0,1,2,3,4],Xb4,40⟩),(97,⟨.st [0,1,2,3,4],Xb4,40⟩),(118,⟨.st [0,1],Xy,56⟩),(119,⟨.st [0,1],Xy,56⟩),(120,⟨.st [0,1],Xa2,32⟩),(121,⟨.st [0,1],Xa2,32⟩),(131,⟨.st [0,1],Xal,32⟩),(132,⟨.st [0,1],Xal,32⟩),(138,⟨.arr 20 2,(.arr 20 (.int .i64)),160⟩),(158,⟨.st [0,1],Xi,24⟩),(160,⟨.sl 4,(.sl .bool),24⟩),(190,⟨.st [0,1],Xa9,32⟩),(191,⟨.st [0,1],Xa9,32⟩),(197,⟨.int .u64,(.int .u64),8⟩),(206,⟨.int .i64,(.int .i64),8⟩),(215,⟨.int .u32,(.int .u32),4⟩),(217,⟨.int .u64,(.int .u64),8⟩),(220,⟨.int .u64,(.int .u64),8⟩),(235,⟨.arr 256 5,(.arr 256 (.int .u8)),256⟩),(236,⟨.st [0,1],Xc9,2⟩),(237,⟨.st [0,1],Xc9,2⟩),(238,⟨.arr 16 237,(.arr 16 Xc9),32⟩),(248,⟨.int .u8,(.int .u8),1⟩),(249,⟨.int .u8,(.int .u8),1⟩),(252,⟨.int .i32,(.int .i32),4⟩),(253,⟨.int .i32,(.int .i32),4⟩)]
theorem Xf:Yaf Go.Proofs.Tryz.prog tb:=Yw5 (by kernel_rfl)
theorem Xe:Go.Proofs.Tryz.prog.follows .mixedOrders=true:=by kernel_rfl
def Zq0 (a:List Int) (left:Int):Option Int:=
 cond (decide ((w64 (left-(a.length:Int)))<0)) (some (-1)) (some (w64 (left-(a.length:Int))))
namespace Zq0
def pts:List PT:=[.cs SI,.cs I64]
def FS:FS:=Ycx [.sh,.sh] pts (fun x=>Zq0 x.1 x.2.1) fun t=>⟨[.cs I64 t],[]⟩
theorem ok:Ycm PR 83 FS:=
 Yw7 Xf Xe Proofs.Tryz.f83 h0 .no (G:=(mkG [])) .nil (L:=mkL []) (l:=[]) hT
  (fun x=>by simp only[Zq0,mC,mB,mS,mO,mN];kernel_rfl)
end Zq0
def Zq1 (a:Xg) (left:Int):Option Int:=
 cond (decide ((w64 (left-(a.1.length:Int)))<0)) (some (-1)) (some (w64 (left-(a.1.length:Int))))
namespace Zq1
def pts:List PT:=[.cs Xi,.cs I64]
def FS:FS:=Ycx [.sh,.sh] pts (fun x=>Zq1 x.1 x.2.1) fun t=>⟨[.cs I64 t],[]⟩
theorem ok:Ycm PR 137 FS:=
 Yw7 Xf Xe Proofs.Tryz.f137 ⟨[2],[],[],0⟩ .no (G:=(mkG [])) .nil (L:=mkL []) (l:=[]) hT
  (fun x=>by simp only[Zq1,mC,mB,mS,mO,mN];kernel_rfl)
end Zq1
def Zq2.B (a:List Xg) (left_:Int) (i_:Int):Option ((Int×Int)⊕((Int⊕Int))):=
 cond (decide (i_<(a.length:Int))) (cond (inB i_ a.length) ((Zq1 (a.getD i_.toNat Xk) left_).bind fun r=>cond (decide (r<0)) (some (.inr (.inl (-1)))) (some (.inl (r,w64 (i_+1))))) none) (some (.inr (.inr left_)))
def Zq2 (a:List Xg):(Int×Int)→Option ((Int⊕Int)):=
 Yan fun s=>Zq2.B a s.1 s.2
def Zq3 (a:List Xg) (left:Int):Option Int:=
 cond (decide ((w64 (left-(a.length:Int)))<0)) (some (-1)) ((Zq2 a (w64 (left-(a.length:Int)),0)).bind fun o=>sel o (fun b=>some b) (fun c=>some c))
namespace Zq3
def G:Gam:=mkG [(137,Zq1.FS)]
theorem Gok:GOk PR G:=.cons Zq1.ok .nil
end Zq3
namespace Zq2
noncomputable def c:=Yar (Yag Proofs.Tryz.f84) [1,1,1,0,1,0,0]
def sp:SP:=⟨[(0,.cs (.sl Xi)),(1,.cs I64),(5,.cs I64)],[]⟩
def fr:=Yja sp (fun x s=>Zq2.B x.1.1 s.1 s.2) (fun x=>(x.1.2.1,x.1.2.2.1)) fun x (oo0:(Int⊕Int)) _ kk0=>sel oo0 (fun bb0=>kk0 (.rt) ⟨[(4,.cs I64 bb0)],[]⟩) (fun cc0=>kk0 (.ex 0) ⟨[(1,.cs I64 cc0)],[]⟩)
theorem ok:Ya2 PR 27 2 (.loop c) fr:=
 Yth Xf Xe h0 .no (G:=Zq3.G) Zq3.Gok (L:=mkL []) (l:=[]) hT [(0,([1],[]))] ([4],[]) (fun x s=>((x.1.1,s.1,s.2,x.1.2.2.2),x.2))
  (fun x s=>by simp only[B,mC,mB,mS,mO,mN];kernel_rfl)
end Zq2
namespace Zq3
def pts:List PT:=[.cs (.sl Xi),.cs I64]
def FS:FS:=Ycx [.sh,.sh] pts (fun x=>Zq3 x.1 x.2.1) fun t=>⟨[.cs I64 t],[]⟩
theorem ok:Ycm PR 84 FS:=
 Yw7 Xf Xe Proofs.Tryz.f84 h0 (.R (.R (.R (.L (.R (.one (.fr 0))))))) (G:=G) Gok (L:=mkL [(0,Zq2.fr)]) (l:=[(0,.loop Zq2.c)]) ⟨Lam.cons Zq2.ok,trivial⟩
  (fun x=>by simp only[Zq3,mC,mB,mS,mO,mN];kernel_rfl)
end Zq3
def Zq4 (a:Xb) (left:Int):Option Int:=
 (Zq0 a.2.2.2.1 left).bind fun r=>cond (decide (r<0)) (some (-1)) ((Zq3 a.2.2.2.2.1 r).bind fun r2=>cond (decide (r2<0)) (some (-1)) (some r2))
namespace Zq4
def G:Gam:=mkG [(83,Zq0.FS),(84,Zq3.FS)]
def pts:List PT:=[.cs Xd,.cs I64]
def FS:FS:=Ycx [.sh,.sh] pts (fun x=>Zq4 x.1 x.2.1) fun t=>⟨[.cs I64 t],[]⟩
theorem ok:Ycm PR 46 FS:=
 Yw7 Xf Xe Proofs.Tryz.f46 ⟨[2],[],[],0⟩ .no (G:=G) (show GOk PR G from .cons Zq0.ok (.cons Zq3.ok .nil)) (L:=mkL []) (l:=[]) hT
  (fun x=>by simp only[Zq4,mC,mB,mS,mO,mN];kernel_rfl)
end Zq4
def Zq5.B (a:List Xb) (left_:Int) (i_:Int):Option ((Int×Int)⊕((Int⊕Int))):=
 cond (decide (i_<(a.length:Int))) (cond (inB i_ a.length) ((Zq4 (a.getD i_.toNat Xa) left_).bind fun r=>cond (decide (r<0)) (some (.inr (.inl (-1)))) (some (.inl (r,w64 (i_+1))))) none) (some (.inr (.inr left_)))
def Zq5 (a:List Xb):(Int×Int)→Option ((Int⊕Int)):=
 Yan fun s=>Zq5.B a s.1 s.2
def Zq6 (a:List Xb) (left:Int):Option Int:=
 cond (decide ((w64 (left-(a.length:Int)))<0)) (some (-1)) ((Zq5 a (w64 (left-(a.length:Int)),0)).bind fun o=>sel o (fun b=>some b) (fun c=>some c))
namespace Zq6
def G:Gam:=mkG [(46,Zq4.FS)]
theorem Gok:GOk PR G:=.cons Zq4.ok .nil
end Zq6
namespace Zq5
noncomputable def c:=Yar (Yag Proofs.Tryz.f20) [1,1,1,0,1,0,0]
def sp:SP:=⟨[(0,.cs (.sl Xd)),(1,.cs I64),(5,.cs I64)],[]⟩
def fr:=Yja sp (fun x s=>Zq5.B x.1.1 s.1 s.2) (fun x=>(x.1.2.1,x.1.2.2.1)) fun x (oo0:(Int⊕Int)) _ kk0=>sel oo0 (fun bb0=>kk0 (.rt) ⟨[(4,.cs I64 bb0)],[]⟩) (fun cc0=>kk0 (.ex 0) ⟨[(1,.cs I64 cc0)],[]⟩)
theorem ok:Ya2 PR 27 2 (.loop c) fr:=
 Yth Xf Xe h0 .no (G:=Zq6.G) Zq6.Gok (L:=mkL []) (l:=[]) hT [(0,([1],[]))] ([4],[]) (fun x s=>((x.1.1,s.1,s.2,x.1.2.2.2),x.2))
  (fun x s=>by simp only[B,mC,mB,mS,mO,mN];kernel_rfl)
end Zq5
namespace Zq6
def pts:List PT:=[.cs (.sl Xd),.cs I64]
def FS:FS:=Ycx [.sh,.sh] pts (fun x=>Zq6 x.1 x.2.1) fun t=>⟨[.cs I64 t],[]⟩
theorem ok:Ycm PR 20 FS:=
 Yw7 Xf Xe Proofs.Tryz.f20 h0 (.R (.R (.R (.L (.R (.one (.fr 0))))))) (G:=G) Gok (L:=mkL [(0,Zq5.fr)]) (l:=[(0,.loop Zq5.c)]) ⟨Lam.cons Zq5.ok,trivial⟩
  (fun x=>by simp only[Zq6,mC,mB,mS,mO,mN];kernel_rfl)
end Zq6
def Zq7 (a:List Int) (left:Int):Option Int:=
 cond (decide ((w64 (left-(a.length:Int)))<0)) (some (-1)) (some (w64 (left-(a.length:Int))))
namespace Zq7
def pts:List PT:=[.cs SB,.cs I64]
def FS:FS:=Ycx [.sh,.sh] pts (fun x=>Zq7 x.1 x.2.1) fun t=>⟨[.cs I64 t],[]⟩
theorem ok:Ycm PR 22 FS:=
 Yw7 Xf Xe Proofs.Tryz.f22 h0 .no (G:=(mkG [])) .nil (L:=mkL []) (l:=[]) hT
  (fun x=>by simp only[Zq7,mC,mB,mS,mO,mN];kernel_rfl)
end Zq7
def Zq8.B (a:List (List Int)) (left_:Int) (i_:Int):Option ((Int×Int)⊕((Int⊕Int))):=
 cond (decide (i_<(a.length:Int))) (cond (inB i_ a.length) ((Zq7 (a.getD i_.toNat []) left_).bind fun r=>cond (decide (r<0)) (some (.inr (.inl (-1)))) (some (.inl (r,w64 (i_+1))))) none) (some (.inr (.inr left_)))
def Zq8 (a:List (List Int)):(Int×Int)→Option ((Int⊕Int)):=
 Yan fun s=>Zq8.B a s.1 s.2
def Zq9 (a:List (List Int)) (left:Int):Option Int:=
 cond (decide ((w64 (left-(a.length:Int)))<0)) (some (-1)) ((Zq8 a (w64 (left-(a.length:Int)),0)).bind fun o=>sel o (fun b=>some b) (fun c=>some c))
namespace Zq9
def G:Gam:=mkG [(22,Zq7.FS)]
theorem Gok:GOk PR G:=.cons Zq7.ok .nil
end Zq9
namespace Zq8
noncomputable def c:=Yar (Yag Proofs.Tryz.f21) [1,1,1,0,1,0,0]
def sp:SP:=⟨[(0,.cs (.sl SB)),(1,.cs I64),(5,.cs I64)],[]⟩
def fr:=Yja sp (fun x s=>Zq8.B x.1.1 s.1 s.2) (fun x=>(x.1.2.1,x.1.2.2.1)) fun x (oo0:(Int⊕Int)) _ kk0=>sel oo0 (fun bb0=>kk0 (.rt) ⟨[(4,.cs I64 bb0)],[]⟩) (fun cc0=>kk0 (.ex 0) ⟨[(1,.cs I64 cc0)],[]⟩)
theorem ok:Ya2 PR 27 2 (.loop c) fr:=
 Yth Xf Xe h0 .no (G:=Zq9.G) Zq9.Gok (L:=mkL []) (l:=[]) hT [(0,([1],[]))] ([4],[]) (fun x s=>((x.1.1,s.1,s.2,x.1.2.2.2),x.2))
  (fun x s=>by simp only[B,mC,mB,mS,mO,mN];kernel_rfl)
end Zq8
namespace Zq9
def pts:List PT:=[.cs (.sl SB),.cs I64]
def FS:FS:=Ycx [.sh,.sh] pts (fun x=>Zq9 x.1 x.2.1) fun t=>⟨[.cs I64 t],[]⟩
theorem ok:Ycm PR 21 FS:=
 Yw7 Xf Xe Proofs.Tryz.f21 h0 (.R (.R (.R (.L (.R (.one (.fr 0))))))) (G:=G) Gok (L:=mkL [(0,Zq8.fr)]) (l:=[(0,.loop Zq8.c)]) ⟨Lam.cons Zq8.ok,trivial⟩
  (fun x=>by simp only[Zq9,mC,mB,mS,mO,mN];kernel_rfl)
end Zq9
def Xmc (a:Fs_) (left:Int):Option Int:=
 (Zq6 a.1 left).bind fun r=>cond (decide (r<0)) (some (-1)) ((Zq9 a.2.1 r).bind fun r2=>cond (decide (r2<0)) (some (-1)) (some r2))
namespace Xmc
def G:Gam:=mkG [(20,Zq6.FS),(21,Zq9.FS)]
def pts:List PT:=[.cs Xh,.cs I64]
def FS:FS:=Ycx [.sh,.sh] pts (fun x=>Xmc x.1 x.2.1) fun t=>⟨[.cs I64 t],[]⟩
theorem ok:Ycm PR 4 FS:=
 Yw7 Xf Xe Proofs.Tryz.f4 ⟨[2],[],[],0⟩ .no (G:=G) (show GOk PR G from .cons Zq6.ok (.cons Zq9.ok .nil)) (L:=mkL []) (l:=[]) hT
  (fun x=>by simp only[Xmc,mC,mB,mS,mO,mN];kernel_rfl)
end Xmc
def Xmd (a:Xap) (left:Int):Option Int:=
 cond (decide ((w64 (left-(a.2.1.length:Int)))<0)) (some (-1)) ((some (w64 ((w64 (left-(a.2.1.length:Int)))-(a.2.2.1.length:Int)))).bind fun v=>cond (decide (v<0)) (some (-1)) ((Zq7 a.2.2.2.2.2.1 v).bind fun r=>cond (decide (r<0)) (some (-1)) (some r)))
namespace Xmd
def G:Gam:=mkG [(22,Zq7.FS)]
def pts:List PT:=[.cs Xv,.cs I64]
def FS:FS:=Ycx [.sh,.sh] pts (fun x=>Xmd x.1 x.2.1) fun t=>⟨[.cs I64 t],[]⟩
theorem ok:Ycm PR 5 FS:=
 Yw7 Xf Xe Proofs.Tryz.f5 ⟨[2],[],[],0⟩ .no (G:=G) (show GOk PR G from .cons Zq7.ok .nil) (L:=mkL []) (l:=[]) hT
  (fun x=>by simp only[Xmd,mC,mB,mS,mO,mN];kernel_rfl)
end Xmd
def Xi0.B (a:List Int) (i_:Int) (out_:List Int):Option ((Int×List Int)⊕(List Int)):=
 cond (decide (i_<(a.length:Int))) (cond (inB i_ a.length) (cond (inB i_ out_.length) (some (.inl (w64 (i_+1),out_.set i_.toNat (a.getD i_.toNat 0)))) none) none) (some (.inr out_))
def Xi0 (a:List Int):(Int×List Int)→Option (List Int):=
 Yan fun s=>Xi0.B a s.1 s.2
def Xhe (a:List Int):Option (List Int):=
 cond (decide ((0:Int)≤(a.length:Int))&&(decide ((a.length:Int)≤(a.length:Int))&&decide ((a.length:Int)≤2147483648))) ((Xi0 a (0,List.replicate (a.length:Int).toNat 0)).bind fun o=>some o) none
namespace Xi0
noncomputable def c:=Yar (Yag Proofs.Tryz.f9) [1,1,0,1,0,0]
def sp:SP:=⟨[(0,.cs SI),(3,.seg 3 []),(4,.cs I64)],[(3,.reg,.cd SI)]⟩
def fr:=Yja sp (fun x s=>Xi0.B x.1.1 s.1 s.2) (fun x=>(x.1.2.2.1,x.2.1)) fun x (bb0:List Int) _ kk0=>kk0 (.ex 0) ⟨[(3,.seg 3 [])],[sr 3 (.cd SI bb0)]⟩
theorem ok:Ya2 PR 22 1 (.loop c) fr:=
 Yw0 Xf Xe h0 [(0,([3],[3]))] (fun x s=>((x.1.1,x.1.2.1,s.1,x.1.2.2.2),(s.2,x.2.2)))
  (fun x s=>by simp only[B,mC,mB,mS,mO,mN];kernel_rfl)
end Xi0
namespace Xhe
def pts:List PT:=[.cs SI]
def FS:FS:=Ycx [.sh] pts (fun x=>Xhe x.1) fun t=>⟨[.cd SI t],[]⟩
theorem ok:Ycm PR 9 FS:=
 Yw7 Xf Xe Proofs.Tryz.f9 h0 (.R (.R (.L (.R (.one (.fr 0)))))) (G:=(mkG [])) .nil (L:=mkL [(0,Xi0.fr)]) (l:=[(0,.loop Xi0.c)]) ⟨Lam.cons Xi0.ok,trivial⟩
  (fun x=>by simp only[Xhe,mC,mB,mS,mO,mN];kernel_rfl)
end Xhe
def Xme (a:Xg):Option Xg:=
 some (a.1,a.2.1,())
namespace Xme
def pts:List PT:=[.cs Xi]
def FS:FS:=Ycx [.sh] pts (fun x=>Xme x.1) fun t=>⟨[.cs Xi t],[]⟩
theorem ok:Ycm PR 152 FS:=
 Yw7 Xf Xe Proofs.Tryz.f152 ⟨[1],[],[],0⟩ .no (G:=(mkG [])) .nil (L:=mkL []) (l:=[]) hT
  (fun x=>by simp only[Xme,mC,mB,mS,mO,mN];kernel_rfl)
end Xme
def Xi1.B (a:List Xg) (i_:Int) (out_:List Xg):Option ((Int×List Xg)⊕(List Xg)):=
 cond (decide (i_<(a.length:Int))) (cond (inB i_ a.length) ((Xme (a.getD i_.toNat Xk)).bind fun r=>cond (inB i_ out_.length) (some (.inl (w64 (i_+1),out_.set i_.toNat r))) none) none) (some (.inr out_))
def Xi1 (a:List Xg):(Int×List Xg)→Option (List Xg):=
 Yan fun s=>Xi1.B a s.1 s.2
def Xi2 (a:List Xg):Option (List Xg):=
 cond (decide ((0:Int)≤(a.length:Int))&&(decide ((a.length:Int)≤(a.length:Int))&&decide ((a.length:Int)≤2147483648))) ((Xi1 a (0,List.replicate (a.length:Int).toNat Xk)).bind fun o=>some o) none
namespace Xi2
def G:Gam:=mkG [(152,Xme.FS)]
theorem Gok:GOk PR G:=.cons Xme.ok .nil
end Xi2
namespace Xi1
noncomputable def c:=Yar (Yag Proofs.Tryz.f108) [1,1,0,1,0,0]
def sp:SP:=⟨[(0,.cs (.sl Xi)),(3,.seg 3 []),(4,.cs I64)],[(3,.reg,.cd (.sl Xi))]⟩
def fr:=Yja sp (fun x s=>Xi1.B x.1.1 s.1 s.2) (fun x=>(x.1.2.2.1,x.2.1)) fun x (bb0:List Xg) _ kk0=>kk0 (.ex 0) ⟨[(3,.seg 3 [])],[sr 3 (.cd (.sl Xi) bb0)]⟩
theorem ok:Ya2 PR 23 1 (.loop c) fr:=
 Yw9 Xf Xe h0 (G:=Xi2.G) Xi2.Gok [(0,([3],[3]))] (fun x s=>((x.1.1,x.1.2.1,s.1,x.1.2.2.2),(s.2,x.2.2)))
  (fun x s=>by simp only[B,mC,mB,mS,mO,mN];kernel_rfl)
end Xi1
namespace Xi2
def pts:List PT:=[.cs (.sl Xi)]
def FS:FS:=Ycx [.sh] pts (fun x=>Xi2 x.1) fun t=>⟨[.cd (.sl Xi) t],[]⟩
theorem ok:Ycm PR 108 FS:=
 Yw7 Xf Xe Proofs.Tryz.f108 h0 (.R (.R (.L (.R (.one (.fr 0)))))) (G:=G) Gok (L:=mkL [(0,Xi1.fr)]) (l:=[(0,.loop Xi1.c)]) ⟨Lam.cons Xi1.ok,trivial⟩
  (fun x=>by simp only[Xi2,mC,mB,mS,mO,mN];kernel_rfl)
end Xi2
def Xmf (a:Xb):Option Xb:=
 (Xhe a.2.2.2.1).bind fun r=>(Xi2 a.2.2.2.2.1).bind fun r2=>some (a.1,a.2.1,a.2.2.1,r,r2,())
namespace Xmf
def G:Gam:=mkG [(9,Xhe.FS),(108,Xi2.FS)]
def pts:List PT:=[.cs Xd]
def FS:FS:=Ycx [.sh] pts (fun x=>Xmf x.1) fun t=>⟨[.cd Xd t],[]⟩
theorem ok:Ycm PR 58 FS:=
 Yw7 Xf Xe Proofs.Tryz.f58 ⟨[1],[],[],0⟩ .no (G:=G) (show GOk PR G from .cons Xhe.ok (.cons Xi2.ok .nil)) (L:=mkL []) (l:=[]) hT
  (fun x=>by simp only[Xmf,mC,mB,mS,mO,mN];kernel_rfl)
end Xmf
def Xi3.B (a:List Xb) (i_:Int) (out_:List Xb):Option ((Int×List Xb)⊕(List Xb)):=
 cond (decide (i_<(a.length:Int))) (cond (inB i_ a.length) ((Xmf (a.getD i_.toNat Xa)).bind fun r=>cond (inB i_ out_.length) ((some (out_.set i_.toNat (r.1,r.2.1,r.2.2.1,r.2.2.2.1,r.2.2.2.2.1,r.2.2.2.2.2))).bind fun out_2=>some (.inl (w64 (i_+1),out_2))) none) none) (some (.inr out_))
def Xi3 (a:List Xb):(Int×List Xb)→Option (List Xb):=
 Yan fun s=>Xi3.B a s.1 s.2
def Xi4 (a:List Xb):Option (List Xb):=
 cond (decide ((0:Int)≤(a.length:Int))&&(decide ((a.length:Int)≤(a.length:Int))&&decide ((a.length:Int)≤2147483648))) ((Xi3 a (0,List.replicate (a.length:Int).toNat Xa)).bind fun o=>some o) none
namespace Xi4
def G:Gam:=mkG [(58,Xmf.FS)]
theorem Gok:GOk PR G:=.cons Xmf.ok .nil
end Xi4
namespace Xi3
noncomputable def c:=Yar (Yag Proofs.Tryz.f27) [1,1,0,1,0,0]
def sp:SP:=⟨[(0,.cs (.sl Xd)),(3,.seg 3 []),(4,.cs I64)],[(3,.reg,.cd (.sl Xd))]⟩
def fr:=Yja sp (fun x s=>Xi3.B x.1.1 s.1 s.2) (fun x=>(x.1.2.2.1,x.2.1)) fun x (bb0:List Xb) _ kk0=>kk0 (.ex 0) ⟨[(3,.seg 3 [])],[sr 3 (.cd (.sl Xd) bb0)]⟩
theorem ok:Ya2 PR 23 1 (.loop c) fr:=
 Yw9 Xf Xe h0 (G:=Xi4.G) Xi4.Gok [(0,([3],[3]))] (fun x s=>((x.1.1,x.1.2.1,s.1,x.1.2.2.2),(s.2,x.2.2)))
  (fun x s=>by simp only[B,mC,mB,mS,mO,mN];kernel_rfl)
end Xi3
namespace Xi4
def pts:List PT:=[.cs (.sl Xd)]
def FS:FS:=Ycx [.sh] pts (fun x=>Xi4 x.1) fun t=>⟨[.cd (.sl Xd) t],[]⟩
theorem ok:Ycm PR 27 FS:=
 Yw7 Xf Xe Proofs.Tryz.f27 h0 (.R (.R (.L (.R (.one (.fr 0)))))) (G:=G) Gok (L:=mkL [(0,Xi3.fr)]) (l:=[(0,.loop Xi3.c)]) ⟨Lam.cons Xi3.ok,trivial⟩
  (fun x=>by simp only[Xi4,mC,mB,mS,mO,mN];kernel_rfl)
end Xi4
def Xi5.B (a:List Int) (i_:Int) (out_:List Int):Option ((Int×List Int)⊕(List Int)):=
 cond (decide (i_<(a.length:Int))) (cond (inB i_ a.length) (cond (inB i_ out_.length) (some (.inl (w64 (i_+1),out_.set i_.toNat (a.getD i_.toNat 0)))) none) none) (some (.inr out_))
def Xi5 (a:List Int):(Int×List Int)→Option (List Int):=
 Yan fun s=>Xi5.B a s.1 s.2
def Xkn (a:List Int):Option (List Int):=
 cond (decide ((0:Int)≤(a.length:Int))&&(decide ((a.length:Int)≤(a.length:Int))&&decide ((a.length:Int)≤2147483648))) ((Xi5 a (0,List.replicate (a.length:Int).toNat 0)).bind fun o=>some o) none
namespace Xi5
noncomputable def c:=Yar (Yag Proofs.Tryz.f29) [1,1,0,1,0,0]
def sp:SP:=⟨[(0,.cs SB),(3,.seg 3 []),(4,.cs I64)],[(3,.reg,.cd SB)]⟩
def fr:=Yja sp (fun x s=>Xi5.B x.1.1 s.1 s.2) (fun x=>(x.1.2.2.1,x.2.1)) fun x (bb0:List Int) _ kk0=>kk0 (.ex 0) ⟨[(3,.seg 3 [])],[sr 3 (.cd SB bb0)]⟩
theorem ok:Ya2 PR 22 1 (.loop c) fr:=
 Yw0 Xf Xe h0 [(0,([3],[3]))] (fun x s=>((x.1.1,x.1.2.1,s.1,x.1.2.2.2),(s.2,x.2.2)))
  (fun x s=>by simp only[B,mC,mB,mS,mO,mN];kernel_rfl)
end Xi5
namespace Xkn
def pts:List PT:=[.cs SB]
def FS:FS:=Ycx [.sh] pts (fun x=>Xkn x.1) fun t=>⟨[.cd SB t],[]⟩
theorem ok:Ycm PR 29 FS:=
 Yw7 Xf Xe Proofs.Tryz.f29 h0 (.R (.R (.L (.R (.one (.fr 0)))))) (G:=(mkG [])) .nil (L:=mkL [(0,Xi5.fr)]) (l:=[(0,.loop Xi5.c)]) ⟨Lam.cons Xi5.ok,trivial⟩
  (fun x=>by simp only[Xkn,mC,mB,mS,mO,mN];kernel_rfl)
end Xkn
def Xi6.B (a:List (List Int)) (i_:Int) (out_:List (List Int)):Option ((Int×List (List Int))⊕(List (List Int))):=
 cond (decide (i_<(a.length:Int))) (cond (inB i_ a.length) ((Xkn (a.getD i_.toNat [])).bind fun r=>cond (inB i_ out_.length) (some (.inl (w64 (i_+1),out_.set i_.toNat r))) none) none) (some (.inr out_))
def Xi6 (a:List (List Int)):(Int×List (List Int))→Option (List (List Int)):=
 Yan fun s=>Xi6.B a s.1 s.2
def Xi7 (a:List (List Int)):Option (List (List Int)):=
 cond (decide ((0:Int)≤(a.length:Int))&&(decide ((a.length:Int)≤(a.length:Int))&&decide ((a.length:Int)≤2147483648))) ((some (List.replicate (a.length:Int).toNat ([]:List Int))).bind fun v=>(Xi6 a (0,v)).bind fun o=>some o) none
namespace Xi7
def G:Gam:=mkG [(29,Xkn.FS)]
theorem Gok:GOk PR G:=.cons Xkn.ok .nil
end Xi7
namespace Xi6
noncomputable def c:=Yar (Yag Proofs.Tryz.f28) [1,1,0,1,0,0]
def sp:SP:=⟨[(0,.cs (.sl SB)),(3,.seg 3 []),(4,.cs I64)],[(3,.reg,.cd (.sl SB))]⟩
def fr:=Yja sp (fun x s=>Xi6.B x.1.1 s.1 s.2) (fun x=>(x.1.2.2.1,x.2.1)) fun x (bb0:List (List Int)) _ kk0=>kk0 (.ex 0) ⟨[(3,.seg 3 [])],[sr 3 (.cd (.sl SB) bb0)]⟩
theorem ok:Ya2 PR 23 1 (.loop c) fr:=
 Yw9 Xf Xe h0 (G:=Xi7.G) Xi7.Gok [(0,([3],[3]))] (fun x s=>((x.1.1,x.1.2.1,s.1,x.1.2.2.2),(s.2,x.2.2)))
  (fun x s=>by simp only[B,mC,mB,mS,mO,mN];kernel_rfl)
end Xi6
namespace Xi7
def pts:List PT:=[.cs (.sl SB)]
def FS:FS:=Ycx [.sh] pts (fun x=>Xi7 x.1) fun t=>⟨[.cd (.sl SB) t],[]⟩
theorem ok:Ycm PR 28 FS:=
 Yw7 Xf Xe Proofs.Tryz.f28 h0 (.R (.R (.L (.R (.one (.fr 0)))))) (G:=G) Gok (L:=mkL [(0,Xi6.fr)]) (l:=[(0,.loop Xi6.c)]) ⟨Lam.cons Xi6.ok,trivial⟩
  (fun x=>by simp only[Xi7,mC,mB,mS,mO,mN];kernel_rfl)
end Xi7
def Xko (a:Fs_):Option Fs_:=
 (Xi4 a.1).bind fun r=>(Xi7 a.2.1).bind fun r2=>some (r,r2,())
namespace Xko
def G:Gam:=mkG [(27,Xi4.FS),(28,Xi7.FS)]
def pts:List PT:=[.cs Xh]
def FS:FS:=Ycx [.sh] pts (fun x=>Xko x.1) fun t=>⟨[.cd Xh t],[]⟩
theorem ok:Ycm PR 7 FS:=
 Yw7 Xf Xe Proofs.Tryz.f7 ⟨[1],[],[],0⟩ .no (G:=G) (show GOk PR G from .cons Xi4.ok (.cons Xi7.ok .nil)) (L:=mkL []) (l:=[]) hT
  (fun x=>by simp only[Xko,mC,mB,mS,mO,mN];kernel_rfl)
end Xko
def Xkp (a:Xap):Option Xap:=
 (Xkn a.2.2.2.2.2.1).bind fun r=>some (a.1,a.2.1,a.2.2.1,a.2.2.2.1,a.2.2.2.2.1,r,())
namespace Xkp
def G:Gam:=mkG [(29,Xkn.FS)]
def pts:List PT:=[.cs Xv]
def FS:FS:=Ycx [.sh] pts (fun x=>Xkp x.1) fun t=>⟨[.cd Xv t],[]⟩
theorem ok:Ycm PR 8 FS:=
 Yw7 Xf Xe Proofs.Tryz.f8 ⟨[1],[],[],0⟩ .no (G:=G) (show GOk PR G from .cons Xkn.ok .nil) (L:=mkL []) (l:=[]) hT
  (fun x=>by simp only[Xkp,mC,mB,mS,mO,mN];kernel_rfl)
end Xkp
def Xas (v:Int) (v2:Int) (v3:Int):Option Bool:=
 some (cond (decide (v≥v2)) (decide (v≤v3)) false)
namespace Xas
def pts:List PT:=[.cs I64,.cs I64,.cs I64]
def FS:FS:=Ycx [.sh,.sh,.sh] pts (fun x=>Xas x.1 x.2.1 x.2.2.1) fun t=>⟨[.cs .bool t],[]⟩
theorem ok:Ycm PR 50 FS:=
 Yw7 Xf Xe Proofs.Tryz.f50 h0 .no (G:=(mkG [])) .nil (L:=mkL []) (l:=[]) hT
  (fun x=>by simp only[Xas,mC,mB,mS,mO,mN];kernel_rfl)
end Xas
def Xgv (v:Int):Option Bool:=
 (Xas v 0 32).bind fun v2=>some v2
namespace Xgv
def G:Gam:=mkG [(50,Xas.FS)]
def pts:List PT:=[.cs I64]
def FS:FS:=Ycx [.sh] pts (fun x=>Xgv x.1) fun t=>⟨[.cs .bool t],[]⟩
theorem ok:Ycm PR 149 FS:=
 Yw7 Xf Xe Proofs.Tryz.f149 h0 .no (G:=G) (show GOk PR G from .cons Xas.ok .nil) (L:=mkL []) (l:=[]) hT
  (fun x=>by simp only[Xgv,mC,mB,mS,mO,mN];kernel_rfl)
end Xgv
def Xkq (v:Int):Option Int:=
 cond (!((8:Int) == 0)) (some (w64 ((w64 ((w64 (v+8))-1)).tdiv 8))) none
namespace Xkq
def pts:List PT:=[.cs I64]
def FS:FS:=Ycx [.sh] pts (fun x=>Xkq x.1) fun t=>⟨[.cs I64 t],[]⟩
theorem ok:Ycm PR 179 FS:=
 Yw7 Xf Xe Proofs.Tryz.f179 h0 .no (G:=(mkG [])) .nil (L:=mkL []) (l:=[]) hT
  (fun x=>by simp only[Xkq,mC,mB,mS,mO,mN];kernel_rfl)
end Xkq
def Xkr.B (v:Xb) (v5:Int):Option (Int⊕((Int⊕Unit))):=
 cond (decide (v5<(v.2.2.2.1.length:Int))) (cond (inB v5 v.2.2.2.1.length) ((Xas (v.2.2.2.1.getD v5.toNat 0) 0 19).bind fun v6=>cond (!v6) (some (.inr (.inl 3))) (some (.inl (w64 (v5+1))))) none) (some (.inr (.inr ())))
def Xkr (v:Xb):Int→Option ((Int⊕Unit)):=
 Yan fun s=>Xkr.B v s
def Xim.B (v:Xb) (v10:Int) (v11:Int):Option (Int⊕((Int⊕Unit))):=
 cond (decide (v11<v10)) (cond (inB v11 v.2.2.2.1.length) (cond (inB v10 v.2.2.2.1.length) ((some ((v.2.2.2.1.getD v11.toNat 0) == (v.2.2.2.1.getD v10.toNat 0))).bind fun v12=>cond v12 (some (.inr (.inl 7))) (some (.inl (w64 (v11+1))))) none) none) (some (.inr (.inr ())))
def Xim (v:Xb) (v10:Int):Int→Option ((Int⊕Unit)):=
 Yan fun s=>Xim.B v v10 s
def Xi8.B (v:Xb) (v10:Int):Option (Int⊕((Int⊕Unit))):=
 cond (decide (v10<(v.2.2.2.1.length:Int))) ((Xim v v10 0).bind fun v13=>sel v13 (fun v14=>some (.inr (.inl v14))) (fun v15=>some (.inl (w64 (v10+1))))) (some (.inr (.inr ())))
def Xi8 (v:Xb):Int→Option ((Int⊕Unit)):=
 Yan fun s=>Xi8.B v s
def Xga (v:Xb):Option Int:=
 (Xas v.2.1 1 60).bind fun v2=>cond (!v2) (some 3) ((Xgv v.2.2.1).bind fun v3=>cond (!v3) (some 3) ((Xkq v.2.2.1).bind fun v4=>cond ((v.2.2.2.1.length:Int) != v4) (some 1) ((Xkr v 0).bind fun v7=>sel v7 (fun v8=>some v8) (fun v9=>(Xi8 v 0).bind fun v16=>sel v16 (fun v17=>some v17) (fun v18=>some 0)))))
namespace Xga
def G:Gam:=mkG [(50,Xas.FS),(149,Xgv.FS),(179,Xkq.FS)]
theorem Gok:GOk PR G:=.cons Xas.ok (.cons Xgv.ok (.cons Xkq.ok .nil))
end Xga
namespace Xkr
noncomputable def c:=Yar (Yag Proofs.Tryz.f172) [1,1,1,0,1,0,0]
def sp:SP:=⟨[(0,.pt Xd),(3,.cs I64)],[]⟩
def fr:=Yja sp (fun x s=>Xkr.B x.1.1 s) (fun x=>x.1.2.1) fun x (oo0:(Int⊕Unit)) _ kk0=>sel oo0 (fun bb0=>kk0 (.rt) ⟨[(2,.cs I64 bb0)],[]⟩) (fun cc0=>kk0 (.ex 0) ⟨[(0,.pt Xd x.1.1)],[]⟩)
theorem ok:Ya2 PR 78 1 (.loop c) fr:=
 Yth Xf Xe h0 .no (G:=Xga.G) Xga.Gok (L:=mkL []) (l:=[]) hT [(0,([0],[]))] ([2],[]) (fun x s=>((x.1.1,s,x.1.2.2),x.2))
  (fun x s=>by simp only[B,mC,mB,mS,mO,mN];kernel_rfl)
end Xkr
namespace Xim
noncomputable def c:=Yar (Yag Proofs.Tryz.f172) [1,1,1,1,0,1,0,0,1,0,0,1,0,0]
def sp:SP:=⟨[(0,.pt Xd),(4,.cs I64),(5,.cs I64)],[]⟩
def fr:=Yja sp (fun x s=>Xim.B x.1.1 x.1.2.1 s) (fun x=>x.1.2.2.1) fun x (oo0:(Int⊕Unit)) _ kk0=>sel oo0 (fun bb0=>kk0 (.rt) ⟨[(2,.cs I64 bb0)],[]⟩) (fun cc0=>kk0 (.ex 4) ⟨[(0,.pt Xd x.1.1),(4,.cs I64 x.1.2.1)],[]⟩)
theorem ok:Ya2 PR 78 1 (.loop c) fr:=
 Yth Xf Xe h0 .no (G:=Xga.G) Xga.Gok (L:=mkL []) (l:=[]) hT [(4,([0,4],[]))] ([2],[]) (fun x s=>((x.1.1,x.1.2.1,s,x.1.2.2.2),x.2))
  (fun x s=>by simp only[B,mC,mB,mS,mO,mN];kernel_rfl)
end Xim
namespace Xi8
noncomputable def c:=Yar (Yag Proofs.Tryz.f172) [1,1,1,1,0,1,0,0]
def sp:SP:=⟨[(0,.pt Xd),(4,.cs I64)],[]⟩
def fr:=Yja sp (fun x s=>Xi8.B x.1.1 s) (fun x=>x.1.2.1) fun x (oo0:(Int⊕Unit)) _ kk0=>sel oo0 (fun bb0=>kk0 (.rt) ⟨[(2,.cs I64 bb0)],[]⟩) (fun cc0=>kk0 (.ex 2) ⟨[],[]⟩)
theorem ok:Ya2 PR 78 1 (.loop c) fr:=
 Yth Xf Xe h0 (.R (.L (.one (.R (.one (.fr 2)))))) (G:=Xga.G) Xga.Gok (L:=mkL [(2,Xim.fr)]) (l:=[(2,.loop Xim.c)]) ⟨Lam.cons Xim.ok,trivial⟩ [(2,([],[]))] ([2],[]) (fun x s=>((x.1.1,s,x.1.2.2),x.2))
  (fun x s=>by simp only[B,mC,mB,mS,mO,mN];kernel_rfl)
end Xi8
namespace Xga
def pts:List PT:=[.pt Xd]
def FS:FS:=Ycx [.sh] pts (fun x=>Xga x.1) fun t=>⟨[.cs I64 t],[]⟩
theorem ok:Ycm PR 172 FS:=
 Yw7 Xf Xe Proofs.Tryz.f172 h0 (.R (.R (.R (.two (.R (.one (.fr 0))) (.L (.R (.one (.fr 1)))))))) (G:=G) Gok (L:=mkL [(0,Xkr.fr),(2,Xim.fr),(1,Xi8.fr)]) (l:=[(0,.loop Xkr.c),(1,.loop Xi8.c)]) ⟨Lam.cons Xkr.ok,Lam.skip rfl (Lam.skip rfl (Lam.cons Xi8.ok)),trivial⟩
  (fun x=>by simp only[Xga,mC,mB,mS,mO,mN];kernel_rfl)
end Xga
def Xks.B (v:List UInt8) (v2:Int):Option (Int⊕((Int⊕Unit))):=
 cond (decide (v2<(v.length:Int))) (cond (inB v2 v.length) (cond (cond (!(decide (((v.getD v2.toNat 0).toNat:Int)<97))) (inB v2 v.length) true) ((some (cond (decide (((v.getD v2.toNat 0).toNat:Int)<97)) true (decide (((v.getD v2.toNat 0).toNat:Int)>122)))).bind fun v3=>cond v3 (some (.inr (.inl 5))) (some (.inl (w64 (v2+1))))) none) none) (some (.inr (.inr ())))
def Xks (v:List UInt8):Int→Option ((Int⊕Unit)):=
 Yan fun s=>Xks.B v s
def Xkt (v:List UInt8):Option Int:=
 (Xks v 0).bind fun v4=>sel v4 (fun v5=>some v5) (fun v6=>cond (v == ([]:List UInt8)) (some 5) (cond (decide ((v.length:Int)>4)) (some 2) (some 0)))
namespace Xks
noncomputable def c:=Yar (Yag Proofs.Tryz.f193) [1,0,1,0,0]
def sp:SP:=⟨[(0,.cs .str),(3,.cs I64)],[]⟩
def fr:=Yja sp (fun x s=>Xks.B x.1.1 s) (fun x=>x.1.2.1) fun x (oo0:(Int⊕Unit)) _ kk0=>sel oo0 (fun bb0=>kk0 (.rt) ⟨[(2,.cs I64 bb0)],[]⟩) (fun cc0=>kk0 (.ex 0) ⟨[(0,.cs .str x.1.1)],[]⟩)
theorem ok:Ya2 PR 25 1 (.loop c) fr:=
 Yth Xf Xe h0 .no (G:=(mkG [])) .nil (L:=mkL []) (l:=[]) hT [(0,([0],[]))] ([2],[]) (fun x s=>((x.1.1,s,x.1.2.2),x.2))
  (fun x s=>by simp only[B,mC,mB,mS,mO,mN];kernel_rfl)
end Xks
namespace Xkt
def pts:List PT:=[.cs .str]
def FS:FS:=Ycx [.sh] pts (fun x=>Xkt x.1) fun t=>⟨[.cs I64 t],[]⟩
theorem ok:Ycm PR 193 FS:=
 Yw7 Xf Xe Proofs.Tryz.f193 h0 (.R (.L (.R (.one (.fr 0))))) (G:=(mkG [])) .nil (L:=mkL [(0,Xks.fr)]) (l:=[(0,.loop Xks.c)]) ⟨Lam.cons Xks.ok,trivial⟩
  (fun x=>by simp only[Xkt,mC,mB,mS,mO,mN];kernel_rfl)
end Xkt
def Xi9.B (v:Xb) (v2:Int):Option (Int⊕((Int⊕Unit))):=
 cond (decide (v2<(v.2.2.2.2.1.length:Int))) (cond (inB v2 v.2.2.2.2.1.length) ((Xkt (v.2.2.2.2.1.getD v2.toNat Xk).1).bind fun v3=>cond (v3 != 0) (some (.inr (.inl v3))) (cond (inB v2 v.2.2.2.2.1.length) ((Xas (v.2.2.2.2.1.getD v2.toNat Xk).2.1 0 9).bind fun v4=>cond (!v4) (some (.inr (.inl 3))) (cond (cond (decide (v2>0)) (inB v2 v.2.2.2.2.1.length) true) (cond (cond (decide (v2>0)) (inB (w64 (v2-1)) v.2.2.2.2.1.length) true) ((some (cond (decide (v2>0)) (leB (v.2.2.2.2.1.getD v2.toNat Xk).1 (v.2.2.2.2.1.getD (w64 (v2-1)).toNat Xk).1 || (v.2.2.2.2.1.getD v2.toNat Xk).1 == (v.2.2.2.2.1.getD (w64 (v2-1)).toNat Xk).1) false)).bind fun v5=>cond v5 (some (.inr (.inl 1))) (some (.inl (w64 (v2+1))))) none) none)) none)) none) (some (.inr (.inr ())))
def Xi9 (v:Xb):Int→Option ((Int⊕Unit)):=
 Yan fun s=>Xi9.B v s
def Xja (v:Xb):Option Int:=
 cond (decide ((v.2.2.2.2.1.length:Int)>6)) (some 2) ((Xi9 v 0).bind fun v6=>sel v6 (fun v7=>some v7) (fun v8=>some 0))
namespace Xja
def G:Gam:=mkG [(193,Xkt.FS),(50,Xas.FS)]
theorem Gok:GOk PR G:=.cons Xkt.ok (.cons Xas.ok .nil)
end Xja
namespace Xi9
noncomputable def c:=Yar (Yag Proofs.Tryz.f173) [1,1,0,1,0,0]
def sp:SP:=⟨[(0,.pt Xd),(3,.cs I64)],[]⟩
def fr:=Yja sp (fun x s=>Xi9.B x.1.1 s) (fun x=>x.1.2.1) fun x (oo0:(Int⊕Unit)) _ kk0=>sel oo0 (fun bb0=>kk0 (.rt) ⟨[(2,.cs I64 bb0)],[]⟩) (fun cc0=>kk0 (.ex 0) ⟨[],[]⟩)
theorem ok:Ya2 PR 64 1 (.loop c) fr:=
 Yth Xf Xe h0 .no (G:=Xja.G) Xja.Gok (L:=mkL []) (l:=[]) hT [(0,([],[]))] ([2],[]) (fun x s=>((x.1.1,s,x.1.2.2),x.2))
  (fun x s=>by simp only[B,mC,mB,mS,mO,mN];kernel_rfl)
end Xi9
namespace Xja
def pts:List PT:=[.pt Xd]
def FS:FS:=Ycx [.sh] pts (fun x=>Xja x.1) fun t=>⟨[.cs I64 t],[]⟩
theorem ok:Ycm PR 173 FS:=
 Yw7 Xf Xe Proofs.Tryz.f173 h0 (.R (.R (.L (.R (.one (.fr 0)))))) (G:=G) Gok (L:=mkL [(0,Xi9.fr)]) (l:=[(0,.loop Xi9.c)]) ⟨Lam.cons Xi9.ok,trivial⟩
  (fun x=>by simp only[Xja,mC,mB,mS,mO,mN];kernel_rfl)
end Xja
def Xmg (v:Xb):Option Int:=
 (Xas v.1 0 2).bind fun v2=>cond (!v2) (some 1) ((some (cond (v.1 != 1) (cond (cond (v.2.1 != 0) true (v.2.2.1 != 0)) true (decide ((v.2.2.2.1.length:Int)>0))) false)).bind fun v3=>(some (cond v3 true (cond (v.1 != 2) (decide ((v.2.2.2.2.1.length:Int)>0)) false))).bind fun v4=>cond v4 (some 1) (cond (v.1 == 1) ((Xga v).bind fun v5=>some v5) (cond (v.1 == 2) ((Xja v).bind fun v6=>some v6) (some 0))))
namespace Xmg
def G:Gam:=mkG [(50,Xas.FS),(172,Xga.FS),(173,Xja.FS)]
def pts:List PT:=[.pt Xd]
def FS:FS:=Ycx [.sh] pts (fun x=>Xmg x.1) fun t=>⟨[.cs I64 t],[]⟩
theorem ok:Ycm PR 138 FS:=
 Yw7 Xf Xe Proofs.Tryz.f138 h0 .no (G:=G) (show GOk PR G from .cons Xas.ok (.cons Xga.ok (.cons Xja.ok .nil))) (L:=mkL []) (l:=[]) hT
  (fun x=>by simp only[Xmg,mC,mB,mS,mO,mN];kernel_rfl)
end Xmg
def Xku.B (v:List Xb) (v2:Int):Option (Int⊕((Int⊕Unit))):=
 cond (decide (v2<(v.length:Int))) (cond (inB v2 v.length) ((Xmg (v.getD v2.toNat Xa)).bind fun v3=>cond (v3 != 0) (some (.inr (.inl v3))) (some (.inl (w64 (v2+1))))) none) (some (.inr (.inr ())))
def Xku (v:List Xb):Int→Option ((Int⊕Unit)):=
 Yan fun s=>Xku.B v s
def Xgw (v:List Xb):Option Int:=
 cond (decide ((v.length:Int)>10)) (some 2) ((Xku v 0).bind fun v4=>sel v4 (fun v5=>some v5) (fun v6=>some 0))
namespace Xgw
def G:Gam:=mkG [(138,Xmg.FS)]
theorem Gok:GOk PR G:=.cons Xmg.ok .nil
end Xgw
namespace Xku
noncomputable def c:=Yar (Yag Proofs.Tryz.f85) [1,1,0,1,0,0]
def sp:SP:=⟨[(0,.cs (.sl Xd)),(3,.cs I64)],[]⟩
def fr:=Yja sp (fun x s=>Xku.B x.1.1 s) (fun x=>x.1.2.1) fun x (oo0:(Int⊕Unit)) _ kk0=>sel oo0 (fun bb0=>kk0 (.rt) ⟨[(2,.cs I64 bb0)],[]⟩) (fun cc0=>kk0 (.ex 0) ⟨[],[]⟩)
theorem ok:Ya2 PR 21 1 (.loop c) fr:=
 Yth Xf Xe h0 .no (G:=Xgw.G) Xgw.Gok (L:=mkL []) (l:=[]) hT [(0,([],[]))] ([2],[]) (fun x s=>((x.1.1,s,x.1.2.2),x.2))
  (fun x s=>by simp only[B,mC,mB,mS,mO,mN];kernel_rfl)
end Xku
namespace Xgw
def pts:List PT:=[.cs (.sl Xd)]
def FS:FS:=Ycx [.sh] pts (fun x=>Xgw x.1) fun t=>⟨[.cs I64 t],[]⟩
theorem ok:Ycm PR 85 FS:=
 Yw7 Xf Xe Proofs.Tryz.f85 h0 (.R (.R (.L (.R (.one (.fr 0)))))) (G:=G) Gok (L:=mkL [(0,Xku.fr)]) (l:=[(0,.loop Xku.c)]) ⟨Lam.cons Xku.ok,trivial⟩
  (fun x=>by simp only[Xgw,mC,mB,mS,mO,mN];kernel_rfl)
end Xgw
def Xin.B (v:List Xb) (v2:Int) (v4:Int) (v5:Int) (v6:Int):Option ((Int×Int)⊕Int):=
 cond (inB v4 v.length) ((some ((v.getD v4.toNat Xa).2.2.2.1.length:Int)).bind fun v7=>cond (decide (v6<v7)) (cond (inB v4 v.length) (cond (inB v6 ((v.getD v4.toNat Xa).2.2.2.1.length)) ((some ((v.getD v4.toNat Xa).2.2.2.1.getD v6.toNat 0)).bind fun v8=>cond (v8 == v2) (some (.inl (w64 (v5+1),w64 (v6+1)))) (some (.inl (v5,w64 (v6+1))))) none) none) (some (.inr v5))) none
def Xin (v:List Xb) (v2:Int) (v4:Int):(Int×Int)→Option Int:=
 Yan fun s=>Xin.B v v2 v4 s.1 s.2
def Xjb.B (v:List Xb) (v2:Int) (v3:Int) (v4:Int):Option ((Int×Int)⊕Int):=
 cond (decide (v4<(v.length:Int))) ((Xin v v2 v4 (v3,0)).bind fun v9=>some (.inl (v9,w64 (v4+1)))) (some (.inr v3))
def Xjb (v:List Xb) (v2:Int):(Int×Int)→Option Int:=
 Yan fun s=>Xjb.B v v2 s.1 s.2
def Xkv (v:List Xb) (v2:Int):Option Int:=
 (Xjb v v2 (0,0)).bind fun v10=>some v10
namespace Xin
noncomputable def c:=Yar (Yag Proofs.Tryz.f139) [1,1,0,1,0,0,1,0,0,1,0,0]
def sp:SP:=⟨[(0,.cs (.sl Xd)),(1,.cs I64),(5,.cs I64),(6,.cs I64),(7,.cs I64)],[]⟩
def fr:=Yja sp (fun x s=>Xin.B x.1.1 x.1.2.1 x.1.2.2.2.1 s.1 s.2) (fun x=>(x.1.2.2.1,x.1.2.2.2.2.1)) fun x (bb0:Int) _ kk0=>kk0 (.ex 2) ⟨[(0,.cs (.sl Xd) x.1.1),(1,.cs I64 x.1.2.1),(5,.cs I64 bb0),(6,.cs I64 x.1.2.2.2.1)],[]⟩
theorem ok:Ya2 PR 37 2 (.loop c) fr:=
 Yw0 Xf Xe h0 [(2,([0,1,5,6],[]))] (fun x s=>((x.1.1,x.1.2.1,s.1,x.1.2.2.2.1,s.2,x.1.2.2.2.2.2),x.2))
  (fun x s=>by simp only[B,mC,mB,mS,mO,mN];kernel_rfl)
end Xin
namespace Xjb
noncomputable def c:=Yar (Yag Proofs.Tryz.f139) [1,1,0,1,0,0]
def sp:SP:=⟨[(0,.cs (.sl Xd)),(1,.cs I64),(5,.cs I64),(6,.cs I64)],[]⟩
def fr:=Yja sp (fun x s=>Xjb.B x.1.1 x.1.2.1 s.1 s.2) (fun x=>(x.1.2.2.1,x.1.2.2.2.1)) fun x (bb0:Int) _ kk0=>kk0 (.ex 0) ⟨[(5,.cs I64 bb0)],[]⟩
theorem ok:Ya2 PR 37 2 (.loop c) fr:=
 Yw8 Xf Xe h0 (.R (.L (.one (.R (.one (.fr 1)))))) (L:=mkL [(1,Xin.fr)]) (l:=[(1,.loop Xin.c)]) ⟨Lam.cons Xin.ok,trivial⟩ [(0,([5],[]))] (fun x s=>((x.1.1,x.1.2.1,s.1,s.2,x.1.2.2.2.2),x.2))
  (fun x s=>by simp only[B,mC,mB,mS,mO,mN];kernel_rfl)
end Xjb
namespace Xkv
def pts:List PT:=[.cs (.sl Xd),.cs I64]
def FS:FS:=Ycx [.sh,.sh] pts (fun x=>Xkv x.1 x.2.1) fun t=>⟨[.cs I64 t],[]⟩
theorem ok:Ycm PR 139 FS:=
 Yw7 Xf Xe Proofs.Tryz.f139 h0 (.R (.R (.L (.R (.one (.fr 0)))))) (G:=(mkG [])) .nil (L:=mkL [(1,Xin.fr),(0,Xjb.fr)]) (l:=[(0,.loop Xjb.c)]) ⟨Lam.skip rfl (Lam.cons Xjb.ok),trivial⟩
  (fun x=>by simp only[Xkv,mC,mB,mS,mO,mN];kernel_rfl)
end Xkv
def Xkw.B (v:List Xb) (v2:Bool) (v3:Int) (v4:List Int):Option ((Bool×Int×List Int)⊕(Bool×List Int)):=
 cond (decide (v3<20)) ((Xkv v v3).bind fun v5=>cond (decide (v5>0)) (cond (decide ((v4++([v3])).length≤2147483648)) (some (.inl (cond v2 (decide (v5≤1)) false,w64 (v3+1),v4++([v3])))) none) (some (.inl (cond v2 (decide (v5≤1)) false,w64 (v3+1),v4)))) (some (.inr (v2,v4)))
def Xkw (v:List Xb):(Bool×Int×List Int)→Option (Bool×List Int):=
 Yan fun s=>Xkw.B v s.1 s.2.1 s.2.2
def Xjc (v:List Xb):Option ((List Int)×Bool):=
 (Xkw v (true,0,[])).bind fun v6=>some (v6.2,v6.1)
namespace Xjc
def G:Gam:=mkG [(139,Xkv.FS)]
theorem Gok:GOk PR G:=.cons Xkv.ok .nil
end Xjc
namespace Xkw
noncomputable def c:=Yar (Yag Proofs.Tryz.f86) [1,1,1,0,1,0,0]
def sp:SP:=⟨[(0,.cs (.sl Xd)),(4,.seg 4 []),(5,.cs .bool),(6,.cs I64)],[(4,.reg,.cd SI)]⟩
def fr:=Yja sp (fun x s=>Xkw.B x.1.1 s.1 s.2.1 s.2.2) (fun x=>(x.1.2.2.1,x.1.2.2.2.1,x.2.1)) fun x (bb0:Bool×List Int) _ kk0=>kk0 (.ex 0) ⟨[(4,.seg 4 []),(5,.cs .bool bb0.1)],[sr 4 (.cd SI bb0.2)]⟩
theorem ok:Ya2 PR 29 1 (.loop c) fr:=
 Yw9 Xf Xe h0 (G:=Xjc.G) Xjc.Gok [(0,([4,5],[4]))] (fun x s=>((x.1.1,x.1.2.1,s.1,s.2.1,x.1.2.2.2.2),(s.2.2,x.2.2)))
  (fun x s=>by simp only[B,mC,mB,mS,mO,mN];kernel_rfl)
end Xkw
namespace Xjc
def pts:List PT:=[.cs (.sl Xd)]
def FS:FS:=Ycx [.sh] pts (fun x=>Xjc x.1) fun t=>⟨[.cd SI t.1,.cs .bool t.2],[]⟩
theorem ok:Ycm PR 86 FS:=
 Yw7 Xf Xe Proofs.Tryz.f86 h0 (.R (.R (.R (.L (.R (.one (.fr 0))))))) (G:=G) Gok (L:=mkL [(0,Xkw.fr)]) (l:=[(0,.loop Xkw.c)]) ⟨Lam.cons Xkw.ok,trivial⟩
  (fun x=>by simp only[Xjc,mC,mB,mS,mO,mN];kernel_rfl)
end Xjc
def Xkx.B (v:Fs_) (v4:Int):Option (Int⊕((Int⊕Unit))):=
 cond (decide (v4<(v.2.1.length:Int))) (cond (inB v4 v.2.1.length) ((some (decide (((v.2.1.getD v4.toNat []).length:Int)>8))).bind fun v5=>cond v5 (some (.inr (.inl 2))) (some (.inl (w64 (v4+1))))) none) (some (.inr (.inr ())))
def Xkx (v:Fs_):Int→Option ((Int⊕Unit)):=
 Yan fun s=>Xkx.B v s
def Xio.B (v:Fs_) (v10:Int) (v11:Int):Option (Int⊕((Int⊕Unit))):=
 cond (inB v10 v.1.length) ((some ((v.1.getD v10.toNat Xa).2.2.2.2.1.length:Int)).bind fun v12=>cond (decide (v11<v12)) (cond (inB v10 v.1.length) (cond (inB v11 ((v.1.getD v10.toNat Xa).2.2.2.2.1.length)) ((some ((v.1.getD v10.toNat Xa).2.2.2.2.1.getD v11.toNat Xk).2.1).bind fun v13=>cond (cond (!(decide (v13≥(v.1.length:Int)))) (inB v13 v.1.length) true) ((some (cond (decide (v13≥(v.1.length:Int))) true ((v.1.getD v13.toNat Xa).1 == 0))).bind fun v14=>cond v14 (some (.inr (.inl 4))) (some (.inl (w64 (v11+1))))) none) none) none) (some (.inr (.inr ())))) none
def Xio (v:Fs_) (v10:Int):Int→Option ((Int⊕Unit)):=
 Yan fun s=>Xio.B v v10 s
def Xky.B (v:Fs_) (v10:Int):Option (Int⊕((Int⊕Unit))):=
 cond (decide (v10<(v.1.length:Int))) ((Xio v v10 0).bind fun v15=>sel v15 (fun v16=>some (.inr (.inl v16))) (fun v17=>some (.inl (w64 (v10+1))))) (some (.inr (.inr ())))
def Xky (v:Fs_):Int→Option ((Int⊕Unit)):=
 Yan fun s=>Xky.B v s
def Xer (v:Fs_):Option Int:=
 (Xgw v.1).bind fun v2=>cond (v2 != 0) (some v2) (cond (cond (!((v.1.length:Int) == 0)) (inB 0 v.1.length) true) ((some (cond ((v.1.length:Int) == 0) true ((v.1.getD (0:Int).toNat Xa).1 != 2))).bind fun v3=>cond (cond v3 true ((v.2.1.length:Int) != 20)) (some 1) ((Xkx v 0).bind fun v6=>sel v6 (fun v7=>some v7) (fun v8=>(Xjc v.1).bind fun v9=>cond (!v9.2) (some 7) ((Xky v 0).bind fun v18=>sel v18 (fun v19=>some v19) (fun v20=>some 0))))) none)
namespace Xer
def G:Gam:=mkG [(85,Xgw.FS),(86,Xjc.FS)]
theorem Gok:GOk PR G:=.cons Xgw.ok (.cons Xjc.ok .nil)
end Xer
namespace Xkx
noncomputable def c:=Yar (Yag Proofs.Tryz.f47) [1,1,1,0,1,0,0]
def sp:SP:=⟨[(0,.pt Xh),(4,.cs I64)],[]⟩
def fr:=Yja sp (fun x s=>Xkx.B x.1.1 s) (fun x=>x.1.2.1) fun x (oo0:(Int⊕Unit)) _ kk0=>sel oo0 (fun bb0=>kk0 (.rt) ⟨[(2,.cs I64 bb0)],[]⟩) (fun cc0=>kk0 (.ex 0) ⟨[(0,.pt Xh x.1.1)],[]⟩)
theorem ok:Ya2 PR 122 1 (.loop c) fr:=
 Yth Xf Xe h0 .no (G:=Xer.G) Xer.Gok (L:=mkL []) (l:=[]) hT [(0,([0],[]))] ([2],[]) (fun x s=>((x.1.1,s,x.1.2.2),x.2))
  (fun x s=>by simp only[B,mC,mB,mS,mO,mN];kernel_rfl)
end Xkx
namespace Xio
noncomputable def c:=Yar (Yag Proofs.Tryz.f47) [1,1,1,1,1,0,1,0,0,1,0,0,1,0,0]
def sp:SP:=⟨[(0,.pt Xh),(7,.cs I64),(8,.cs I64)],[]⟩
def fr:=Yja sp (fun x s=>Xio.B x.1.1 x.1.2.1 s) (fun x=>x.1.2.2.1) fun x (oo0:(Int⊕Unit)) _ kk0=>sel oo0 (fun bb0=>kk0 (.rt) ⟨[(2,.cs I64 bb0)],[]⟩) (fun cc0=>kk0 (.ex 4) ⟨[(0,.pt Xh x.1.1),(7,.cs I64 x.1.2.1)],[]⟩)
theorem ok:Ya2 PR 122 1 (.loop c) fr:=
 Yth Xf Xe h0 .no (G:=Xer.G) Xer.Gok (L:=mkL []) (l:=[]) hT [(4,([0,7],[]))] ([2],[]) (fun x s=>((x.1.1,x.1.2.1,s,x.1.2.2.2),x.2))
  (fun x s=>by simp only[B,mC,mB,mS,mO,mN];kernel_rfl)
end Xio
namespace Xky
noncomputable def c:=Yar (Yag Proofs.Tryz.f47) [1,1,1,1,1,0,1,0,0]
def sp:SP:=⟨[(0,.pt Xh),(7,.cs I64)],[]⟩
def fr:=Yja sp (fun x s=>Xky.B x.1.1 s) (fun x=>x.1.2.1) fun x (oo0:(Int⊕Unit)) _ kk0=>sel oo0 (fun bb0=>kk0 (.rt) ⟨[(2,.cs I64 bb0)],[]⟩) (fun cc0=>kk0 (.ex 2) ⟨[],[]⟩)
theorem ok:Ya2 PR 122 1 (.loop c) fr:=
 Yth Xf Xe h0 (.R (.L (.one (.R (.one (.fr 2)))))) (G:=Xer.G) Xer.Gok (L:=mkL [(2,Xio.fr)]) (l:=[(2,.loop Xio.c)]) ⟨Lam.cons Xio.ok,trivial⟩ [(2,([],[]))] ([2],[]) (fun x s=>((x.1.1,s,x.1.2.2),x.2))
  (fun x s=>by simp only[B,mC,mB,mS,mO,mN];kernel_rfl)
end Xky
namespace Xer
def pts:List PT:=[.pt Xh]
def FS:FS:=Ycx [.sh] pts (fun x=>Xer x.1) fun t=>⟨[.cs I64 t],[]⟩
theorem ok:Ycm PR 47 FS:=
 Yw7 Xf Xe Proofs.Tryz.f47 h0 (.R (.R (.R (.two (.R (.one (.fr 0))) (.R (.L (.R (.one (.fr 1))))))))) (G:=G) Gok (L:=mkL [(0,Xkx.fr),(2,Xio.fr),(1,Xky.fr)]) (l:=[(0,.loop Xkx.c),(1,.loop Xky.c)]) ⟨Lam.cons Xkx.ok,Lam.skip rfl (Lam.skip rfl (Lam.cons Xky.ok)),trivial⟩
  (fun x=>by simp only[Xer,mC,mB,mS,mO,mN];kernel_rfl)
end Xer
def Xgx.B (v:Fs_) (v3:Int) (v5:Int) (v7:Int) (v8:List Bool):Option ((Int×List Bool)⊕(List Bool)):=
 cond (inB v5 v8.length) (cond (cond (v8.getD v5.toNat false) (inB v5 v.1.length) true) ((some (cond (v8.getD v5.toNat false) (decide (v7<((v.1.getD v5.toNat Xa).2.2.2.2.1.length:Int))) false)).bind fun v9=>cond v9 (cond (inB v5 v.1.length) (cond (inB v7 ((v.1.getD v5.toNat Xa).2.2.2.2.1.length)) ((some ((v.1.getD v5.toNat Xa).2.2.2.2.1.getD v7.toNat Xk).2.1).bind fun v10=>cond (inB v10 v8.length) (some (.inl (w64 (v7+1),v8.set v10.toNat true))) none) none) none) (some (.inr v8))) none) none
def Xgx (v:Fs_) (v3:Int) (v5:Int):(Int×List Bool)→Option (List Bool):=
 Yan fun s=>Xgx.B v v3 v5 s.1 s.2
def Xip.B (v:Fs_) (v3:Int) (v5:Int) (v6:List Bool):Option ((Int×List Bool)⊕(List Bool)):=
 cond (decide (v5<(v.1.length:Int))) ((Xgx v v3 v5 (0,v6)).bind fun v11=>some (.inl (w64 (v5+1),v11))) (some (.inr v6))
def Xip (v:Fs_) (v3:Int):(Int×List Bool)→Option (List Bool):=
 Yan fun s=>Xip.B v v3 s.1 s.2
def Xjd.B (v:Fs_) (v3:Int) (v4:List Bool):Option ((Int×List Bool)⊕(List Bool)):=
 cond (decide (v3<(v.1.length:Int))) ((Xip v v3 (0,v4)).bind fun v12=>some (.inl (w64 (v3+1),v12))) (some (.inr v4))
def Xjd (v:Fs_):(Int×List Bool)→Option (List Bool):=
 Yan fun s=>Xjd.B v s.1 s.2
def Xje.B (v13:List Bool) (v14:Int) (v15:List Int):Option ((Int×List Int)⊕(List Int)):=
 cond (decide (v14<(v13.length:Int))) (cond (inB v14 v13.length) (cond (v13.getD v14.toNat false) (cond (decide ((v15++([v14])).length≤2147483648)) (some (.inl (w64 (v14+1),v15++([v14])))) none) (some (.inl (w64 (v14+1),v15)))) none) (some (.inr v15))
def Xje (v13:List Bool):(Int×List Int)→Option (List Int):=
 Yan fun s=>Xje.B v13 s.1 s.2
def Xmh (v:Fs_):Option (List Int):=
 cond (decide ((0:Int)≤(v.1.length:Int))&&(decide ((v.1.length:Int)≤(v.1.length:Int))&&decide ((v.1.length:Int)≤2147483648))) (cond (inB 0 ((List.replicate (v.1.length:Int).toNat false).length)) ((some ((List.replicate (v.1.length:Int).toNat false).set ((0:Int).toNat) true)).bind fun v2=>(Xjd v (0,v2)).bind fun v13=>(Xje v13 (0,[])).bind fun v16=>some v16) none) none
namespace Xgx
noncomputable def c:=Yar (Yag Proofs.Tryz.f87) [1,1,1,0,1,0,0,1,0,0,1,0,0,1,0,0,1,0,0]
def sp:SP:=⟨[(0,.pt Xh),(3,.seg 3 []),(4,.cs I64),(5,.cs I64),(6,.cs I64)],[(3,.reg,.cd (.sl .bool))]⟩
def fr:=Yja sp (fun x s=>Xgx.B x.1.1 x.1.2.2.1 x.1.2.2.2.1 s.1 s.2) (fun x=>(x.1.2.2.2.2.1,x.2.1)) fun x (bb0:List Bool) _ kk0=>kk0 (.ex 4) ⟨[(0,.pt Xh x.1.1),(3,.seg 3 []),(4,.cs I64 x.1.2.2.1),(5,.cs I64 x.1.2.2.2.1)],[sr 3 (.cd (.sl .bool) bb0)]⟩
theorem ok:Ya2 PR 84 1 (.loop c) fr:=
 Yw0 Xf Xe h0 [(4,([0,3,4,5],[3]))] (fun x s=>((x.1.1,x.1.2.1,x.1.2.2.1,x.1.2.2.2.1,s.1,x.1.2.2.2.2.2),(s.2,x.2.2)))
  (fun x s=>by simp only[B,mC,mB,mS,mO,mN];kernel_rfl)
end Xgx
namespace Xip
noncomputable def c:=Yar (Yag Proofs.Tryz.f87) [1,1,1,0,1,0,0,1,0,0,1,0,0]
def sp:SP:=⟨[(0,.pt Xh),(3,.seg 3 []),(4,.cs I64),(5,.cs I64)],[(3,.reg,.cd (.sl .bool))]⟩
def fr:=Yja sp (fun x s=>Xip.B x.1.1 x.1.2.2.1 s.1 s.2) (fun x=>(x.1.2.2.2.1,x.2.1)) fun x (bb0:List Bool) _ kk0=>kk0 (.ex 2) ⟨[(0,.pt Xh x.1.1),(3,.seg 3 []),(4,.cs I64 x.1.2.2.1)],[sr 3 (.cd (.sl .bool) bb0)]⟩
theorem ok:Ya2 PR 84 1 (.loop c) fr:=
 Yw8 Xf Xe h0 (.R (.L (.one (.R (.one (.fr 2)))))) (L:=mkL [(2,Xgx.fr)]) (l:=[(2,.loop Xgx.c)]) ⟨Lam.cons Xgx.ok,trivial⟩ [(2,([0,3,4],[3]))] (fun x s=>((x.1.1,x.1.2.1,x.1.2.2.1,s.1,x.1.2.2.2.2),(s.2,x.2.2)))
  (fun x s=>by simp only[B,mC,mB,mS,mO,mN];kernel_rfl)
end Xip
namespace Xjd
noncomputable def c:=Yar (Yag Proofs.Tryz.f87) [1,1,1,0,1,0,0]
def sp:SP:=⟨[(0,.pt Xh),(3,.seg 3 []),(4,.cs I64)],[(3,.reg,.cd (.sl .bool))]⟩
def fr:=Yja sp (fun x s=>Xjd.B x.1.1 s.1 s.2) (fun x=>(x.1.2.2.1,x.2.1)) fun x (bb0:List Bool) _ kk0=>kk0 (.ex 0) ⟨[(3,.seg 3 [])],[sr 3 (.cd (.sl .bool) bb0)]⟩
theorem ok:Ya2 PR 84 1 (.loop c) fr:=
 Yw8 Xf Xe h0 (.R (.L (.one (.R (.one (.fr 1)))))) (L:=mkL [(2,Xgx.fr),(1,Xip.fr)]) (l:=[(1,.loop Xip.c)]) ⟨Lam.skip rfl (Lam.cons Xip.ok),trivial⟩ [(0,([3],[3]))] (fun x s=>((x.1.1,x.1.2.1,s.1,x.1.2.2.2),(s.2,x.2.2)))
  (fun x s=>by simp only[B,mC,mB,mS,mO,mN];kernel_rfl)
end Xjd
namespace Xje
noncomputable def c:=Yar (Yag Proofs.Tryz.f87) [1,1,1,1,1,0,1,0,0]
def sp:SP:=⟨[(3,.seg 3 []),(7,.seg 7 []),(8,.cs I64)],[(3,.reg,.cd (.sl .bool)),(7,.reg,.cd SI)]⟩
def fr:=Yja sp (fun x s=>Xje.B x.2.1 s.1 s.2) (fun x=>(x.1.2.2.1,x.2.2.1)) fun x (bb0:List Int) _ kk0=>kk0 (.ex 6) ⟨[(7,.seg 7 [])],[sr 7 (.cd SI bb0)]⟩
theorem ok:Ya2 PR 84 1 (.loop c) fr:=
 Yw0 Xf Xe h0 [(6,([7],[7]))] (fun x s=>((x.1.1,x.1.2.1,s.1,x.1.2.2.2),(x.2.1,s.2,x.2.2.2)))
  (fun x s=>by simp only[B,mC,mB,mS,mO,mN];kernel_rfl)
end Xje
namespace Xmh
def pts:List PT:=[.pt Xh]
def FS:FS:=Ycx [.sh] pts (fun x=>Xmh x.1) fun t=>⟨[.cd SI t],[]⟩
theorem ok:Ycm PR 87 FS:=
 Yw7 Xf Xe Proofs.Tryz.f87 h0 (.R (.R (.R (.two (.R (.one (.fr 0))) (.R (.L (.R (.one (.fr 3))))))))) (G:=(mkG [])) .nil (L:=mkL [(2,Xgx.fr),(1,Xip.fr),(0,Xjd.fr),(3,Xje.fr)]) (l:=[(0,.loop Xjd.c),(3,.loop Xje.c)]) ⟨Lam.skip rfl (Lam.skip rfl (Lam.cons Xjd.ok)),Lam.skip rfl (Lam.skip rfl (Lam.skip rfl (Lam.cons Xje.ok))),trivial⟩
  (fun x=>by simp only[Xmh,mC,mB,mS,mO,mN];kernel_rfl)
end Xmh
def Xiq.B (v:List Xb) (v2:Int) (v4:Int) (v5:Int) (v6:Int):Option ((Int×Int)⊕Int):=
 cond (inB v4 v.length) ((some ((v.getD v4.toNat Xa).2.2.2.2.1.length:Int)).bind fun v7=>cond (decide (v6<v7)) (cond (inB v4 v.length) (cond (inB v6 ((v.getD v4.toNat Xa).2.2.2.2.1.length)) ((some ((v.getD v4.toNat Xa).2.2.2.2.1.getD v6.toNat Xk).2.1).bind fun v8=>cond (v8 == v2) (some (.inl (w64 (v5+1),w64 (v6+1)))) (some (.inl (v5,w64 (v6+1))))) none) none) (some (.inr v5))) none
def Xiq (v:List Xb) (v2:Int) (v4:Int):(Int×Int)→Option Int:=
 Yan fun s=>Xiq.B v v2 v4 s.1 s.2
def Xjf.B (v:List Xb) (v2:Int) (v3:Int) (v4:Int):Option ((Int×Int)⊕Int):=
 cond (decide (v4<(v.length:Int))) ((Xiq v v2 v4 (v3,0)).bind fun v9=>some (.inl (v9,w64 (v4+1)))) (some (.inr v3))
def Xjf (v:List Xb) (v2:Int):(Int×Int)→Option Int:=
 Yan fun s=>Xjf.B v v2 s.1 s.2
def Xkz (v:List Xb) (v2:Int):Option Int:=
 (Xjf v v2 (0,0)).bind fun v10=>some v10
namespace Xiq
noncomputable def c:=Yar (Yag Proofs.Tryz.f88) [1,1,0,1,0,0,1,0,0,1,0,0]
def sp:SP:=⟨[(0,.cs (.sl Xd)),(1,.cs I64),(5,.cs I64),(6,.cs I64),(7,.cs I64)],[]⟩
def fr:=Yja sp (fun x s=>Xiq.B x.1.1 x.1.2.1 x.1.2.2.2.1 s.1 s.2) (fun x=>(x.1.2.2.1,x.1.2.2.2.2.1)) fun x (bb0:Int) _ kk0=>kk0 (.ex 2) ⟨[(0,.cs (.sl Xd) x.1.1),(1,.cs I64 x.1.2.1),(5,.cs I64 bb0),(6,.cs I64 x.1.2.2.2.1)],[]⟩
theorem ok:Ya2 PR 38 2 (.loop c) fr:=
 Yw0 Xf Xe h0 [(2,([0,1,5,6],[]))] (fun x s=>((x.1.1,x.1.2.1,s.1,x.1.2.2.2.1,s.2,x.1.2.2.2.2.2),x.2))
  (fun x s=>by simp only[B,mC,mB,mS,mO,mN];kernel_rfl)
end Xiq
namespace Xjf
noncomputable def c:=Yar (Yag Proofs.Tryz.f88) [1,1,0,1,0,0]
def sp:SP:=⟨[(0,.cs (.sl Xd)),(1,.cs I64),(5,.cs I64),(6,.cs I64)],[]⟩
def fr:=Yja sp (fun x s=>Xjf.B x.1.1 x.1.2.1 s.1 s.2) (fun x=>(x.1.2.2.1,x.1.2.2.2.1)) fun x (bb0:Int) _ kk0=>kk0 (.ex 0) ⟨[(5,.cs I64 bb0)],[]⟩
theorem ok:Ya2 PR 38 2 (.loop c) fr:=
 Yw8 Xf Xe h0 (.R (.L (.one (.R (.one (.fr 1)))))) (L:=mkL [(1,Xiq.fr)]) (l:=[(1,.loop Xiq.c)]) ⟨Lam.cons Xiq.ok,trivial⟩ [(0,([5],[]))] (fun x s=>((x.1.1,x.1.2.1,s.1,s.2,x.1.2.2.2.2),x.2))
  (fun x s=>by simp only[B,mC,mB,mS,mO,mN];kernel_rfl)
end Xjf
namespace Xkz
def pts:List PT:=[.cs (.sl Xd),.cs I64]
def FS:FS:=Ycx [.sh,.sh] pts (fun x=>Xkz x.1 x.2.1) fun t=>⟨[.cs I64 t],[]⟩
theorem ok:Ycm PR 88 FS:=
 Yw7 Xf Xe Proofs.Tryz.f88 h0 (.R (.R (.L (.R (.one (.fr 0)))))) (G:=(mkG [])) .nil (L:=mkL [(1,Xiq.fr),(0,Xjf.fr)]) (l:=[(0,.loop Xjf.c)]) ⟨Lam.skip rfl (Lam.cons Xjf.ok),trivial⟩
  (fun x=>by simp only[Xkz,mC,mB,mS,mO,mN];kernel_rfl)
end Xkz
def Xk0.B (v:List Int) (v2:Int) (v3:Int):Option (Int⊕((Bool⊕Unit))):=
 cond (decide (v3<(v.length:Int))) (cond (inB v3 v.length) (cond ((v.getD v3.toNat 0) == v2) (some (.inr (.inl true))) (some (.inl (w64 (v3+1))))) none) (some (.inr (.inr ())))
def Xk0 (v:List Int) (v2:Int):Int→Option ((Bool⊕Unit)):=
 Yan fun s=>Xk0.B v v2 s
def Xir (v:List Int) (v2:Int):Option Bool:=
 (Xk0 v v2 0).bind fun v4=>sel v4 (fun v5=>some v5) (fun v6=>some false)
namespace Xk0
noncomputable def c:=Yar (Yag Proofs.Tryz.f89) [1,0,1,0,0]
def sp:SP:=⟨[(0,.cs SI),(1,.cs I64),(5,.cs I64)],[]⟩
def fr:=Yja sp (fun x s=>Xk0.B x.1.1 x.1.2.1 s) (fun x=>x.1.2.2.1) fun x (oo0:(Bool⊕Unit)) _ kk0=>sel oo0 (fun bb0=>kk0 (.rt) ⟨[(4,.cs .bool bb0)],[]⟩) (fun cc0=>kk0 (.ex 0) ⟨[],[]⟩)
theorem ok:Ya2 PR 18 2 (.loop c) fr:=
 Yth Xf Xe h0 .no (G:=(mkG [])) .nil (L:=mkL []) (l:=[]) hT [(0,([],[]))] ([4],[]) (fun x s=>((x.1.1,x.1.2.1,s,x.1.2.2.2),x.2))
  (fun x s=>by simp only[B,mC,mB,mS,mO,mN];kernel_rfl)
end Xk0
namespace Xir
def pts:List PT:=[.cs SI,.cs I64]
def FS:FS:=Ycx [.sh,.sh] pts (fun x=>Xir x.1 x.2.1) fun t=>⟨[.cs .bool t],[]⟩
theorem ok:Ycm PR 89 FS:=
 Yw7 Xf Xe Proofs.Tryz.f89 h0 (.R (.L (.R (.one (.fr 0))))) (G:=(mkG [])) .nil (L:=mkL [(0,Xk0.fr)]) (l:=[(0,.loop Xk0.c)]) ⟨Lam.cons Xk0.ok,trivial⟩
  (fun x=>by simp only[Xir,mC,mB,mS,mO,mN];kernel_rfl)
end Xir
def Xk1.B (v:Fs_) (v2:List Int) (v3:Int):Option (Int⊕((Bool⊕Unit))):=
 cond (decide (v3<(v.1.length:Int))) (cond (inB v3 v.1.length) ((Xkz v.1 v3).bind fun v4=>cond ((v.1.getD v3.toNat Xa).1 == 0) (some (.inl (w64 (v3+1)))) (cond ((v.1.getD v3.toNat Xa).1 == 1) (cond (v4 != (v.1.getD v3.toNat Xa).2.1) (some (.inr (.inl false))) ((Xir v2 v3).bind fun v5=>cond (!v5) (some (.inr (.inl false))) (some (.inl (w64 (v3+1)))))) (cond (v3 == 0) (cond (v4 != 0) (some (.inr (.inl false))) ((Xir v2 v3).bind fun v6=>cond (!v6) (some (.inr (.inl false))) (some (.inl (w64 (v3+1)))))) (cond (v4 != 1) (some (.inr (.inl false))) ((Xir v2 v3).bind fun v7=>cond (!v7) (some (.inr (.inl false))) (some (.inl (w64 (v3+1))))))))) none) (some (.inr (.inr ())))
def Xk1 (v:Fs_) (v2:List Int):Int→Option ((Bool⊕Unit)):=
 Yan fun s=>Xk1.B v v2 s
def Xjg (v:Fs_):Option Bool:=
 (Xmh v).bind fun v2=>(Xk1 v v2 0).bind fun v8=>sel v8 (fun v9=>some v9) (fun v10=>some true)
namespace Xjg
def G:Gam:=mkG [(87,Xmh.FS),(88,Xkz.FS),(89,Xir.FS)]
theorem Gok:GOk PR G:=.cons Xmh.ok (.cons Xkz.ok (.cons Xir.ok .nil))
end Xjg
namespace Xk1
noncomputable def c:=Yar (Yag Proofs.Tryz.f48) [1,1,0,1,0,0]
def sp:SP:=⟨[(0,.pt Xh),(3,.seg 3 []),(4,.cs I64)],[(3,.reg,.cd SI)]⟩
def fr:=Yja sp (fun x s=>Xk1.B x.1.1 x.2.1 s) (fun x=>x.1.2.2.1) fun x (oo0:(Bool⊕Unit)) _ kk0=>sel oo0 (fun bb0=>kk0 (.rt) ⟨[(2,.cs .bool bb0)],[]⟩) (fun cc0=>kk0 (.ex 0) ⟨[],[]⟩)
theorem ok:Ya2 PR 59 1 (.loop c) fr:=
 Yth Xf Xe h0 .no (G:=Xjg.G) Xjg.Gok (L:=mkL []) (l:=[]) hT [(0,([],[]))] ([2],[]) (fun x s=>((x.1.1,x.1.2.1,s,x.1.2.2.2),x.2))
  (fun x s=>by simp only[B,mC,mB,mS,mO,mN];kernel_rfl)
end Xk1
namespace Xjg
def pts:List PT:=[.pt Xh]
def FS:FS:=Ycx [.sh] pts (fun x=>Xjg x.1) fun t=>⟨[.cs .bool t],[]⟩
theorem ok:Ycm PR 48 FS:=
 Yw7 Xf Xe Proofs.Tryz.f48 h0 (.R (.R (.L (.R (.one (.fr 0)))))) (G:=G) Gok (L:=mkL [(0,Xk1.fr)]) (l:=[(0,.loop Xk1.c)]) ⟨Lam.cons Xk1.ok,trivial⟩
  (fun x=>by simp only[Xjg,mC,mB,mS,mO,mN];kernel_rfl)
end Xjg
def Xck (v:Int) (v2:Int):Option Int:=
 cond (decide (v<v2)) (some v) (some v2)
namespace Xck
def pts:List PT:=[.cs I64,.cs I64]
def FS:FS:=Ycx [.sh,.sh] pts (fun x=>Xck x.1 x.2.1) fun t=>⟨[.cs I64 t],[]⟩
theorem ok:Ycm PR 90 FS:=
 Yw7 Xf Xe Proofs.Tryz.f90 h0 .no (G:=(mkG [])) .nil (L:=mkL []) (l:=[]) hT
  (fun x=>by simp only[Xck,mC,mB,mS,mO,mN];kernel_rfl)
end Xck
def Xis.B (v:Fs_) (v2:Int) (v4:Xb) (v5:Int) (v6:List Int):Option ((Int×List Int)⊕(List Int)):=
 cond (decide (v5<(v4.2.2.2.1.length:Int))) (cond (inB v5 v4.2.2.2.1.length) ((Xck 8 (w64 (v4.2.2.1-(w64 (v5*8))))).bind fun v7=>cond (inB (v4.2.2.2.1.getD v5.toNat 0) v6.length) (some (.inl (w64 (v5+1),v6.set ((v4.2.2.2.1.getD v5.toNat 0).toNat) v7))) none) none) (some (.inr v6))
def Xis (v:Fs_) (v2:Int) (v4:Xb):(Int×List Int)→Option (List Int):=
 Yan fun s=>Xis.B v v2 v4 s.1 s.2
def Xjh.B (v:Fs_) (v2:Int) (v3:List Int):Option ((Int×List Int)⊕(List Int)):=
 cond (decide (v2<(v.1.length:Int))) (cond (inB v2 v.1.length) ((Xis v v2 (v.1.getD v2.toNat Xa) (0,v3)).bind fun v8=>some (.inl (w64 (v2+1),v8))) none) (some (.inr v3))
def Xjh (v:Fs_):(Int×List Int)→Option (List Int):=
 Yan fun s=>Xjh.B v s.1 s.2
def Xk2.B (v:Fs_) (v9:List Int) (v10:Int):Option (Int⊕((Bool⊕Unit))):=
 cond (decide (v10<(v.2.1.length:Int))) (cond (inB v10 v.2.1.length) (cond (inB v10 v9.length) ((some (((v.2.1.getD v10.toNat []).length:Int) != (v9.getD v10.toNat 0))).bind fun v11=>cond v11 (some (.inr (.inl false))) (some (.inl (w64 (v10+1))))) none) none) (some (.inr (.inr ())))
def Xk2 (v:Fs_) (v9:List Int):Int→Option ((Bool⊕Unit)):=
 Yan fun s=>Xk2.B v v9 s
def Xgc (v:Fs_):Option Bool:=
 cond (decide ((0:Int)≤(20:Int))&&(decide ((20:Int)≤(20:Int))&&decide ((20:Int)≤2147483648))) ((Xjh v (0,List.replicate (20:Int).toNat 0)).bind fun v9=>(Xk2 v v9 0).bind fun v12=>sel v12 (fun v13=>some v13) (fun v14=>some true)) none
namespace Xgc
def G:Gam:=mkG [(90,Xck.FS)]
theorem Gok:GOk PR G:=.cons Xck.ok .nil
end Xgc
namespace Xis
noncomputable def c:=Yar (Yag Proofs.Tryz.f49) [1,1,0,1,0,0,1,0,0,1,1,0,0]
def sp:SP:=⟨[(0,.pt Xh),(3,.seg 3 []),(4,.cs I64),(5,.pt Xd),(6,.cs I64)],[(3,.reg,.cd SI)]⟩
def fr:=Yja sp (fun x s=>Xis.B x.1.1 x.1.2.2.1 x.1.2.2.2.1 s.1 s.2) (fun x=>(x.1.2.2.2.2.1,x.2.1)) fun x (bb0:List Int) _ kk0=>kk0 (.ex 2) ⟨[(0,.pt Xh x.1.1),(3,.seg 3 []),(4,.cs I64 x.1.2.2.1)],[sr 3 (.cd SI bb0)]⟩
theorem ok:Ya2 PR 72 1 (.loop c) fr:=
 Yw9 Xf Xe h0 (G:=Xgc.G) Xgc.Gok [(2,([0,3,4],[3]))] (fun x s=>((x.1.1,x.1.2.1,x.1.2.2.1,x.1.2.2.2.1,s.1,x.1.2.2.2.2.2),(s.2,x.2.2)))
  (fun x s=>by simp only[B,mC,mB,mS,mO,mN];kernel_rfl)
end Xis
namespace Xjh
noncomputable def c:=Yar (Yag Proofs.Tryz.f49) [1,1,0,1,0,0]
def sp:SP:=⟨[(0,.pt Xh),(3,.seg 3 []),(4,.cs I64)],[(3,.reg,.cd SI)]⟩
def fr:=Yja sp (fun x s=>Xjh.B x.1.1 s.1 s.2) (fun x=>(x.1.2.2.1,x.2.1)) fun x (bb0:List Int) _ kk0=>kk0 (.ex 0) ⟨[(0,.pt Xh x.1.1),(3,.seg 3 [])],[sr 3 (.cd SI bb0)]⟩
theorem ok:Ya2 PR 72 1 (.loop c) fr:=
 Yxb Xf Xe h0 (.R (.L (.one (.R (.R (.one (.fr 1))))))) (G:=Xgc.G) Xgc.Gok (L:=mkL [(1,Xis.fr)]) (l:=[(1,.loop Xis.c)]) ⟨Lam.cons Xis.ok,trivial⟩ [(0,([0,3],[3]))] (fun x s=>((x.1.1,x.1.2.1,s.1,x.1.2.2.2),(s.2,x.2.2)))
  (fun x s=>by simp only[B,mC,mB,mS,mO,mN];kernel_rfl)
end Xjh
namespace Xk2
noncomputable def c:=Yar (Yag Proofs.Tryz.f49) [1,1,1,0,1,0,0]
def sp:SP:=⟨[(0,.pt Xh),(3,.seg 3 []),(7,.cs I64)],[(3,.reg,.cd SI)]⟩
def fr:=Yja sp (fun x s=>Xk2.B x.1.1 x.2.1 s) (fun x=>x.1.2.2.1) fun x (oo0:(Bool⊕Unit)) _ kk0=>sel oo0 (fun bb0=>kk0 (.rt) ⟨[(2,.cs .bool bb0)],[]⟩) (fun cc0=>kk0 (.ex 4) ⟨[],[]⟩)
theorem ok:Ya2 PR 72 1 (.loop c) fr:=
 Yth Xf Xe h0 .no (G:=Xgc.G) Xgc.Gok (L:=mkL []) (l:=[]) hT [(4,([],[]))] ([2],[]) (fun x s=>((x.1.1,x.1.2.1,s,x.1.2.2.2),x.2))
  (fun x s=>by simp only[B,mC,mB,mS,mO,mN];kernel_rfl)
end Xk2
namespace Xgc
def pts:List PT:=[.pt Xh]
def FS:FS:=Ycx [.sh] pts (fun x=>Xgc x.1) fun t=>⟨[.cs .bool t],[]⟩
theorem ok:Ycm PR 49 FS:=
 Yw7 Xf Xe Proofs.Tryz.f49 h0 (.R (.R (.two (.R (.one (.fr 0))) (.L (.R (.one (.fr 2))))))) (G:=G) Gok (L:=mkL [(1,Xis.fr),(0,Xjh.fr),(2,Xk2.fr)]) (l:=[(0,.loop Xjh.c),(2,.loop Xk2.c)]) ⟨Lam.skip rfl (Lam.cons Xjh.ok),Lam.skip rfl (Lam.skip rfl (Lam.cons Xk2.ok)),trivial⟩
  (fun x=>by simp only[Xgc,mC,mB,mS,mO,mN];kernel_rfl)
end Xgc
def Xhf (v:Fs_):Option Int:=
 (Xer v).bind fun v2=>cond (v2 != 0) (some v2) ((Xjg v).bind fun v3=>cond (!v3) (some 1) ((Xgc v).bind fun v4=>cond (!v4) (some 1) (some 0)))
namespace Xhf
def G:Gam:=mkG [(47,Xer.FS),(48,Xjg.FS),(49,Xgc.FS)]
def pts:List PT:=[.pt Xh]
def FS:FS:=Ycx [.sh] pts (fun x=>Xhf x.1) fun t=>⟨[.cs I64 t],[]⟩
theorem ok:Ycm PR 23 FS:=
 Yw7 Xf Xe Proofs.Tryz.f23 h0 .no (G:=G) (show GOk PR G from .cons Xer.ok (.cons Xjg.ok (.cons Xgc.ok .nil))) (L:=mkL []) (l:=[]) hT
  (fun x=>by simp only[Xhf,mC,mB,mS,mO,mN];kernel_rfl)
end Xhf
def Xmw (v:Int):Option Bool:=
 some (cond (v == 8) true (v == 9))
namespace Xmw
def pts:List PT:=[.cs I64]
def FS:FS:=Ycx [.sh] pts (fun x=>Xmw x.1) fun t=>⟨[.cs .bool t],[]⟩
theorem ok:Ycm PR 51 FS:=
 Yw7 Xf Xe Proofs.Tryz.f51 h0 .no (G:=(mkG [])) .nil (L:=mkL []) (l:=[]) hT
  (fun x=>by simp only[Xmw,mC,mB,mS,mO,mN];kernel_rfl)
end Xmw
def Xmi (v:Xap):Option Int:=
 (Xas v.1 1 11).bind fun v2=>cond (!v2) (some 1) ((Xmw v.1).bind fun v3=>(some (cond (!v3) (!(v.2.2.1 == ([]:List UInt8))) false)).bind fun v4=>(some (cond v4 true (cond (!(cond (v.1 == 3) true (v.1 == 4))) (v.2.2.2.1 != 0) false))).bind fun v5=>(some (cond v5 true (cond (!(cond (v.1 == 4) true (v.1 == 5))) (v.2.2.2.2.1 != 0) false))).bind fun v6=>(some (cond v6 true (cond (v.1 != 3) (decide ((v.2.2.2.2.2.1.length:Int)>0)) false))).bind fun v7=>cond v7 (some 1) (cond (decide ((v.2.2.2.2.2.1.length:Int)>40)) (some 2) (some 0)))
namespace Xmi
def G:Gam:=mkG [(50,Xas.FS),(51,Xmw.FS)]
def pts:List PT:=[.cs Xv]
def FS:FS:=Ycx [.sh] pts (fun x=>Xmi x.1) fun t=>⟨[.cs I64 t],[]⟩
theorem ok:Ycm PR 24 FS:=
 Yw7 Xf Xe Proofs.Tryz.f24 ⟨[1],[],[],0⟩ .no (G:=G) (show GOk PR G from .cons Xas.ok (.cons Xmw.ok .nil)) (L:=mkL []) (l:=[]) hT
  (fun x=>by simp only[Xmi,mC,mB,mS,mO,mN];kernel_rfl)
end Xmi
def Xk3.B (v:List Int) (v2:Int):Option (Int⊕((Int⊕Unit))):=
 cond (decide (v2<(v.length:Int))) (cond (inB v2 v.length) ((Xas (v.getD v2.toNat 0) 0 19).bind fun v3=>cond (!v3) (some (.inr (.inl 3))) (some (.inl (w64 (v2+1))))) none) (some (.inr (.inr ())))
def Xk3 (v:List Int):Int→Option ((Int⊕Unit)):=
 Yan fun s=>Xk3.B v s
def Xe0 (v:List Int):Option Int:=
 cond (decide ((v.length:Int)>20)) (some 2) ((Xk3 v 0).bind fun v4=>sel v4 (fun v5=>some v5) (fun v6=>some 0))
namespace Xe0
def G:Gam:=mkG [(50,Xas.FS)]
theorem Gok:GOk PR G:=.cons Xas.ok .nil
end Xe0
namespace Xk3
noncomputable def c:=Yar (Yag Proofs.Tryz.f25) [1,1,0,1,0,0]
def sp:SP:=⟨[(0,.cs SI),(3,.cs I64)],[]⟩
def fr:=Yja sp (fun x s=>Xk3.B x.1.1 s) (fun x=>x.1.2.1) fun x (oo0:(Int⊕Unit)) _ kk0=>sel oo0 (fun bb0=>kk0 (.rt) ⟨[(2,.cs I64 bb0)],[]⟩) (fun cc0=>kk0 (.ex 0) ⟨[],[]⟩)
theorem ok:Ya2 PR 19 1 (.loop c) fr:=
 Yth Xf Xe h0 .no (G:=Xe0.G) Xe0.Gok (L:=mkL []) (l:=[]) hT [(0,([],[]))] ([2],[]) (fun x s=>((x.1.1,s,x.1.2.2),x.2))
  (fun x s=>by simp only[B,mC,mB,mS,mO,mN];kernel_rfl)
end Xk3
namespace Xe0
def pts:List PT:=[.cs SI]
def FS:FS:=Ycx [.sh] pts (fun x=>Xe0 x.1) fun t=>⟨[.cs I64 t],[]⟩
theorem ok:Ycm PR 25 FS:=
 Yw7 Xf Xe Proofs.Tryz.f25 h0 (.R (.R (.L (.R (.one (.fr 0)))))) (G:=G) Gok (L:=mkL [(0,Xk3.fr)]) (l:=[(0,.loop Xk3.c)]) ⟨Lam.cons Xk3.ok,trivial⟩
  (fun x=>by simp only[Xe0,mC,mB,mS,mO,mN];kernel_rfl)
end Xe0
def Xhg.B (v:List UInt8) (v2:Int) (v3:Int) (v4:Int) (v5:List (List UInt8)):Option ((Int×Int×List (List UInt8))⊕(List (List UInt8))):=
 cond (decide (v4≤(v.length:Int))) (cond (cond (!(v4 == (v.length:Int))) (inB v4 v.length) true) ((some (cond (v4 == (v.length:Int)) true (((v.getD v4.toNat 0).toNat:Int) == v2))).bind fun v6=>cond v6 (cond (decide ((0:Int)≤v4)&&decide (v4≤(v.length:Int))&&(decide ((0:Int)≤v3)&&decide (v3≤v4))) (cond (decide ((v5++([(v.take v4.toNat).drop v3.toNat])).length≤2147483648)) (some (.inl (w64 (v4+1),w64 (v4+1),v5++([(v.take v4.toNat).drop v3.toNat])))) none) none) (some (.inl (v3,w64 (v4+1),v5)))) none) (some (.inr v5))
def Xhg (v:List UInt8) (v2:Int):(Int×Int×List (List UInt8))→Option (List (List UInt8)):=
 Yan fun s=>Xhg.B v v2 s.1 s.2.1 s.2.2
def Xlv (v:List UInt8) (v2:Int):Option (List (List UInt8)):=
 (Xhg v v2 (0,0,[])).bind fun v7=>some v7
namespace Xhg
noncomputable def c:=Yar (Yag Proofs.Tryz.f175) [1,1,1,0,1,0,0]
def sp:SP:=⟨[(0,.cs .str),(1,.cs U8),(5,.seg 5 []),(6,.cs I64),(7,.cs I64)],[(5,.reg,.cd (.sl .str))]⟩
def fr:=Yja sp (fun x s=>Xhg.B x.1.1 x.1.2.1 s.1 s.2.1 s.2.2) (fun x=>(x.1.2.2.2.1,x.1.2.2.2.2.1,x.2.1)) fun x (bb0:List (List UInt8)) _ kk0=>kk0 (.ex 0) ⟨[(5,.seg 5 [])],[sr 5 (.cd (.sl .str) bb0)]⟩
theorem ok:Ya2 PR 36 2 (.loop c) fr:=
 Yw0 Xf Xe h0 [(0,([5],[5]))] (fun x s=>((x.1.1,x.1.2.1,x.1.2.2.1,s.1,s.2.1,x.1.2.2.2.2.2),(s.2.2,x.2.2)))
  (fun x s=>by simp only[B,mC,mB,mS,mO,mN];kernel_rfl)
end Xhg
namespace Xlv
def pts:List PT:=[.cs .str,.cs U8]
def FS:FS:=Ycx [.sh,.sh] pts (fun x=>Xlv x.1 x.2.1) fun t=>⟨[.cd (.sl .str) t],[]⟩
theorem ok:Ycm PR 175 FS:=
 Yw7 Xf Xe Proofs.Tryz.f175 h0 (.R (.R (.R (.L (.R (.one (.fr 0))))))) (G:=(mkG [])) .nil (L:=mkL [(0,Xhg.fr)]) (l:=[(0,.loop Xhg.c)]) ⟨Lam.cons Xhg.ok,trivial⟩
  (fun x=>by simp only[Xlv,mC,mB,mS,mO,mN];kernel_rfl)
end Xlv
def Xk4.B (v:List (List UInt8)) (v2:Int):Option (Int⊕((Int⊕Unit))):=
 cond (decide (v2<(v.length:Int))) (cond (inB v2 v.length) ((Xkt (v.getD v2.toNat [])).bind fun v3=>cond (v3 != 0) (some (.inr (.inl v3))) (some (.inl (w64 (v2+1))))) none) (some (.inr (.inr ())))
def Xk4 (v:List (List UInt8)):Int→Option ((Int⊕Unit)):=
 Yan fun s=>Xk4.B v s
def Xji (v:List (List UInt8)):Option Int:=
 cond (decide ((v.length:Int)>6)) (some 2) ((Xk4 v 0).bind fun v4=>sel v4 (fun v5=>some v5) (fun v6=>some 0))
namespace Xji
def G:Gam:=mkG [(193,Xkt.FS)]
theorem Gok:GOk PR G:=.cons Xkt.ok .nil
end Xji
namespace Xk4
noncomputable def c:=Yar (Yag Proofs.Tryz.f176) [1,1,0,1,0,0]
def sp:SP:=⟨[(0,.cs (.sl .str)),(3,.cs I64)],[]⟩
def fr:=Yja sp (fun x s=>Xk4.B x.1.1 s) (fun x=>x.1.2.1) fun x (oo0:(Int⊕Unit)) _ kk0=>sel oo0 (fun bb0=>kk0 (.rt) ⟨[(2,.cs I64 bb0)],[]⟩) (fun cc0=>kk0 (.ex 0) ⟨[],[]⟩)
theorem ok:Ya2 PR 22 1 (.loop c) fr:=
 Yth Xf Xe h0 .no (G:=Xji.G) Xji.Gok (L:=mkL []) (l:=[]) hT [(0,([],[]))] ([2],[]) (fun x s=>((x.1.1,s,x.1.2.2),x.2))
  (fun x s=>by simp only[B,mC,mB,mS,mO,mN];kernel_rfl)
end Xk4
namespace Xji
def pts:List PT:=[.cs (.sl .str)]
def FS:FS:=Ycx [.sh] pts (fun x=>Xji x.1) fun t=>⟨[.cs I64 t],[]⟩
theorem ok:Ycm PR 176 FS:=
 Yw7 Xf Xe Proofs.Tryz.f176 h0 (.R (.R (.L (.R (.one (.fr 0)))))) (G:=G) Gok (L:=mkL [(0,Xk4.fr)]) (l:=[(0,.loop Xk4.c)]) ⟨Lam.cons Xk4.ok,trivial⟩
  (fun x=>by simp only[Xji,mC,mB,mS,mO,mN];kernel_rfl)
end Xji
def Xk5 (v:List UInt8):Option ((List (List UInt8))×Int):=
 cond (decide ((v.length:Int)>30)) (some ([],2)) (cond (v == ([47]:List UInt8)) (some ([],0)) (cond (cond (!((v.length:Int) == 0)) (inB 0 v.length) true) ((some (cond ((v.length:Int) == 0) true (((v.getD (0:Int).toNat 0).toNat:Int) != 47))).bind fun v2=>cond (cond (!v2) (inB (w64 ((v.length:Int)-1)) v.length) true) ((some (cond v2 true (((v.getD (w64 ((v.length:Int)-1)).toNat 0).toNat:Int) == 47))).bind fun v3=>cond v3 (some ([],5)) (cond (decide ((0:Int)≤(1:Int))&&decide ((1:Int)≤(v.length:Int))) ((Xlv ((v.take v.length).drop ((1:Int).toNat)) 47).bind fun v4=>(Xji v4).bind fun v5=>cond (v5 != 0) (some ([],v5)) (some (v4,0))) none)) none) none))
namespace Xk5
def G:Gam:=mkG [(175,Xlv.FS),(176,Xji.FS)]
def pts:List PT:=[.cs .str]
def FS:FS:=Ycx [.sh] pts (fun x=>Xk5 x.1) fun t=>⟨[.cd (.sl .str) t.1,.cs I64 t.2],[]⟩
theorem ok:Ycm PR 144 FS:=
 Yw7 Xf Xe Proofs.Tryz.f144 h0 .no (G:=G) (show GOk PR G from .cons Xlv.ok (.cons Xji.ok .nil)) (L:=mkL []) (l:=[]) hT
  (fun x=>by simp only[Xk5,mC,mB,mS,mO,mN];kernel_rfl)
end Xk5
def Xmx (v:List UInt8):Option ((List (List UInt8))×(List UInt8)×Int):=
 (Xk5 v).bind fun v2=>cond (v2.2 != 0) (some ([],([]:List UInt8),v2.2)) (cond ((v2.1.length:Int) == 0) (some ([],([]:List UInt8),4)) (cond (decide ((0:Int)≤(w64 ((v2.1.length:Int)-1)))&&decide ((w64 ((v2.1.length:Int)-1))≤(v2.1.length:Int))) (cond (inB (w64 ((v2.1.length:Int)-1)) v2.1.length) ((some (v2.1.getD ((w64 ((v2.1.length:Int)-1)).toNat) [])).bind fun v3=>some ((v2.1.drop 0).take (((w64 ((v2.1.length:Int)-1)).toNat)-0),v3,0)) none) none))
namespace Xmx
def G:Gam:=mkG [(144,Xk5.FS)]
def pts:List PT:=[.cs .str]
def FS:FS:=Ycx [.sh] pts (fun x=>Xmx x.1) fun t=>⟨[.cd (.sl .str) t.1,.cs .str t.2.1,.cs I64 t.2.2],[]⟩
theorem ok:Ycm PR 140 FS:=
 Yw7 Xf Xe Proofs.Tryz.f140 h0 .no (G:=G) (show GOk PR G from .cons Xk5.ok .nil) (L:=mkL []) (l:=[]) hT
  (fun x=>by simp only[Xmx,mC,mB,mS,mO,mN];kernel_rfl)
end Xmx
def Xk6.B (v:List Xg) (v2:List UInt8) (v3:Int):Option (Int⊕((Int⊕Unit))):=
 cond (decide (v3<(v.length:Int))) (cond (inB v3 v.length) (cond ((v.getD v3.toNat Xk).1 == v2) (some (.inr (.inl v3))) (some (.inl (w64 (v3+1))))) none) (some (.inr (.inr ())))
def Xk6 (v:List Xg) (v2:List UInt8):Int→Option ((Int⊕Unit)):=
 Yan fun s=>Xk6.B v v2 s
def Xa8 (v:List Xg) (v2:List UInt8):Option Int:=
 (Xk6 v v2 0).bind fun v4=>sel v4 (fun v5=>some v5) (fun v6=>some (-1))
namespace Xk6
noncomputable def c:=Yar (Yag Proofs.Tryz.f93) [1,0,1,0,0]
def sp:SP:=⟨[(0,.cs (.sl Xi)),(1,.cs .str),(5,.cs I64)],[]⟩
def fr:=Yja sp (fun x s=>Xk6.B x.1.1 x.1.2.1 s) (fun x=>x.1.2.2.1) fun x (oo0:(Int⊕Unit)) _ kk0=>sel oo0 (fun bb0=>kk0 (.rt) ⟨[(4,.cs I64 bb0)],[]⟩) (fun cc0=>kk0 (.ex 0) ⟨[],[]⟩)
theorem ok:Ya2 PR 20 2 (.loop c) fr:=
 Yth Xf Xe h0 .no (G:=(mkG [])) .nil (L:=mkL []) (l:=[]) hT [(0,([],[]))] ([4],[]) (fun x s=>((x.1.1,x.1.2.1,s,x.1.2.2.2),x.2))
  (fun x s=>by simp only[B,mC,mB,mS,mO,mN];kernel_rfl)
end Xk6
namespace Xa8
def pts:List PT:=[.cs (.sl Xi),.cs .str]
def FS:FS:=Ycx [.sh,.sh] pts (fun x=>Xa8 x.1 x.2.1) fun t=>⟨[.cs I64 t],[]⟩
theorem ok:Ycm PR 93 FS:=
 Yw7 Xf Xe Proofs.Tryz.f93 h0 (.R (.L (.R (.one (.fr 0))))) (G:=(mkG [])) .nil (L:=mkL [(0,Xk6.fr)]) (l:=[(0,.loop Xk6.c)]) ⟨Lam.cons Xk6.ok,trivial⟩
  (fun x=>by simp only[Xa8,mC,mB,mS,mO,mN];kernel_rfl)
end Xa8
def Xjj.B (v:Fs_) (v2:List (List UInt8)) (v3:Int) (v4:Int):Option ((Int×Int)⊕(((Int×Int)⊕Int))):=
 cond (decide (v4<(v2.length:Int))) (cond (inB v3 v.1.length) (cond ((v.1.getD v3.toNat Xa).1 != 2) (some (.inr (.inl (0,9)))) (cond (inB v3 v.1.length) (cond (inB v4 v2.length) ((Xa8 (v.1.getD v3.toNat Xa).2.2.2.2.1 (v2.getD v4.toNat [])).bind fun v5=>cond (decide (v5<0)) (some (.inr (.inl (0,4)))) (cond (inB v3 v.1.length) (cond (inB v5 ((v.1.getD v3.toNat Xa).2.2.2.2.1.length)) ((some ((v.1.getD v3.toNat Xa).2.2.2.2.1.getD v5.toNat Xk).2.1).bind fun v6=>some (.inl (v6,w64 (v4+1)))) none) none)) none) none)) none) (some (.inr (.inr v3)))
def Xjj (v:Fs_) (v2:List (List UInt8)):(Int×Int)→Option (((Int×Int)⊕Int)):=
 Yan fun s=>Xjj.B v v2 s.1 s.2
def Xgy (v:Fs_) (v2:List (List UInt8)):Option (Int×Int):=
 (Xjj v v2 (0,0)).bind fun v7=>sel v7 (fun v8=>some (v8.1,v8.2)) (fun v9=>some (v9,0))
namespace Xgy
def G:Gam:=mkG [(93,Xa8.FS)]
theorem Gok:GOk PR G:=.cons Xa8.ok .nil
end Xgy
namespace Xjj
noncomputable def c:=Yar (Yag Proofs.Tryz.f141) [1,1,0,1,0,0]
def sp:SP:=⟨[(0,.pt Xh),(1,.cs (.sl .str)),(6,.cs I64),(7,.cs I64)],[]⟩
def fr:=Yja sp (fun x s=>Xjj.B x.1.1 x.1.2.1 s.1 s.2) (fun x=>(x.1.2.2.1,x.1.2.2.2.1)) fun x (oo0:((Int×Int)⊕Int)) _ kk0=>sel oo0 (fun bb0=>kk0 (.rt) ⟨[(4,.cs I64 bb0.1),(5,.cs I64 bb0.2)],[]⟩) (fun cc0=>kk0 (.ex 0) ⟨[(6,.cs I64 cc0)],[]⟩)
theorem ok:Ya2 PR 52 2 (.loop c) fr:=
 Yth Xf Xe h0 .no (G:=Xgy.G) Xgy.Gok (L:=mkL []) (l:=[]) hT [(0,([6],[]))] ([4,5],[]) (fun x s=>((x.1.1,x.1.2.1,s.1,s.2,x.1.2.2.2.2),x.2))
  (fun x s=>by simp only[B,mC,mB,mS,mO,mN];kernel_rfl)
end Xjj
namespace Xgy
def pts:List PT:=[.pt Xh,.cs (.sl .str)]
def FS:FS:=Ycx [.sh,.sh] pts (fun x=>Xgy x.1 x.2.1) fun t=>⟨[.cs I64 t.1,.cs I64 t.2],[]⟩
theorem ok:Ycm PR 141 FS:=
 Yw7 Xf Xe Proofs.Tryz.f141 h0 (.R (.R (.L (.R (.one (.fr 0)))))) (G:=G) Gok (L:=mkL [(0,Xjj.fr)]) (l:=[(0,.loop Xjj.c)]) ⟨Lam.cons Xjj.ok,trivial⟩
  (fun x=>by simp only[Xgy,mC,mB,mS,mO,mN];kernel_rfl)
end Xgy
def Xe1 (v:Fs_) (v2:List UInt8):Option (Int×(List UInt8)×Int):=
 (Xmx v2).bind fun v3=>cond (v3.2.2 != 0) (some (0,([]:List UInt8),v3.2.2)) ((Xgy v v3.1).bind fun v4=>cond (v4.2 != 0) (some (0,([]:List UInt8),v4.2)) (cond (inB v4.1 v.1.length) (cond ((v.1.getD v4.1.toNat Xa).1 != 2) (some (0,([]:List UInt8),9)) (some (v4.1,v3.2.1,0))) none))
namespace Xe1
def G:Gam:=mkG [(140,Xmx.FS),(141,Xgy.FS)]
def pts:List PT:=[.pt Xh,.cs .str]
def FS:FS:=Ycx [.sh,.sh] pts (fun x=>Xe1 x.1 x.2.1) fun t=>⟨[.cs I64 t.1,.cs .str t.2.1,.cs I64 t.2.2],[]⟩
theorem ok:Ycm PR 91 FS:=
 Yw7 Xf Xe Proofs.Tryz.f91 h0 .no (G:=G) (show GOk PR G from .cons Xmx.ok (.cons Xgy.ok .nil)) (L:=mkL []) (l:=[]) hT
  (fun x=>by simp only[Xe1,mC,mB,mS,mO,mN];kernel_rfl)
end Xe1
def Xmy (v:List Int):Option (List Int):=
 cond (decide (([]++v).length≤2147483648)) (some ([]++v)) none
namespace Xmy
def pts:List PT:=[.cs SI]
def FS:FS:=Ycx [.sh] pts (fun x=>Xmy x.1) fun t=>⟨[.cd SI t],[]⟩
theorem ok:Ycm PR 174 FS:=
 Yw7 Xf Xe Proofs.Tryz.f174 h0 .no (G:=(mkG [])) .nil (L:=mkL []) (l:=[]) hT
  (fun x=>by simp only[Xmy,mC,mB,mS,mO,mN];kernel_rfl)
end Xmy
def Xmj (v:Xb):Option Xb:=
 (Xmy v.2.2.2.1).bind fun v2=>cond (decide (([]++v.2.2.2.2.1).length≤2147483648)) (some (v.1,v.2.1,v.2.2.1,v2,[]++v.2.2.2.2.1,v.2.2.2.2.2)) none
namespace Xmj
def G:Gam:=mkG [(174,Xmy.FS)]
def pts:List PT:=[.cs Xd]
def FS:FS:=Ycx [.sh] pts (fun x=>Xmj x.1) fun t=>⟨[.cd Xd t],[]⟩
theorem ok:Ycm PR 142 FS:=
 Yw7 Xf Xe Proofs.Tryz.f142 h0 .no (G:=G) (show GOk PR G from .cons Xmy.ok .nil) (L:=mkL []) (l:=[]) hT
  (fun x=>by simp only[Xmj,mC,mB,mS,mO,mN];kernel_rfl)
end Xmj
def Xjk.B (v:Fs_) (v3:Fs_) (v2:Int) (v4:Fs_):Option ((Int×Fs_)⊕Fs_):=
 cond (decide (v2<(v.1.length:Int))) (cond (inB v2 v.1.length) ((Xmj (v.1.getD v2.toNat Xa)).bind fun v5=>(some (v4.1++([(v5.1,v5.2.1,v5.2.2.1,v5.2.2.2.1,v5.2.2.2.2.1,v5.2.2.2.2.2)]))).bind fun v6=>cond (decide (v6.length≤2147483648)) (some (.inl (w64 (v2+1),(v6,v4.2)))) none) none) (some (.inr v4))
def Xjk (v:Fs_) (v3:Fs_):(Int×Fs_)→Option Fs_:=
 Yan fun s=>Xjk.B v v3 s.1 s.2
def Xjl.B (v:Fs_) (v9:Fs_) (v8:Int) (v10:Fs_):Option ((Int×Fs_)⊕Fs_):=
 cond (decide (v8<(v.2.1.length:Int))) (cond (inB v8 v.2.1.length) (cond (decide (([]++(v.2.1.getD v8.toNat [])).length≤2147483648)) (cond (decide ((v10.2.1++([[]++(v.2.1.getD v8.toNat [])])).length≤2147483648)) (some (.inl (w64 (v8+1),(v10.1,v10.2.1++([[]++(v.2.1.getD v8.toNat [])]),v10.2.2)))) none) none) none) (some (.inr v10))
def Xjl (v:Fs_) (v9:Fs_):(Int×Fs_)→Option Fs_:=
 Yan fun s=>Xjl.B v v9 s.1 s.2
def Xar (v:Fs_):Option Fs_:=
 (Xjk v ([],[],()) (0,([],[],()))).bind fun v7=>(Xjl v ([],[],()) (0,v7)).bind fun v11=>some (v11.1,v11.2.1,v11.2.2)
namespace Xar
def G:Gam:=mkG [(142,Xmj.FS)]
theorem Gok:GOk PR G:=.cons Xmj.ok .nil
end Xar
namespace Xjk
noncomputable def c:=Yar (Yag Proofs.Tryz.f95) [1,1,0,1,0,0]
def sp:SP:=⟨[(1,.pt Xh),(2,.loc 2 []),(3,.loc 3 []),(4,.cs I64)],[(2,.mem,.cd Xh),(3,.mem,.cd Xh)]⟩
def fr:=Yja sp (fun x s=>Xjk.B x.1.1 x.2.1 s.1 s.2) (fun x=>(x.1.2.2.2.1,x.2.2.1)) fun x (bb0:Fs_) _ kk0=>kk0 (.ex 0) ⟨[(1,.pt Xh x.1.1),(2,.loc 2 []),(3,.loc 3 [])],[(2,some ⟨.mem,.cd Xh x.2.1⟩),(3,some ⟨.mem,.cd Xh bb0⟩)]⟩
theorem ok:Ya2 PR 45 1 (.loop c) fr:=
 Yw9 Xf Xe ⟨[1],[],[],0⟩ (G:=Xar.G) Xar.Gok [(0,([1,2,3],[2,3]))] (fun x s=>((x.1.1,x.1.2.1,x.1.2.2.1,s.1,x.1.2.2.2.2),(x.2.1,s.2,x.2.2.2)))
  (fun x s=>by simp only[B,mC,mB,mS,mO,mN];kernel_rfl)
end Xjk
namespace Xjl
noncomputable def c:=Yar (Yag Proofs.Tryz.f95) [1,1,1,0,1,0,0]
def sp:SP:=⟨[(1,.pt Xh),(2,.loc 2 []),(3,.loc 3 []),(5,.cs I64)],[(2,.mem,.cd Xh),(3,.mem,.cd Xh)]⟩
def fr:=Yja sp (fun x s=>Xjl.B x.1.1 x.2.1 s.1 s.2) (fun x=>(x.1.2.2.2.1,x.2.2.1)) fun x (bb0:Fs_) _ kk0=>kk0 (.ex 2) ⟨[(2,.loc 2 []),(3,.loc 3 [])],[(2,some ⟨.mem,.cd Xh x.2.1⟩),(3,some ⟨.mem,.cd Xh bb0⟩)]⟩
theorem ok:Ya2 PR 45 1 (.loop c) fr:=
 Yw9 Xf Xe ⟨[1],[],[],0⟩ (G:=Xar.G) Xar.Gok [(2,([2,3],[2,3]))] (fun x s=>((x.1.1,x.1.2.1,x.1.2.2.1,s.1,x.1.2.2.2.2),(x.2.1,s.2,x.2.2.2)))
  (fun x s=>by simp only[B,mC,mB,mS,mO,mN];kernel_rfl)
end Xjl
namespace Xar
def pts:List PT:=[.cs Xh]
def FS:FS:=Ycx [.sh] pts (fun x=>Xar x.1) fun t=>⟨[.cd Xh t],[]⟩
theorem ok:Ycm PR 95 FS:=
 Yw7 Xf Xe Proofs.Tryz.f95 ⟨[1],[],[],0⟩ (.R (.R (.two (.R (.one (.fr 0))) (.L (.R (.one (.fr 1))))))) (G:=G) Gok (L:=mkL [(0,Xjk.fr),(1,Xjl.fr)]) (l:=[(0,.loop Xjk.c),(1,.loop Xjl.c)]) ⟨Lam.cons Xjk.ok,Lam.skip rfl (Lam.cons Xjl.ok),trivial⟩
  (fun x=>by simp only[Xar,mC,mB,mS,mO,mN];kernel_rfl)
end Xar
def X3 (v:Fs_) (v2:Int):Option Xo:=
 (Xar v).bind fun v3=>some (0,v2,0,[],[],(v3.1,v3.2.1,v3.2.2),())
namespace X3
def G:Gam:=mkG [(95,Xar.FS)]
def pts:List PT:=[.cs Xh,.cs I64]
def FS:FS:=Ycx [.sh,.sh] pts (fun x=>X3 x.1 x.2.1) fun t=>⟨[.cd Xj t],[]⟩
theorem ok:Ycm PR 92 FS:=
 Yw7 Xf Xe Proofs.Tryz.f92 ⟨[2],[],[],0⟩ .no (G:=G) (show GOk PR G from .cons Xar.ok .nil) (L:=mkL []) (l:=[]) hT
  (fun x=>by simp only[X3,mC,mB,mS,mO,mN];kernel_rfl)
end X3
def Xk7.B (v:List Xb) (v2:Int):Option (Int⊕((Int⊕Unit))):=
 cond (decide (v2<(v.length:Int))) (cond (inB v2 v.length) (cond ((v.getD v2.toNat Xa).1 == 0) (some (.inr (.inl v2))) (some (.inl (w64 (v2+1))))) none) (some (.inr (.inr ())))
def Xk7 (v:List Xb):Int→Option ((Int⊕Unit)):=
 Yan fun s=>Xk7.B v s
def Xmk (v:List Xb):Option Int:=
 (Xk7 v 0).bind fun v3=>sel v3 (fun v4=>some v4) (fun v5=>cond (decide ((v.length:Int)<10)) (some (v.length:Int)) (some (-1)))
namespace Xk7
noncomputable def c:=Yar (Yag Proofs.Tryz.f94) [1,0,1,0,0]
def sp:SP:=⟨[(0,.cs (.sl Xd)),(3,.cs I64)],[]⟩
def fr:=Yja sp (fun x s=>Xk7.B x.1.1 s) (fun x=>x.1.2.1) fun x (oo0:(Int⊕Unit)) _ kk0=>sel oo0 (fun bb0=>kk0 (.rt) ⟨[(2,.cs I64 bb0)],[]⟩) (fun cc0=>kk0 (.ex 0) ⟨[(0,.cs (.sl Xd) x.1.1)],[]⟩)
theorem ok:Ya2 PR 22 1 (.loop c) fr:=
 Yth Xf Xe h0 .no (G:=(mkG [])) .nil (L:=mkL []) (l:=[]) hT [(0,([0],[]))] ([2],[]) (fun x s=>((x.1.1,s,x.1.2.2),x.2))
  (fun x s=>by simp only[B,mC,mB,mS,mO,mN];kernel_rfl)
end Xk7
namespace Xmk
def pts:List PT:=[.cs (.sl Xd)]
def FS:FS:=Ycx [.sh] pts (fun x=>Xmk x.1) fun t=>⟨[.cs I64 t],[]⟩
theorem ok:Ycm PR 94 FS:=
 Yw7 Xf Xe Proofs.Tryz.f94 h0 (.R (.L (.R (.one (.fr 0))))) (G:=(mkG [])) .nil (L:=mkL [(0,Xk7.fr)]) (l:=[(0,.loop Xk7.c)]) ⟨Lam.cons Xk7.ok,trivial⟩
  (fun x=>by simp only[Xmk,mC,mB,mS,mO,mN];kernel_rfl)
end Xmk
def Xgz (v:Fs_) (v2:Int):Option Bool:=
 (Xas v2 0 (w64 ((v.1.length:Int)-1))).bind fun v3=>some v3
namespace Xgz
def G:Gam:=mkG [(50,Xas.FS)]
def pts:List PT:=[.pt Xh,.cs I64]
def FS:FS:=Ycx [.sh,.sh] pts (fun x=>Xgz x.1 x.2.1) fun t=>⟨[.cs .bool t],[]⟩
theorem ok:Ycm PR 143 FS:=
 Yw7 Xf Xe Proofs.Tryz.f143 h0 .no (G:=G) (show GOk PR G from .cons Xas.ok .nil) (L:=mkL []) (l:=[]) hT
  (fun x=>by simp only[Xgz,mC,mB,mS,mO,mN];kernel_rfl)
end Xgz
def Xjm.B (v:List Xg) (v2:Xg) (v3:Int):Option (Int⊕Int):=
 cond (cond (decide (v3<(v.length:Int))) (inB v3 v.length) true) ((some (cond (decide (v3<(v.length:Int))) (leB (v.getD v3.toNat Xk).1 v2.1) false)).bind fun v4=>cond v4 (some (.inl (w64 (v3+1)))) (some (.inr v3))) none
def Xjm (v:List Xg) (v2:Xg):Int→Option Int:=
 Yan fun s=>Xjm.B v v2 s
def Xf0 (v:List Xg) (v2:Xg):Option (List Xg):=
 (Xjm v v2 0).bind fun v5=>cond (decide ((0:Int)≤v5)&&decide (v5≤(v.length:Int))) (cond (decide (([]++((v.take v5.toNat).drop 0)).length≤2147483648)) (cond (decide ((([]++((v.take v5.toNat).drop 0))++([v2])).length≤2147483648)) (cond (decide ((0:Int)≤v5)&&decide (v5≤(v.length:Int))) ((some ((([]++((v.take v5.toNat).drop 0))++([v2]))++((v.take v.length).drop v5.toNat))).bind fun v6=>cond (decide (v6.length≤2147483648)) (some v6) none) none) none) none) none
namespace Xjm
noncomputable def c:=Yar (Yag Proofs.Tryz.f105) [1,1,0,0,0]
def sp:SP:=⟨[(0,.cs (.sl Xi)),(3,.pt Xi),(5,.cs I64)],[]⟩
def fr:=Yja sp (fun x s=>Xjm.B x.1.1 x.1.2.1 s) (fun x=>x.1.2.2.1) fun x (bb0:Int) _ kk0=>kk0 (.ex 0) ⟨[(0,.cs (.sl Xi) x.1.1),(3,.pt Xi x.1.2.1),(5,.cs I64 bb0)],[]⟩
theorem ok:Ya2 PR 34 2 (.loop c) fr:=
 Yw0 Xf Xe ⟨[3],[],[],0⟩ [(0,([0,3,5],[]))] (fun x s=>((x.1.1,x.1.2.1,s,x.1.2.2.2),x.2))
  (fun x s=>by simp only[B,mC,mB,mS,mO,mN];kernel_rfl)
end Xjm
namespace Xf0
def pts:List PT:=[.cs (.sl Xi),.cs Xi]
def FS:FS:=Ycx [.sh,.sh] pts (fun x=>Xf0 x.1 x.2.1) fun t=>⟨[.cd (.sl Xi) t],[]⟩
theorem ok:Ycm PR 105 FS:=
 Yw7 Xf Xe Proofs.Tryz.f105 ⟨[3],[],[],0⟩ (.R (.R (.L (.one (.fr 0))))) (G:=(mkG [])) .nil (L:=mkL [(0,Xjm.fr)]) (l:=[(0,.loop Xjm.c)]) ⟨Lam.cons Xjm.ok,trivial⟩
  (fun x=>by simp only[Xf0,mC,mB,mS,mO,mN];kernel_rfl)
end Xf0
def Xg0 (v:Fs_) (v2:Int) (v3:List UInt8) (v4:Int):Option (Int×Fs_):=
 cond (inB v2 v.1.length) ((Xa8 (v.1.getD v2.toNat Xa).2.2.2.2.1 v3).bind fun v5=>cond (decide (v5≥0)) (some (7,v)) ((Xgz v v4).bind fun v6=>cond (cond (!(!v6)) (inB v4 v.1.length) true) ((some (cond (!v6) true ((v.1.getD v4.toNat Xa).1 == 0))).bind fun v7=>cond v7 (some (4,v)) (cond (inB v4 v.1.length) (cond (inB v2 v.1.length) ((some ((v.1.getD v2.toNat Xa).2.2.2.2.1.length:Int)).bind fun v8=>cond (cond ((!(decide (v8≥6)))&&((v.1.getD v4.toNat Xa).1 == 1)) (inB v4 v.1.length) true) ((some (cond (decide (v8≥6)) true (cond ((v.1.getD v4.toNat Xa).1 == 1) (decide ((v.1.getD v4.toNat Xa).2.1≥60)) false))).bind fun v9=>cond v9 (some (2,v)) (cond (inB v2 v.1.length) ((Xf0 (v.1.getD v2.toNat Xa).2.2.2.2.1 (v3,v4,())).bind fun v10=>cond (inB v2 v.1.length) ((some (v.1.set v2.toNat ((v.1.getD v2.toNat Xa).1,(v.1.getD v2.toNat Xa).2.1,(v.1.getD v2.toNat Xa).2.2.1,(v.1.getD v2.toNat Xa).2.2.2.1,v10,(v.1.getD v2.toNat Xa).2.2.2.2.2))).bind fun v11=>cond ((v.1.getD v4.toNat Xa).1 == 1) (cond (inB v4 v11.length) (cond (inB v4 v11.length) ((some (v11.set v4.toNat ((v11.getD v4.toNat Xa).1,w64 ((v11.getD v4.toNat Xa).2.1+1),(v11.getD v4.toNat Xa).2.2))).bind fun v12=>some (0,(v12,v.2))) none) none) (some (0,(v11,v.2)))) none) none)) none) none) none)) none)) none
namespace Xg0
def G:Gam:=mkG [(93,Xa8.FS),(143,Xgz.FS),(105,Xf0.FS)]
def pts:List PT:=[.op (.cd Xh),.cs I64,.cs .str,.cs I64]
def FS:FS:=Ycx [.mu,.sh,.sh,.sh] pts (fun x=>Xg0 x.1 x.2.1 x.2.2.1 x.2.2.2.1) fun t=>⟨[.cs I64 t.1],[.op (.cd Xh t.2)]⟩
theorem ok:Ycm PR 96 FS:=
 Yw7 Xf Xe Proofs.Tryz.f96 h0 .no (G:=G) (show GOk PR G from .cons Xa8.ok (.cons Xgz.ok (.cons Xf0.ok .nil))) (L:=mkL []) (l:=[]) hT
  (fun x=>by simp only[Xg0,mC,mB,mS,mO,mN];kernel_rfl)
end Xg0
def Xk8 (v:Fs_) (v2:List UInt8) (v3:Int):Option Xo:=
 (Xe1 v v2).bind fun v4=>cond (v4.2.2 != 0) ((X3 v v4.2.2).bind fun v5=>some (v5.1,v5.2.1,v5.2.2.1,v5.2.2.2.1,v5.2.2.2.2.1,(v5.2.2.2.2.2.1.1,v5.2.2.2.2.2.1.2.1,v5.2.2.2.2.2.1.2.2),v5.2.2.2.2.2.2)) (cond (inB v4.1 v.1.length) ((Xa8 (v.1.getD v4.1.toNat Xa).2.2.2.2.1 v4.2.1).bind fun v6=>cond (decide (v6≥0)) ((X3 v 7).bind fun v7=>some (v7.1,v7.2.1,v7.2.2.1,v7.2.2.2.1,v7.2.2.2.2.1,(v7.2.2.2.2.2.1.1,v7.2.2.2.2.2.1.2.1,v7.2.2.2.2.2.1.2.2),v7.2.2.2.2.2.2)) (cond (inB v4.1 v.1.length) ((some ((v.1.getD v4.1.toNat Xa).2.2.2.2.1.length:Int)).bind fun v8=>cond (decide (v8≥6)) ((X3 v 2).bind fun v9=>some (v9.1,v9.2.1,v9.2.2.1,v9.2.2.2.1,v9.2.2.2.2.1,(v9.2.2.2.2.2.1.1,v9.2.2.2.2.2.1.2.1,v9.2.2.2.2.2.1.2.2),v9.2.2.2.2.2.2)) ((Xmk v.1).bind fun v10=>cond (decide (v10<0)) ((X3 v 8).bind fun v11=>some (v11.1,v11.2.1,v11.2.2.1,v11.2.2.2.1,v11.2.2.2.2.1,(v11.2.2.2.2.2.1.1,v11.2.2.2.2.2.1.2.1,v11.2.2.2.2.2.1.2.2),v11.2.2.2.2.2.2)) ((Xar v).bind fun v12=>cond (v10 == (v12.1.length:Int)) (cond (decide ((v12.1++([(0,0,0,[],[],())])).length≤2147483648)) (cond (inB v10 ((v12.1++([(0,0,0,[],[],())])).length)) ((some ((v12.1++([(0,0,0,[],[],())])).set v10.toNat (v3,0,0,[],[],()))).bind fun v13=>(Xg0 (v13,v12.2.1,v12.2.2) v4.1 v4.2.1 v10).bind fun v14=>some (0,0,v10,[],[],(v14.2.1,v14.2.2.1,v14.2.2.2),())) none) none) (cond (inB v10 v12.1.length) ((Xg0 (v12.1.set v10.toNat (v3,0,0,[],[],()),v12.2.1,v12.2.2) v4.1 v4.2.1 v10).bind fun v15=>some (0,0,v10,[],[],(v15.2.1,v15.2.2.1,v15.2.2.2),())) none)))) none)) none)
namespace Xk8
def G:Gam:=mkG [(91,Xe1.FS),(92,X3.FS),(93,Xa8.FS),(94,Xmk.FS),(95,Xar.FS),(96,Xg0.FS)]
def pts:List PT:=[.cs Xh,.cs .str,.cs I64]
def FS:FS:=Ycx [.sh,.sh,.sh] pts (fun x=>Xk8 x.1 x.2.1 x.2.2.1) fun t=>⟨[.cd Xj t],[]⟩
theorem ok:Ycm PR 52 FS:=
 Yw7 Xf Xe Proofs.Tryz.f52 ⟨[3],[],[],0⟩ .no (G:=G) (show GOk PR G from .cons Xe1.ok (.cons X3.ok (.cons Xa8.ok (.cons Xmk.ok (.cons Xar.ok (.cons Xg0.ok .nil)))))) (L:=mkL []) (l:=[]) hT
  (fun x=>by simp only[Xk8,mC,mB,mS,mO,mN];kernel_rfl)
end Xk8
def Xf1 (v:Fs_) (v2:List UInt8):Option (Int×Int):=
 (Xk5 v2).bind fun v3=>cond (v3.2 != 0) (some (0,v3.2)) ((Xgy v v3.1).bind fun v4=>some (v4.1,v4.2))
namespace Xf1
def G:Gam:=mkG [(144,Xk5.FS),(141,Xgy.FS)]
def pts:List PT:=[.pt Xh,.cs .str]
def FS:FS:=Ycx [.sh,.sh] pts (fun x=>Xf1 x.1 x.2.1) fun t=>⟨[.cs I64 t.1,.cs I64 t.2],[]⟩
theorem ok:Ycm PR 97 FS:=
 Yw7 Xf Xe Proofs.Tryz.f97 h0 .no (G:=G) (show GOk PR G from .cons Xk5.ok (.cons Xgy.ok .nil)) (L:=mkL []) (l:=[]) hT
  (fun x=>by simp only[Xf1,mC,mB,mS,mO,mN];kernel_rfl)
end Xf1
def Xjn.B (v:Fs_) (v3:Xb) (v4:Int) (v5:List Int):Option ((Int×List Int)⊕(List Int)):=
 cond (decide (v4<(v3.2.2.2.1.length:Int))) (cond (inB v4 v3.2.2.2.1.length) (cond (inB (v3.2.2.2.1.getD v4.toNat 0) v.2.1.length) ((some (v5++(v.2.1.getD (v3.2.2.2.1.getD v4.toNat 0).toNat []))).bind fun v6=>cond (decide (v6.length≤2147483648)) (some (.inl (w64 (v4+1),v6))) none) none) none) (some (.inr v5))
def Xjn (v:Fs_) (v3:Xb):(Int×List Int)→Option (List Int):=
 Yan fun s=>Xjn.B v v3 s.1 s.2
def Xhh (v:Fs_) (v2:Int):Option (List Int):=
 cond (inB v2 v.1.length) ((Xjn v (v.1.getD v2.toNat Xa) (0,[])).bind fun v7=>some v7) none
namespace Xjn
noncomputable def c:=Yar (Yag Proofs.Tryz.f147) [1,1,1,0,1,0,0]
def sp:SP:=⟨[(0,.pt Xh),(5,.seg 5 []),(6,.pt Xd),(7,.cs I64)],[(5,.reg,.cd SB)]⟩
def fr:=Yja sp (fun x s=>Xjn.B x.1.1 x.1.2.2.1 s.1 s.2) (fun x=>(x.1.2.2.2.1,x.2.1)) fun x (bb0:List Int) _ kk0=>kk0 (.ex 0) ⟨[(5,.seg 5 [])],[sr 5 (.cd SB bb0)]⟩
theorem ok:Ya2 PR 40 2 (.loop c) fr:=
 Yw0 Xf Xe h0 [(0,([5],[5]))] (fun x s=>((x.1.1,x.1.2.1,x.1.2.2.1,s.1,x.1.2.2.2.2),(s.2,x.2.2)))
  (fun x s=>by simp only[B,mC,mB,mS,mO,mN];kernel_rfl)
end Xjn
namespace Xhh
def pts:List PT:=[.pt Xh,.cs I64]
def FS:FS:=Ycx [.sh,.sh] pts (fun x=>Xhh x.1 x.2.1) fun t=>⟨[.cd SB t],[]⟩
theorem ok:Ycm PR 147 FS:=
 Yw7 Xf Xe Proofs.Tryz.f147 h0 (.R (.R (.R (.L (.R (.one (.fr 0))))))) (G:=(mkG [])) .nil (L:=mkL [(0,Xjn.fr)]) (l:=[(0,.loop Xjn.c)]) ⟨Lam.cons Xjn.ok,trivial⟩
  (fun x=>by simp only[Xhh,mC,mB,mS,mO,mN];kernel_rfl)
end Xhh
def Xk9 (v:Fs_) (v2:Int):Option Xb3:=
 (Xhf v).bind fun v3=>cond (v3 != 0) (some (v3,[],())) ((Xgz v v2).bind fun v4=>cond (!v4) (some (3,[],())) (cond (inB v2 v.1.length) (cond ((v.1.getD v2.toNat Xa).1 == 2) (some (9,[],())) (cond ((v.1.getD v2.toNat Xa).1 == 0) (some (4,[],())) ((Xhh v v2).bind fun v5=>some (0,v5,())))) none))
namespace Xk9
def G:Gam:=mkG [(23,Xhf.FS),(143,Xgz.FS),(147,Xhh.FS)]
def pts:List PT:=[.cs Xh,.cs I64]
def FS:FS:=Ycx [.sh,.sh] pts (fun x=>Xk9 x.1 x.2.1) fun t=>⟨[.cd Xa2 t],[]⟩
theorem ok:Ycm PR 145 FS:=
 Yw7 Xf Xe Proofs.Tryz.f145 ⟨[2],[],[],0⟩ .no (G:=G) (show GOk PR G from .cons Xhf.ok (.cons Xgz.ok (.cons Xhh.ok .nil))) (L:=mkL []) (l:=[]) hT
  (fun x=>by simp only[Xk9,mC,mB,mS,mO,mN];kernel_rfl)
end Xk9
def Xml (v:Fs_) (v2:Int) (v3:Int) (v4:Int):Option Xb3:=
 (Xk9 v v2).bind fun v5=>cond (v5.1 != 0) (some (v5.1,v5.2.1,v5.2.2)) ((Xas v3 0 1000).bind fun v6=>cond (!v6) (some (3,[],())) ((Xas v4 0 100).bind fun v7=>cond (!v7) (some (3,[],())) ((Xck v3 (v5.2.1.length:Int)).bind fun v8=>(Xck (v5.2.1.length:Int) (w64 (v8+v4))).bind fun v9=>cond (decide ((0:Int)≤v9)&&decide (v9≤(v5.2.1.length:Int))&&(decide ((0:Int)≤v8)&&decide (v8≤v9))) ((some ([]++((v5.2.1.drop v8.toNat).take (v9.toNat-v8.toNat)))).bind fun v10=>cond (decide (v10.length≤2147483648)) (some (0,v10,())) none) none)))
namespace Xml
def G:Gam:=mkG [(145,Xk9.FS),(50,Xas.FS),(90,Xck.FS)]
def pts:List PT:=[.cs Xh,.cs I64,.cs I64,.cs I64]
def FS:FS:=Ycx [.sh,.sh,.sh,.sh] pts (fun x=>Xml x.1 x.2.1 x.2.2.1 x.2.2.2.1) fun t=>⟨[.cd Xa2 t],[]⟩
theorem ok:Ycm PR 98 FS:=
 Yw7 Xf Xe Proofs.Tryz.f98 ⟨[4],[],[],0⟩ .no (G:=G) (show GOk PR G from .cons Xk9.ok (.cons Xas.ok (.cons Xck.ok .nil))) (L:=mkL []) (l:=[]) hT
  (fun x=>by simp only[Xml,mC,mB,mS,mO,mN];kernel_rfl)
end Xml
def Xjy (v:Fs_) (v2:Int):Option Int:=
 (Xk9 v v2).bind fun v3=>some v3.1
namespace Xjy
def G:Gam:=mkG [(145,Xk9.FS)]
def pts:List PT:=[.pt Xh,.cs I64]
def FS:FS:=Ycx [.sh,.sh] pts (fun x=>Xjy x.1 x.2.1) fun t=>⟨[.cs I64 t],[]⟩
theorem ok:Ycm PR 177 FS:=
 Yw7 Xf Xe Proofs.Tryz.f177 h0 .no (G:=G) (show GOk PR G from .cons Xk9.ok .nil) (L:=mkL []) (l:=[]) hT
  (fun x=>by simp only[Xjy,mC,mB,mS,mO,mN];kernel_rfl)
end Xjy
def Xe7 (v:Fs_) (v2:Int) (v3:List Int):Option Int:=
 (Xjy v v2).bind fun v4=>cond (v4 != 0) (some v4) ((Xe0 v3).bind fun v5=>some v5)
namespace Xe7
def G:Gam:=mkG [(177,Xjy.FS),(25,Xe0.FS)]
def pts:List PT:=[.pt Xh,.cs I64,.cs SI]
def FS:FS:=Ycx [.sh,.sh,.sh] pts (fun x=>Xe7 x.1 x.2.1 x.2.2.1) fun t=>⟨[.cs I64 t],[]⟩
theorem ok:Ycm PR 146 FS:=
 Yw7 Xf Xe Proofs.Tryz.f146 h0 .no (G:=G) (show GOk PR G from .cons Xjy.ok (.cons Xe0.ok .nil)) (L:=mkL []) (l:=[]) hT
  (fun x=>by simp only[Xe7,mC,mB,mS,mO,mN];kernel_rfl)
end Xe7
def Xhn (v:List Xb) (v2:List Int):Option Int:=
 (Xgw v).bind fun v3=>cond (v3 != 0) (some v3) ((Xe0 v2).bind fun v4=>some v4)
namespace Xhn
def G:Gam:=mkG [(85,Xgw.FS),(25,Xe0.FS)]
def pts:List PT:=[.cs (.sl Xd),.cs SI]
def FS:FS:=Ycx [.sh,.sh] pts (fun x=>Xhn x.1 x.2.1) fun t=>⟨[.cs I64 t],[]⟩
theorem ok:Ycm PR 194 FS:=
 Yw7 Xf Xe Proofs.Tryz.f194 h0 .no (G:=G) (show GOk PR G from .cons Xgw.ok (.cons Xe0.ok .nil)) (L:=mkL []) (l:=[]) hT
  (fun x=>by simp only[Xhn,mC,mB,mS,mO,mN];kernel_rfl)
end Xhn
def Xe8.B (v:List Xb) (v2:List Int) (v3:Int) (v4:List Int):Option ((Int×List Int)⊕(List Int)):=
 cond (decide (v3<20)) ((Xkv v v3).bind fun v5=>cond (v5 == 0) ((Xir v2 v3).bind fun v6=>cond (!v6) (cond (decide ((v4++([v3])).length≤2147483648)) (some (.inl (w64 (v3+1),v4++([v3])))) none) (some (.inl (w64 (v3+1),v4)))) (some (.inl (w64 (v3+1),v4)))) (some (.inr v4))
def Xe8 (v:List Xb) (v2:List Int):(Int×List Int)→Option (List Int):=
 Yan fun s=>Xe8.B v v2 s.1 s.2
def Xda (v:List Xb) (v2:List Int):Option (List Int):=
 (Xe8 v v2 (0,[])).bind fun v7=>some v7
namespace Xda
def G:Gam:=mkG [(139,Xkv.FS),(89,Xir.FS)]
theorem Gok:GOk PR G:=.cons Xkv.ok (.cons Xir.ok .nil)
end Xda
namespace Xe8
noncomputable def c:=Yar (Yag Proofs.Tryz.f195) [1,1,0,1,0,0]
def sp:SP:=⟨[(0,.cs (.sl Xd)),(1,.cs SI),(5,.seg 5 []),(6,.cs I64)],[(5,.reg,.cd SI)]⟩
def fr:=Yja sp (fun x s=>Xe8.B x.1.1 x.1.2.1 s.1 s.2) (fun x=>(x.1.2.2.2.1,x.2.1)) fun x (bb0:List Int) _ kk0=>kk0 (.ex 0) ⟨[(5,.seg 5 [])],[sr 5 (.cd SI bb0)]⟩
theorem ok:Ya2 PR 27 2 (.loop c) fr:=
 Yw9 Xf Xe h0 (G:=Xda.G) Xda.Gok [(0,([5],[5]))] (fun x s=>((x.1.1,x.1.2.1,x.1.2.2.1,s.1,x.1.2.2.2.2),(s.2,x.2.2)))
  (fun x s=>by simp only[B,mC,mB,mS,mO,mN];kernel_rfl)
end Xe8
namespace Xda
def pts:List PT:=[.cs (.sl Xd),.cs SI]
def FS:FS:=Ycx [.sh,.sh] pts (fun x=>Xda x.1 x.2.1) fun t=>⟨[.cd SI t],[]⟩
theorem ok:Ycm PR 195 FS:=
 Yw7 Xf Xe Proofs.Tryz.f195 h0 (.R (.R (.L (.R (.one (.fr 0)))))) (G:=G) Gok (L:=mkL [(0,Xe8.fr)]) (l:=[(0,.loop Xe8.c)]) ⟨Lam.cons Xe8.ok,trivial⟩
  (fun x=>by simp only[Xda,mC,mB,mS,mO,mN];kernel_rfl)
end Xda
def Xjz (v:List Xb) (v2:List Int) (v3:Int):Option Xcl:=
 (Xhn v v2).bind fun v4=>cond (v4 != 0) (some (v4,[],())) ((Xas v3 0 4).bind fun v5=>cond (!v5) (some (3,[],())) ((Xda v v2).bind fun v6=>cond (decide ((v6.length:Int)<v3)) (some (8,[],())) (cond (decide ((0:Int)≤v3)&&decide (v3≤(v6.length:Int))) (some (0,(v6.drop 0).take (v3.toNat-0),())) none)))
namespace Xjz
def G:Gam:=mkG [(194,Xhn.FS),(50,Xas.FS),(195,Xda.FS)]
def pts:List PT:=[.cs (.sl Xd),.cs SI,.cs I64]
def FS:FS:=Ycx [.sh,.sh,.sh] pts (fun x=>Xjz x.1 x.2.1 x.2.2.1) fun t=>⟨[.cd Xa9 t],[]⟩
theorem ok:Ycm PR 178 FS:=
 Yw7 Xf Xe Proofs.Tryz.f178 h0 .no (G:=G) (show GOk PR G from .cons Xhn.ok (.cons Xas.ok (.cons Xda.ok .nil))) (L:=mkL []) (l:=[]) hT
  (fun x=>by simp only[Xjz,mC,mB,mS,mO,mN];kernel_rfl)
end Xjz
def Xcm.B (v3:List Int) (v9:Nat) (v11:X7) (v12:Xcl) (v10:Int) (v13:Fs_):Option ((Int×Fs_)⊕Fs_):=
 (some ((v13.1.getD v9 Xa).2.2.2.1.length:Int)).bind fun v14=>cond (decide (v10<v14)) (cond (inB v10 ((v13.1.getD v9 Xa).2.2.2.1.length)) ((some ((v13.1.getD v9 Xa).2.2.2.1.getD v10.toNat 0)).bind fun v15=>cond (inB v15 v13.2.1.length) (some (.inl (w64 (v10+1),(v13.1,v13.2.1.set v15.toNat [],v13.2.2)))) none) none) (some (.inr v13))
def Xcm (v3:List Int) (v9:Nat) (v11:X7) (v12:Xcl):(Int×Fs_)→Option Fs_:=
 Yan fun s=>Xcm.B v3 v9 v11 v12 s.1 s.2
def Xdb.B (v3:List Int) (v19:Nat) (v21:X7) (v20:Int) (v22:Fs_):Option ((Int×Fs_)⊕Fs_):=
 (some ((v22.1.getD v19 Xa).2.2.2.1.length:Int)).bind fun v23=>cond (decide (v20<v23)) ((Xck (v22.1.getD v19 Xa).2.2.1 (w64 ((w64 (v20+1))*8))).bind fun v24=>cond (inB v20 ((v22.1.getD v19 Xa).2.2.2.1.length)) ((some ((v22.1.getD v19 Xa).2.2.2.1.getD v20.toNat 0)).bind fun v25=>cond (decide ((0:Int)≤v24)&&decide (v24≤(v3.length:Int))&&(decide ((0:Int)≤(w64 (v20*8)))&&decide ((w64 (v20*8))≤v24))) ((some ([]++((v3.take v24.toNat).drop ((w64 (v20*8)).toNat)))).bind fun v26=>cond (decide (v26.length≤2147483648)) (cond (inB v25 v22.2.1.length) (some (.inl (w64 (v20+1),(v22.1,v22.2.1.set v25.toNat v26,v22.2.2)))) none) none) none) none) (some (.inr v22))
def Xdb (v3:List Int) (v19:Nat) (v21:X7):(Int×Fs_)→Option Fs_:=
 Yan fun s=>Xdb.B v3 v19 v21 s.1 s.2
def Xbe (v:Fs_) (v2:Int) (v3:List Int) (v4:List Int):Option X7:=
 (Xgv (v3.length:Int)).bind fun v5=>cond (!v5) (some (2,([],[],()),())) ((Xkq (v3.length:Int)).bind fun v6=>(Xjz v.1 v4 v6).bind fun v7=>cond (v7.1 != 0) (some (v7.1,([],[],()),())) ((Xar v).bind fun v8=>cond (inB v2 v8.1.length) ((Xcm v3 v2.toNat (0,([],[],()),()) (v7.1,v7.2.1,v7.2.2) (0,(v8.1,v8.2.1,v8.2.2))).bind fun v16=>(some (v16.1.set v2.toNat ((v16.1.getD v2.toNat Xa).1,(v16.1.getD v2.toNat Xa).2.1,(v16.1.getD v2.toNat Xa).2.2.1,v7.2.1,(v16.1.getD v2.toNat Xa).2.2.2.2))).bind fun v17=>(some (v17.set v2.toNat ((v17.getD v2.toNat Xa).1,(v17.getD v2.toNat Xa).2.1,(v3.length:Int),(v17.getD v2.toNat Xa).2.2.2))).bind fun v18=>(Xdb v3 v2.toNat (0,([],[],()),()) (0,(v18,v16.2))).bind fun v27=>some (0,(v27.1,v27.2.1,v27.2.2),())) none))
namespace Xbe
def G:Gam:=mkG [(149,Xgv.FS),(179,Xkq.FS),(178,Xjz.FS),(95,Xar.FS),(90,Xck.FS)]
theorem Gok:GOk PR G:=.cons Xgv.ok (.cons Xkq.ok (.cons Xjz.ok (.cons Xar.ok (.cons Xck.ok .nil))))
end Xbe
namespace Xcm
noncomputable def c:=Yar (Yag Proofs.Tryz.f148) [1,1,1,1,1,1,0,1,0,0]
def sp:SP:=⟨[(2,.cs SB),(8,.loc 8 []),(9,.loc 9 []),(10,.loc 10 []),(11,.loc 10 [.f1,.el]),(12,.cs I64)],[(8,.mem,.cd Xy),(9,.mem,.cd Xa9),(10,.mem,.cd Xh)]⟩
def fr:=Yja sp (fun x s=>Xcm.B x.1.1 x.1.2.2.2.2.1.1 x.2.1 x.2.2.1 s.1 s.2) (fun x=>(x.1.2.2.2.2.2.1,x.2.2.2.1)) fun x (bb0:Fs_) _ kk0=>kk0 (.ex 0) ⟨[(2,.cs SB x.1.1),(8,.loc 8 []),(9,.loc 9 []),(10,.loc 10 []),(11,.loc 10 [.f1,.el x.1.2.2.2.2.1.1])],[(8,some ⟨.mem,.cd Xy x.2.1⟩),(9,some ⟨.mem,.cd Xa9 x.2.2.1⟩),(10,some ⟨.mem,.cd Xh bb0⟩)]⟩
theorem ok:Ya2 PR 104 4 (.loop c) fr:=
 Yw9 Xf Xe ⟨[4],[],[],0⟩ (G:=Xbe.G) Xbe.Gok [(0,([2,8,9,10,11],[8,9,10]))] (fun x s=>((x.1.1,x.1.2.1,x.1.2.2.1,x.1.2.2.2.1,x.1.2.2.2.2.1,s.1,x.1.2.2.2.2.2.2),(x.2.1,x.2.2.1,s.2,x.2.2.2.2)))
  (fun x s=>by simp only[B,mC,mB,mS,mO,mN];kernel_rfl)
end Xcm
namespace Xdb
noncomputable def c:=Yar (Yag Proofs.Tryz.f148) [1,1,1,1,1,1,1,1,1,0,1,0,0]
def sp:SP:=⟨[(2,.cs SB),(8,.loc 8 []),(10,.loc 10 []),(11,.loc 10 [.f1,.el]),(13,.cs I64)],[(8,.mem,.cd Xy),(10,.mem,.cd Xh)]⟩
def fr:=Yja sp (fun x s=>Xdb.B x.1.1 x.1.2.2.2.1.1 x.2.1 s.1 s.2) (fun x=>(x.1.2.2.2.2.1,x.2.2.1)) fun x (bb0:Fs_) _ kk0=>kk0 (.ex 2) ⟨[(8,.loc 8 []),(10,.loc 10 [])],[(8,some ⟨.mem,.cd Xy x.2.1⟩),(10,some ⟨.mem,.cd Xh bb0⟩)]⟩
theorem ok:Ya2 PR 104 4 (.loop c) fr:=
 Yw9 Xf Xe ⟨[4],[],[],0⟩ (G:=Xbe.G) Xbe.Gok [(2,([8,10],[8,10]))] (fun x s=>((x.1.1,x.1.2.1,x.1.2.2.1,x.1.2.2.2.1,s.1,x.1.2.2.2.2.2),(x.2.1,s.2,x.2.2.2)))
  (fun x s=>by simp only[B,mC,mB,mS,mO,mN];kernel_rfl)
end Xdb
namespace Xbe
def pts:List PT:=[.cs Xh,.cs I64,.cs SB,.cs SI]
def FS:FS:=Ycx [.sh,.sh,.sh,.sh] pts (fun x=>Xbe x.1 x.2.1 x.2.2.1 x.2.2.2.1) fun t=>⟨[.cd Xy t],[]⟩
theorem ok:Ycm PR 148 FS:=
 Yw7 Xf Xe Proofs.Tryz.f148 ⟨[4],[],[],0⟩ (.R (.R (.R (.R (.R (.R (.two (.R (.one (.fr 0))) (.R (.R (.L (.R (.one (.fr 1))))))))))))) (G:=G) Gok (L:=mkL [(0,Xcm.fr),(1,Xdb.fr)]) (l:=[(0,.loop Xcm.c),(1,.loop Xdb.c)]) ⟨Lam.cons Xcm.ok,Lam.skip rfl (Lam.cons Xdb.ok),trivial⟩
  (fun x=>by simp only[Xbe,mC,mB,mS,mO,mN];kernel_rfl)
end Xbe
def Xdc.B (v2:Int) (v3:Int) (v4:List Int) (v5:List Int) (v:Fs_) (v10:X7) (v11:List Int):Option ((List Int)⊕(List Int)):=
 (some (decide ((v11.length:Int)<(w64 (v3+(v4.length:Int)))))).bind fun v12=>cond v12 (cond (decide ((v11++([0])).length≤2147483648)) (some (.inl (v11++([0])))) none) (some (.inr v11))
def Xdc (v2:Int) (v3:Int) (v4:List Int) (v5:List Int) (v:Fs_) (v10:X7):(List Int)→Option (List Int):=
 Yan fun s=>Xdc.B v2 v3 v4 v5 v v10 s
def Xdd.B (v2:Int) (v3:Int) (v4:List Int) (v5:List Int) (v:Fs_) (v15:X7) (v14:Int) (v16:List Int):Option ((Int×List Int)⊕(List Int)):=
 cond (decide (v14<(v4.length:Int))) (cond (inB v14 v4.length) (cond (inB (w64 (v3+v14)) v16.length) ((some (v16.set ((w64 (v3+v14)).toNat) (v4.getD v14.toNat 0))).bind fun v17=>some (.inl (w64 (v14+1),v17))) none) none) (some (.inr v16))
def Xdd (v2:Int) (v3:Int) (v4:List Int) (v5:List Int) (v:Fs_) (v15:X7):(Int×List Int)→Option (List Int):=
 Yan fun s=>Xdd.B v2 v3 v4 v5 v v15 s.1 s.2
def Xb5 (v:Fs_) (v2:Int) (v3:Int) (v4:List Int) (v5:List Int):Option X7:=
 (Xe7 v v2 v5).bind fun v6=>cond (v6 != 0) (some (v6,([],[],()),())) ((Xas v3 0 1000).bind fun v7=>cond (!v7) (some (3,([],[],()),())) (cond (decide ((w64 (v3+(v4.length:Int)))>32)) (some (2,([],[],()),())) (cond ((v4.length:Int) == 0) ((Xar v).bind fun v8=>some (0,(v8.1,v8.2.1,v8.2.2),())) ((Xhh v v2).bind fun v9=>(Xdc v2 v3 v4 v5 v (0,([],[],()),()) v9).bind fun v13=>(Xdd v2 v3 v4 v5 v (0,([],[],()),()) (0,v13)).bind fun v18=>(Xbe v v2 v18 v5).bind fun v19=>some (v19.1,(v19.2.1.1,v19.2.1.2.1,v19.2.1.2.2),v19.2.2)))))
namespace Xb5
def G:Gam:=mkG [(146,Xe7.FS),(50,Xas.FS),(95,Xar.FS),(147,Xhh.FS),(148,Xbe.FS)]
theorem Gok:GOk PR G:=.cons Xe7.ok (.cons Xas.ok (.cons Xar.ok (.cons Xhh.ok (.cons Xbe.ok .nil))))
end Xb5
namespace Xdc
noncomputable def c:=Yar (Yag Proofs.Tryz.f99) [1,1,1,1,1,1,0,0,0]
def sp:SP:=⟨[(1,.cs I64),(2,.cs I64),(3,.cs SB),(4,.cs SI),(5,.pt Xh),(10,.loc 10 []),(12,.seg 12 [])],[(10,.mem,.cd Xy),(12,.reg,.cd SB)]⟩
def fr:=Yja sp (fun x s=>Xdc.B x.1.1 x.1.2.1 x.1.2.2.1 x.1.2.2.2.1 x.1.2.2.2.2.1 x.2.1 s) (fun x=>x.2.2.1) fun x (bb0:List Int) _ kk0=>kk0 (.ex 0) ⟨[(1,.cs I64 x.1.1),(2,.cs I64 x.1.2.1),(3,.cs SB x.1.2.2.1),(4,.cs SI x.1.2.2.2.1),(5,.pt Xh x.1.2.2.2.2.1),(10,.loc 10 []),(12,.seg 12 [])],[(10,some ⟨.mem,.cd Xy x.2.1⟩),sr 12 (.cd SB bb0)]⟩
theorem ok:Ya2 PR 69 5 (.loop c) fr:=
 Yw9 Xf Xe ⟨[5],[],[],0⟩ (G:=Xb5.G) Xb5.Gok [(0,([1,2,3,4,5,10,12],[10,12]))] (fun x s=>(x.1,(x.2.1,s,x.2.2.2)))
  (fun x s=>by simp only[B,mC,mB,mS,mO,mN];kernel_rfl)
end Xdc
namespace Xdd
noncomputable def c:=Yar (Yag Proofs.Tryz.f99) [1,1,1,1,1,1,1,0,1,0,0]
def sp:SP:=⟨[(1,.cs I64),(2,.cs I64),(3,.cs SB),(4,.cs SI),(5,.pt Xh),(10,.loc 10 []),(12,.seg 12 []),(13,.cs I64)],[(10,.mem,.cd Xy),(12,.reg,.cd SB)]⟩
def fr:=Yja sp (fun x s=>Xdd.B x.1.1 x.1.2.1 x.1.2.2.1 x.1.2.2.2.1 x.1.2.2.2.2.1 x.2.1 s.1 s.2) (fun x=>(x.1.2.2.2.2.2.2.2.1,x.2.2.1)) fun x (bb0:List Int) _ kk0=>kk0 (.ex 2) ⟨[(1,.cs I64 x.1.1),(4,.cs SI x.1.2.2.2.1),(5,.pt Xh x.1.2.2.2.2.1),(10,.loc 10 []),(12,.seg 12 [])],[(10,some ⟨.mem,.cd Xy x.2.1⟩),sr 12 (.cd SB bb0)]⟩
theorem ok:Ya2 PR 69 5 (.loop c) fr:=
 Yw9 Xf Xe ⟨[5],[],[],0⟩ (G:=Xb5.G) Xb5.Gok [(2,([1,4,5,10,12],[10,12]))] (fun x s=>((x.1.1,x.1.2.1,x.1.2.2.1,x.1.2.2.2.1,x.1.2.2.2.2.1,x.1.2.2.2.2.2.1,x.1.2.2.2.2.2.2.1,s.1,x.1.2.2.2.2.2.2.2.2),(x.2.1,s.2,x.2.2.2)))
  (fun x s=>by simp only[B,mC,mB,mS,mO,mN];kernel_rfl)
end Xdd
namespace Xb5
def pts:List PT:=[.cs Xh,.cs I64,.cs I64,.cs SB,.cs SI]
def FS:FS:=Ycx [.sh,.sh,.sh,.sh,.sh] pts (fun x=>Xb5 x.1 x.2.1 x.2.2.1 x.2.2.2.1 x.2.2.2.2.1) fun t=>⟨[.cd Xy t],[]⟩
theorem ok:Ycm PR 99 FS:=
 Yw7 Xf Xe Proofs.Tryz.f99 ⟨[5],[],[],0⟩ (.R (.R (.R (.R (.R (.R (.two (.one (.fr 0)) (.L (.R (.one (.fr 1))))))))))) (G:=G) Gok (L:=mkL [(0,Xdc.fr),(1,Xdd.fr)]) (l:=[(0,.loop Xdc.c),(1,.loop Xdd.c)]) ⟨Lam.cons Xdc.ok,Lam.skip rfl (Lam.cons Xdd.ok),trivial⟩
  (fun x=>by simp only[Xb5,mC,mB,mS,mO,mN];kernel_rfl)
end Xb5
def Xde.B (v2:Int) (v3:Int) (v4:List Int) (v:Fs_) (v8:X7) (v9:List Int):Option ((List Int)⊕(List Int)):=
 cond (decide ((v9.length:Int)<v3)) (cond (decide ((v9++([0])).length≤2147483648)) (some (.inl (v9++([0])))) none) (some (.inr v9))
def Xde (v2:Int) (v3:Int) (v4:List Int) (v:Fs_) (v8:X7):(List Int)→Option (List Int):=
 Yan fun s=>Xde.B v2 v3 v4 v v8 s
def Xdf (v:Fs_) (v2:Int) (v3:Int) (v4:List Int):Option X7:=
 (Xe7 v v2 v4).bind fun v5=>cond (v5 != 0) (some (v5,([],[],()),())) ((Xgv v3).bind fun v6=>cond (!v6) (some (3,([],[],()),())) ((Xhh v v2).bind fun v7=>(Xde v2 v3 v4 v (0,([],[],()),()) v7).bind fun v10=>cond (decide ((0:Int)≤v3)&&decide (v3≤(v10.length:Int))) ((Xbe v v2 ((v10.drop 0).take (v3.toNat-0)) v4).bind fun v11=>some (v11.1,(v11.2.1.1,v11.2.1.2.1,v11.2.1.2.2),v11.2.2)) none))
namespace Xdf
def G:Gam:=mkG [(146,Xe7.FS),(149,Xgv.FS),(147,Xhh.FS),(148,Xbe.FS)]
theorem Gok:GOk PR G:=.cons Xe7.ok (.cons Xgv.ok (.cons Xhh.ok (.cons Xbe.ok .nil)))
end Xdf
namespace Xde
noncomputable def c:=Yar (Yag Proofs.Tryz.f100) [1,1,1,1,0,0,0]
def sp:SP:=⟨[(1,.cs I64),(2,.cs I64),(3,.cs SI),(4,.pt Xh),(8,.loc 8 []),(10,.seg 10 [])],[(8,.mem,.cd Xy),(10,.reg,.cd SB)]⟩
def fr:=Yja sp (fun x s=>Xde.B x.1.1 x.1.2.1 x.1.2.2.1 x.1.2.2.2.1 x.2.1 s) (fun x=>x.2.2.1) fun x (bb0:List Int) _ kk0=>kk0 (.ex 0) ⟨[(1,.cs I64 x.1.1),(2,.cs I64 x.1.2.1),(3,.cs SI x.1.2.2.1),(4,.pt Xh x.1.2.2.2.1),(8,.loc 8 []),(10,.seg 10 [])],[(8,some ⟨.mem,.cd Xy x.2.1⟩),sr 10 (.cd SB bb0)]⟩
theorem ok:Ya2 PR 38 4 (.loop c) fr:=
 Yw9 Xf Xe ⟨[4],[],[],0⟩ (G:=Xdf.G) Xdf.Gok [(0,([1,2,3,4,8,10],[8,10]))] (fun x s=>(x.1,(x.2.1,s,x.2.2.2)))
  (fun x s=>by simp only[B,mC,mB,mS,mO,mN];kernel_rfl)
end Xde
namespace Xdf
def pts:List PT:=[.cs Xh,.cs I64,.cs I64,.cs SI]
def FS:FS:=Ycx [.sh,.sh,.sh,.sh] pts (fun x=>Xdf x.1 x.2.1 x.2.2.1 x.2.2.2.1) fun t=>⟨[.cd Xy t],[]⟩
theorem ok:Ycm PR 100 FS:=
 Yw7 Xf Xe Proofs.Tryz.f100 ⟨[4],[],[],0⟩ (.R (.R (.R (.R (.L (.one (.fr 0))))))) (G:=G) Gok (L:=mkL [(0,Xde.fr)]) (l:=[(0,.loop Xde.c)]) ⟨Lam.cons Xde.ok,trivial⟩
  (fun x=>by simp only[Xdf,mC,mB,mS,mO,mN];kernel_rfl)
end Xdf
def Xf4 (v:Fs_) (v2:Xap) (v3:List Int):Option Xo:=
 (Xf1 v v2.2.1).bind fun v4=>cond (v4.2 != 0) ((X3 v v4.2).bind fun v5=>some (v5.1,v5.2.1,v5.2.2.1,v5.2.2.2.1,v5.2.2.2.2.1,(v5.2.2.2.2.2.1.1,v5.2.2.2.2.2.1.2.1,v5.2.2.2.2.2.1.2.2),v5.2.2.2.2.2.2)) (cond (inB v4.1 v.1.length) (cond ((v.1.getD v4.1.toNat Xa).1 == 2) ((X3 v 9).bind fun v6=>some (v6.1,v6.2.1,v6.2.2.1,v6.2.2.2.1,v6.2.2.2.2.1,(v6.2.2.2.2.2.1.1,v6.2.2.2.2.2.1.2.1,v6.2.2.2.2.2.1.2.2),v6.2.2.2.2.2.2)) (cond (v2.1 == 4) ((Xml v v4.1 v2.2.2.2.1 v2.2.2.2.2.1).bind fun v7=>cond (v7.1 != 0) ((X3 v v7.1).bind fun v8=>some (v8.1,v8.2.1,v8.2.2.1,v8.2.2.2.1,v8.2.2.2.2.1,(v8.2.2.2.2.2.1.1,v8.2.2.2.2.2.1.2.1,v8.2.2.2.2.2.1.2.2),v8.2.2.2.2.2.2)) ((Xar v).bind fun v9=>some (0,0,(v7.2.1.length:Int),v7.2.1,[],(v9.1,v9.2.1,v9.2.2),()))) (cond (v2.1 == 3) ((Xb5 v v4.1 v2.2.2.2.1 v2.2.2.2.2.2.1 v3).bind fun v10=>cond (v10.1 != 0) ((X3 v v10.1).bind fun v11=>some (v11.1,v11.2.1,v11.2.2.1,v11.2.2.2.1,v11.2.2.2.2.1,(v11.2.2.2.2.2.1.1,v11.2.2.2.2.2.1.2.1,v11.2.2.2.2.2.1.2.2),v11.2.2.2.2.2.2)) (cond (inB v4.1 v10.2.1.1.length) (some (0,0,(v10.2.1.1.getD v4.1.toNat Xa).2.2.1,[],[],(v10.2.1.1,v10.2.1.2.1,v10.2.1.2.2),())) none)) ((Xdf v v4.1 v2.2.2.2.2.1 v3).bind fun v12=>cond (v12.1 != 0) ((X3 v v12.1).bind fun v13=>some (v13.1,v13.2.1,v13.2.2.1,v13.2.2.2.1,v13.2.2.2.2.1,(v13.2.2.2.2.2.1.1,v13.2.2.2.2.2.1.2.1,v13.2.2.2.2.2.1.2.2),v13.2.2.2.2.2.2)) (cond (inB v4.1 v12.2.1.1.length) (some (0,0,(v12.2.1.1.getD v4.1.toNat Xa).2.2.1,[],[],(v12.2.1.1,v12.2.1.2.1,v12.2.1.2.2),())) none))))) none)
namespace Xf4
def G:Gam:=mkG [(97,Xf1.FS),(92,X3.FS),(98,Xml.FS),(95,Xar.FS),(99,Xb5.FS),(100,Xdf.FS)]
def pts:List PT:=[.cs Xh,.cs Xv,.cs SI]
def FS:FS:=Ycx [.sh,.sh,.sh] pts (fun x=>Xf4 x.1 x.2.1 x.2.2.1) fun t=>⟨[.cd Xj t],[]⟩
theorem ok:Ycm PR 53 FS:=
 Yw7 Xf Xe Proofs.Tryz.f53 ⟨[3,4],[],[],0⟩ .no (G:=G) (show GOk PR G from .cons Xf1.ok (.cons X3.ok (.cons Xml.ok (.cons Xar.ok (.cons Xb5.ok (.cons Xdf.ok .nil)))))) (L:=mkL []) (l:=[]) hT
  (fun x=>by simp only[Xf4,mC,mB,mS,mO,mN];kernel_rfl)
end Xf4
def Xa6 (v:Fs_) (v2:Int) (v3:Int):Option (Int×Fs_):=
 cond (inB v2 v.1.length) (cond (inB v3 ((v.1.getD v2.toNat Xa).2.2.2.2.1.length)) ((some ((v.1.getD v2.toNat Xa).2.2.2.2.1.getD v3.toNat Xk).2.1).bind fun v4=>cond (decide ((0:Int)≤v3)&&decide (v3≤((v.1.getD v2.toNat Xa).2.2.2.2.1.length:Int))) ((some ([]++(((v.1.getD v2.toNat Xa).2.2.2.2.1.drop 0).take (v3.toNat-0)))).bind fun v5=>cond (decide (v5.length≤2147483648)) (cond (decide ((0:Int)≤(w64 (v3+1)))&&decide ((w64 (v3+1))≤((v.1.getD v2.toNat Xa).2.2.2.2.1.length:Int))) ((some (v5++(((v.1.getD v2.toNat Xa).2.2.2.2.1.drop ((w64 (v3+1)).toNat)).take (((v.1.getD v2.toNat Xa).2.2.2.2.1.length)-((w64 (v3+1)).toNat))))).bind fun v6=>cond (decide (v6.length≤2147483648)) (cond (inB v2 v.1.length) ((some (v.1.set v2.toNat ((v.1.getD v2.toNat Xa).1,(v.1.getD v2.toNat Xa).2.1,(v.1.getD v2.toNat Xa).2.2.1,(v.1.getD v2.toNat Xa).2.2.2.1,v6,(v.1.getD v2.toNat Xa).2.2.2.2.2))).bind fun v7=>some (v4,(v7,v.2))) none) none) none) none) none) none) none
namespace Xa6
def pts:List PT:=[.op (.cd Xh),.cs I64,.cs I64]
def FS:FS:=Ycx [.mu,.sh,.sh] pts (fun x=>Xa6 x.1 x.2.1 x.2.2.1) fun t=>⟨[.cs I64 t.1],[.op (.cd Xh t.2)]⟩
theorem ok:Ycm PR 104 FS:=
 Yw7 Xf Xe Proofs.Tryz.f104 h0 .no (G:=(mkG [])) .nil (L:=mkL []) (l:=[]) hT
  (fun x=>by simp only[Xa6,mC,mB,mS,mO,mN];kernel_rfl)
end Xa6
def Xdg.B (v2:Int) (v3:Int) (v4:Fs_):Option ((Int×Fs_)⊕Fs_):=
 cond (inB v2 v4.1.length) ((some ((v4.1.getD v2.toNat Xa).2.2.2.1.length:Int)).bind fun v5=>cond (decide (v3<v5)) (cond (inB v2 v4.1.length) (cond (inB v3 ((v4.1.getD v2.toNat Xa).2.2.2.1.length)) ((some ((v4.1.getD v2.toNat Xa).2.2.2.1.getD v3.toNat 0)).bind fun v6=>cond (inB v6 v4.2.1.length) (some (.inl (w64 (v3+1),(v4.1,v4.2.1.set v6.toNat [],v4.2.2)))) none) none) none) (some (.inr v4))) none
def Xdg (v2:Int):(Int×Fs_)→Option Fs_:=
 Yan fun s=>Xdg.B v2 s.1 s.2
def Xg2 (v:Fs_) (v2:Int):Option Fs_:=
 (Xdg v2 (0,v)).bind fun v7=>cond (inB v2 v7.1.length) (some (v7.1.set v2.toNat (0,0,0,[],[],()),v7.2)) none
namespace Xdg
noncomputable def c:=Yar (Yag Proofs.Tryz.f180) [0,1,0,0]
def sp:SP:=⟨[(0,.loc 0 []),(1,.cs I64),(4,.cs I64)],[(0,.mem,.cd Xh)]⟩
def fr:=Yja sp (fun x s=>Xdg.B x.1.2.1 s.1 s.2) (fun x=>(x.1.2.2.1,x.2.1)) fun x (bb0:Fs_) _ kk0=>kk0 (.ex 0) ⟨[(0,.loc 0 []),(1,.cs I64 x.1.2.1)],[(0,some ⟨.mem,.cd Xh bb0⟩)]⟩
theorem ok:Ya2 PR 41 2 (.loop c) fr:=
 Yw0 Xf Xe h0 [(0,([0,1],[0]))] (fun x s=>((x.1.1,x.1.2.1,s.1,x.1.2.2.2),(s.2,x.2.2)))
  (fun x s=>by simp only[B,mC,mB,mS,mO,mN];kernel_rfl)
end Xdg
namespace Xg2
def pts:List PT:=[.op (.cd Xh),.cs I64]
def FS:FS:=Ycx [.mu,.sh] pts (fun x=>Xg2 x.1 x.2.1) fun t=>⟨[],[.op (.cd Xh t)]⟩
theorem ok:Ycm PR 180 FS:=
 Yw7 Xf Xe Proofs.Tryz.f180 h0 (.L (.R (.one (.fr 0)))) (G:=(mkG [])) .nil (L:=mkL [(0,Xdg.fr)]) (l:=[(0,.loop Xdg.c)]) ⟨Lam.cons Xdg.ok,trivial⟩
  (fun x=>by simp only[Xg2,mC,mB,mS,mO,mN];kernel_rfl)
end Xg2
def Xho (v:Fs_) (v2:Int):Option Fs_:=
 cond (inB v2 v.1.length) (cond ((v.1.getD v2.toNat Xa).1 != 1) (some v) (cond (inB v2 v.1.length) (cond (inB v2 v.1.length) ((some (v.1.set v2.toNat ((v.1.getD v2.toNat Xa).1,w64 ((v.1.getD v2.toNat Xa).2.1-1),(v.1.getD v2.toNat Xa).2.2))).bind fun v3=>cond (inB v2 v3.length) (cond (decide ((v3.getD v2.toNat Xa).2.1>0)) (some (v3,v.2)) ((Xkz v3 v2).bind fun v4=>cond (decide (v4>0)) (cond (inB v2 v3.length) ((some (v3.set v2.toNat ((v3.getD v2.toNat Xa).1,1,(v3.getD v2.toNat Xa).2.2))).bind fun v5=>some (v5,v.2)) none) ((Xg2 (v3,v.2) v2).bind fun v6=>some v6))) none) none) none)) none
namespace Xho
def G:Gam:=mkG [(88,Xkz.FS),(180,Xg2.FS)]
def pts:List PT:=[.op (.cd Xh),.cs I64]
def FS:FS:=Ycx [.mu,.sh] pts (fun x=>Xho x.1 x.2.1) fun t=>⟨[],[.op (.cd Xh t)]⟩
theorem ok:Ycm PR 150 FS:=
 Yw7 Xf Xe Proofs.Tryz.f150 h0 .no (G:=G) (show GOk PR G from .cons Xkz.ok (.cons Xg2.ok .nil)) (L:=mkL []) (l:=[]) hT
  (fun x=>by simp only[Xho,mC,mB,mS,mO,mN];kernel_rfl)
end Xho
def Xbv (v:Fs_) (v2:Int) (v3:Int):Option Fs_:=
 (Xa6 v v2 v3).bind fun v4=>(Xho v4.2 v4.1).bind fun v5=>cond (inB v4.1 v5.1.length) (cond ((v5.1.getD v4.1.toNat Xa).1 == 2) (cond (inB v4.1 v5.1.length) (some (v5.1.set v4.1.toNat (0,0,0,[],[],()),v5.2)) none) (some v5)) none
namespace Xbv
def G:Gam:=mkG [(104,Xa6.FS),(150,Xho.FS)]
def pts:List PT:=[.op (.cd Xh),.cs I64,.cs I64]
def FS:FS:=Ycx [.mu,.sh,.sh] pts (fun x=>Xbv x.1 x.2.1 x.2.2.1) fun t=>⟨[],[.op (.cd Xh t)]⟩
theorem ok:Ycm PR 101 FS:=
 Yw7 Xf Xe Proofs.Tryz.f101 h0 .no (G:=G) (show GOk PR G from .cons Xa6.ok (.cons Xho.ok .nil)) (L:=mkL []) (l:=[]) hT
  (fun x=>by simp only[Xbv,mC,mB,mS,mO,mN];kernel_rfl)
end Xbv
def Xg3 (v:Fs_) (v2:Xap):Option Xo:=
 (Xe1 v v2.2.1).bind fun v3=>cond (v3.2.2 != 0) ((X3 v v3.2.2).bind fun v4=>some (v4.1,v4.2.1,v4.2.2.1,v4.2.2.2.1,v4.2.2.2.2.1,(v4.2.2.2.2.2.1.1,v4.2.2.2.2.2.1.2.1,v4.2.2.2.2.2.1.2.2),v4.2.2.2.2.2.2)) (cond (inB v3.1 v.1.length) ((Xa8 (v.1.getD v3.1.toNat Xa).2.2.2.2.1 v3.2.1).bind fun v5=>cond (decide (v5<0)) ((X3 v 4).bind fun v6=>some (v6.1,v6.2.1,v6.2.2.1,v6.2.2.2.1,v6.2.2.2.2.1,(v6.2.2.2.2.2.1.1,v6.2.2.2.2.2.1.2.1,v6.2.2.2.2.2.1.2.2),v6.2.2.2.2.2.2)) (cond (inB v3.1 v.1.length) (cond (inB v5 ((v.1.getD v3.1.toNat Xa).2.2.2.2.1.length)) ((some ((v.1.getD v3.1.toNat Xa).2.2.2.2.1.getD v5.toNat Xk).2.1).bind fun v7=>cond (inB v7 v.1.length) ((some (cond (v2.1 == 6) ((v.1.getD v7.toNat Xa).1 == 2) false)).bind fun v8=>cond v8 ((X3 v 9).bind fun v9=>some (v9.1,v9.2.1,v9.2.2.1,v9.2.2.2.1,v9.2.2.2.2.1,(v9.2.2.2.2.2.1.1,v9.2.2.2.2.2.1.2.1,v9.2.2.2.2.2.1.2.2),v9.2.2.2.2.2.2)) ((some (cond (v2.1 == 7) ((v.1.getD v7.toNat Xa).1 != 2) false)).bind fun v10=>cond v10 ((X3 v 1).bind fun v11=>some (v11.1,v11.2.1,v11.2.2.1,v11.2.2.2.1,v11.2.2.2.2.1,(v11.2.2.2.2.2.1.1,v11.2.2.2.2.2.1.2.1,v11.2.2.2.2.2.1.2.2),v11.2.2.2.2.2.2)) ((some ((v.1.getD v7.toNat Xa).2.2.2.2.1.length:Int)).bind fun v12=>cond (decide (v12>0)) ((X3 v 8).bind fun v13=>some (v13.1,v13.2.1,v13.2.2.1,v13.2.2.2.1,v13.2.2.2.2.1,(v13.2.2.2.2.2.1.1,v13.2.2.2.2.2.1.2.1,v13.2.2.2.2.2.1.2.2),v13.2.2.2.2.2.2)) ((Xar v).bind fun v14=>(Xbv (v14.1,v14.2.1,v14.2.2) v3.1 v5).bind fun v15=>some (0,0,0,[],[],(v15.1,v15.2.1,v15.2.2),()))))) none) none) none)) none)
namespace Xg3
def G:Gam:=mkG [(91,Xe1.FS),(92,X3.FS),(93,Xa8.FS),(95,Xar.FS),(101,Xbv.FS)]
def pts:List PT:=[.cs Xh,.cs Xv]
def FS:FS:=Ycx [.sh,.sh] pts (fun x=>Xg3 x.1 x.2.1) fun t=>⟨[.cd Xj t],[]⟩
theorem ok:Ycm PR 54 FS:=
 Yw7 Xf Xe Proofs.Tryz.f54 ⟨[2,3],[],[],0⟩ .no (G:=G) (show GOk PR G from .cons Xe1.ok (.cons X3.ok (.cons Xa8.ok (.cons Xar.ok (.cons Xbv.ok .nil))))) (L:=mkL []) (l:=[]) hT
  (fun x=>by simp only[Xg3,mC,mB,mS,mO,mN];kernel_rfl)
end Xg3
def Xhp (v:Fs_) (v2:List UInt8) (v3:List UInt8):Option Xo:=
 (Xf1 v v2).bind fun v4=>cond (v4.2 != 0) ((X3 v v4.2).bind fun v5=>some (v5.1,v5.2.1,v5.2.2.1,v5.2.2.2.1,v5.2.2.2.2.1,(v5.2.2.2.2.2.1.1,v5.2.2.2.2.2.1.2.1,v5.2.2.2.2.2.1.2.2),v5.2.2.2.2.2.2)) (cond (inB v4.1 v.1.length) (cond ((v.1.getD v4.1.toNat Xa).1 == 2) ((X3 v 9).bind fun v6=>some (v6.1,v6.2.1,v6.2.2.1,v6.2.2.2.1,v6.2.2.2.2.1,(v6.2.2.2.2.2.1.1,v6.2.2.2.2.2.1.2.1,v6.2.2.2.2.2.1.2.2),v6.2.2.2.2.2.2)) ((Xe1 v v3).bind fun v7=>cond (v7.2.2 != 0) ((X3 v v7.2.2).bind fun v8=>some (v8.1,v8.2.1,v8.2.2.1,v8.2.2.2.1,v8.2.2.2.2.1,(v8.2.2.2.2.2.1.1,v8.2.2.2.2.2.1.2.1,v8.2.2.2.2.2.1.2.2),v8.2.2.2.2.2.2)) ((Xar v).bind fun v9=>(Xg0 (v9.1,v9.2.1,v9.2.2) v7.1 v7.2.1 v4.1).bind fun v10=>cond (v10.1 != 0) ((X3 v v10.1).bind fun v11=>some (v11.1,v11.2.1,v11.2.2.1,v11.2.2.2.1,v11.2.2.2.2.1,(v11.2.2.2.2.2.1.1,v11.2.2.2.2.2.1.2.1,v11.2.2.2.2.2.1.2.2),v11.2.2.2.2.2.2)) (some (0,0,0,[],[],(v10.2.1,v10.2.2.1,v10.2.2.2),()))))) none)
namespace Xhp
def G:Gam:=mkG [(97,Xf1.FS),(92,X3.FS),(91,Xe1.FS),(95,Xar.FS),(96,Xg0.FS)]
def pts:List PT:=[.cs Xh,.cs .str,.cs .str]
def FS:FS:=Ycx [.sh,.sh,.sh] pts (fun x=>Xhp x.1 x.2.1 x.2.2.1) fun t=>⟨[.cd Xj t],[]⟩
theorem ok:Ycm PR 55 FS:=
 Yw7 Xf Xe Proofs.Tryz.f55 ⟨[3],[],[],0⟩ .no (G:=G) (show GOk PR G from .cons Xf1.ok (.cons X3.ok (.cons Xe1.ok (.cons Xar.ok (.cons Xg0.ok .nil))))) (L:=mkL []) (l:=[]) hT
  (fun x=>by simp only[Xhp,mC,mB,mS,mO,mN];kernel_rfl)
end Xhp
abbrev Xab.Ty:Type:=Fs_→Int→Int→Int→Option Bool
def Xcn.B (self:Xab.Ty) (v:Fs_) (v2:Int) (v3:Int) (v4:Int) (v5:Int):Option (Int⊕((Bool⊕Unit))):=
 cond (cond (decide (v4>0)) (inB v3 v.1.length) true) ((some (cond (decide (v4>0)) (decide (v5<((v.1.getD v3.toNat Xa).2.2.2.2.1.length:Int))) false)).bind fun v6=>cond v6 (cond (inB v3 v.1.length) (cond (inB v5 ((v.1.getD v3.toNat Xa).2.2.2.2.1.length)) ((some ((v.1.getD v3.toNat Xa).2.2.2.2.1.getD v5.toNat Xk).2.1).bind fun v7=>(self v v2 v7 (w64 (v4-1))).bind fun v8=>cond v8 (some (.inr (.inl true))) (some (.inl (w64 (v5+1))))) none) none) (some (.inr (.inr ())))) none
def Xcn (self:Xab.Ty) (v:Fs_) (v2:Int) (v3:Int) (v4:Int):Int→Option ((Bool⊕Unit)):=
 Yan fun s=>Xcn.B self v v2 v3 v4 s
def Xab.step (self:Xab.Ty) (v:Fs_) (v2:Int) (v3:Int) (v4:Int):Option Bool:=
 cond (v2 == v3) (some true) ((Xcn self v v2 v3 v4 0).bind fun v9=>sel v9 (fun v10=>some v10) (fun v11=>some false))
def Xab.R:Nat→Xab.Ty
 |0=>fun _ _ _ _=>none
 |k+1=>fun v v2 v3 v4=>Xab.step (Xab.R k) v v2 v3 v4
def Xab (v:Fs_) (v2:Int) (v3:Int) (v4:Int):Option Bool:=
 Xab.R 40 v v2 v3 v4
namespace Xab
def pts:List PT:=[.pt Xh,.cs I64,.cs I64,.cs I64]
noncomputable def FSr (self:Ty):FS:=Ycx [.sh,.sh,.sh,.sh] pts (fun x=>self x.1 x.2.1 x.2.2.1 x.2.2.2.1) fun t=>⟨[.cs .bool t],[]⟩
noncomputable def G (self:Ty):Gam:=mkG [(102,FSr self)]
theorem Gok (self:Ty) (hs:Ycm PR 102 (FSr self)):GOk PR (G self):=.cons hs .nil
end Xab
namespace Xcn
noncomputable def c:=Yar (Yag Proofs.Tryz.f102) [1,1,0,1,0,0]
def sp:SP:=⟨[(0,.pt Xh),(1,.cs I64),(2,.cs I64),(3,.cs I64),(9,.cs I64)],[]⟩
noncomputable def fr (self:Xab.Ty):=Yja sp (fun x s=>Xcn.B self x.1.1 x.1.2.1 x.1.2.2.1 x.1.2.2.2.1 s) (fun x=>x.1.2.2.2.2.1) fun x (oo0:(Bool⊕Unit)) _ kk0=>sel oo0 (fun bb0=>kk0 (.rt) ⟨[(8,.cs .bool bb0)],[]⟩) (fun cc0=>kk0 (.ex 0) ⟨[],[]⟩)
theorem ok (self:Xab.Ty) (hs:Ycm PR 102 (Xab.FSr self)):Ya2 PR 47 4 (.loop c) (fr self):=
 Yth Xf Xe h0 .no (G:=Xab.G self) (Xab.Gok self hs) (L:=mkL []) (l:=[]) hT [(0,([],[]))] ([8],[]) (fun x s=>((x.1.1,x.1.2.1,x.1.2.2.1,x.1.2.2.2.1,s,x.1.2.2.2.2.2),x.2))
  (fun x s=>by simp only[B,mC,mB,mS,mO,mN];kernel_rfl)
end Xcn
namespace Xab
def FS:FS:=Ycx [.sh,.sh,.sh,.sh] pts (fun x=>Xab x.1 x.2.1 x.2.2.1 x.2.2.2.1) fun t=>⟨[.cs .bool t],[]⟩
theorem okS (self:Ty) (hs:Ycm PR 102 (FSr self)):Ycm PR 102 (FSr (step self)):=
 Yw7 Xf Xe Proofs.Tryz.f102 h0 (.R (.R (.L (.R (.one (.fr 0)))))) (G:=(G self)) (Gok self hs) (L:=mkL [(0,Xcn.fr self)]) (l:=[(0,.loop Xcn.c)]) ⟨Lam.cons (Xcn.ok self hs),trivial⟩
  (fun x=>by simp only[step,mC,mB,mS,mO,mN];kernel_rfl)
theorem okR:∀ k,Ycm PR 102 (FSr (R k))
 |0=>Ycm.bot
 |k+1=>okS _ (okR k)
theorem ok:Ycm PR 102 FS:=okR 40
end Xab
def Xhq (v:Fs_) (v2:Int) (v3:Int):Option Int:=
 cond (inB v2 v.1.length) (cond (inB v3 v.1.length) ((some (!(((v.1.getD v2.toNat Xa).1 == 2) == ((v.1.getD v3.toNat Xa).1 == 2)))).bind fun v4=>cond v4 (some 9) (cond (inB v3 v.1.length) ((some ((v.1.getD v3.toNat Xa).2.2.2.2.1.length:Int)).bind fun v5=>cond (decide (v5>0)) (some 8) (some 0)) none)) none) none
namespace Xhq
def pts:List PT:=[.pt Xh,.cs I64,.cs I64]
def FS:FS:=Ycx [.sh,.sh,.sh] pts (fun x=>Xhq x.1 x.2.1 x.2.2.1) fun t=>⟨[.cs I64 t],[]⟩
theorem ok:Ycm PR 103 FS:=
 Yw7 Xf Xe Proofs.Tryz.f103 h0 .no (G:=(mkG [])) .nil (L:=mkL []) (l:=[]) hT
  (fun x=>by simp only[Xhq,mC,mB,mS,mO,mN];kernel_rfl)
end Xhq
def Xhr (v:Fs_) (v2:List UInt8) (v3:List UInt8):Option Xo:=
 (Xe1 v v2).bind fun v4=>cond (v4.2.2 != 0) ((X3 v v4.2.2).bind fun v5=>some (v5.1,v5.2.1,v5.2.2.1,v5.2.2.2.1,v5.2.2.2.2.1,(v5.2.2.2.2.2.1.1,v5.2.2.2.2.2.1.2.1,v5.2.2.2.2.2.1.2.2),v5.2.2.2.2.2.2)) (cond (inB v4.1 v.1.length) ((Xa8 (v.1.getD v4.1.toNat Xa).2.2.2.2.1 v4.2.1).bind fun v6=>cond (decide (v6<0)) ((X3 v 4).bind fun v7=>some (v7.1,v7.2.1,v7.2.2.1,v7.2.2.2.1,v7.2.2.2.2.1,(v7.2.2.2.2.2.1.1,v7.2.2.2.2.2.1.2.1,v7.2.2.2.2.2.1.2.2),v7.2.2.2.2.2.2)) (cond (inB v4.1 v.1.length) (cond (inB v6 ((v.1.getD v4.1.toNat Xa).2.2.2.2.1.length)) ((some ((v.1.getD v4.1.toNat Xa).2.2.2.2.1.getD v6.toNat Xk).2.1).bind fun v8=>(Xe1 v v3).bind fun v9=>cond (v9.2.2 != 0) ((X3 v v9.2.2).bind fun v10=>some (v10.1,v10.2.1,v10.2.2.1,v10.2.2.2.1,v10.2.2.2.2.1,(v10.2.2.2.2.2.1.1,v10.2.2.2.2.2.1.2.1,v10.2.2.2.2.2.1.2.2),v10.2.2.2.2.2.2)) (cond (inB v8 v.1.length) (cond ((v.1.getD v8.toNat Xa).1 == 2) ((Xab v v9.1 v8 10).bind fun v11=>cond v11 ((X3 v 1).bind fun v12=>some (v12.1,v12.2.1,v12.2.2.1,v12.2.2.2.1,v12.2.2.2.2.1,(v12.2.2.2.2.2.1.1,v12.2.2.2.2.2.1.2.1,v12.2.2.2.2.2.1.2.2),v12.2.2.2.2.2.2)) ((Xar v).bind fun v13=>cond (inB v9.1 v.1.length) ((Xa8 (v.1.getD v9.1.toNat Xa).2.2.2.2.1 v9.2.1).bind fun v14=>cond (decide (v14≥0)) (cond (inB v9.1 v.1.length) (cond (inB v14 ((v.1.getD v9.1.toNat Xa).2.2.2.2.1.length)) ((some ((v.1.getD v9.1.toNat Xa).2.2.2.2.1.getD v14.toNat Xk).2.1).bind fun v15=>cond (v15 == v8) ((X3 v 0).bind fun v16=>some (v16.1,v16.2.1,v16.2.2.1,v16.2.2.2.1,v16.2.2.2.2.1,(v16.2.2.2.2.2.1.1,v16.2.2.2.2.2.1.2.1,v16.2.2.2.2.2.1.2.2),v16.2.2.2.2.2.2)) ((Xhq v v8 v15).bind fun v17=>cond (v17 != 0) ((X3 v v17).bind fun v18=>some (v18.1,v18.2.1,v18.2.2.1,v18.2.2.2.1,v18.2.2.2.2.1,(v18.2.2.2.2.2.1.1,v18.2.2.2.2.2.1.2.1,v18.2.2.2.2.2.1.2.2),v18.2.2.2.2.2.2)) ((Xbv (v13.1,v13.2.1,v13.2.2) v9.1 v14).bind fun v19=>cond (inB v4.1 v19.1.length) ((Xa8 (v19.1.getD v4.1.toNat Xa).2.2.2.2.1 v4.2.1).bind fun v20=>(Xa6 v19 v4.1 v20).bind fun v21=>cond (inB v9.1 v21.2.1.length) ((Xf0 (v21.2.1.getD v9.1.toNat Xa).2.2.2.2.1 (v9.2.1,v8,())).bind fun v22=>cond (inB v9.1 v21.2.1.length) ((some (v21.2.1.set v9.1.toNat ((v21.2.1.getD v9.1.toNat Xa).1,(v21.2.1.getD v9.1.toNat Xa).2.1,(v21.2.1.getD v9.1.toNat Xa).2.2.1,(v21.2.1.getD v9.1.toNat Xa).2.2.2.1,v22,(v21.2.1.getD v9.1.toNat Xa).2.2.2.2.2))).bind fun v23=>some (0,0,0,[],[],(v23,v21.2.2.1,v21.2.2.2),())) none) none) none))) none) none) (cond (cond (v9.1 != v4.1) (inB v9.1 v.1.length) true) ((some (cond (v9.1 != v4.1) (decide (((v.1.getD v9.1.toNat Xa).2.2.2.2.1.length:Int)≥6)) false)).bind fun v24=>cond v24 ((X3 v 2).bind fun v25=>some (v25.1,v25.2.1,v25.2.2.1,v25.2.2.2.1,v25.2.2.2.2.1,(v25.2.2.2.2.2.1.1,v25.2.2.2.2.2.1.2.1,v25.2.2.2.2.2.1.2.2),v25.2.2.2.2.2.2)) (cond (inB v4.1 v13.1.length) ((Xa8 (v13.1.getD v4.1.toNat Xa).2.2.2.2.1 v4.2.1).bind fun v26=>(Xa6 (v13.1,v13.2.1,v13.2.2) v4.1 v26).bind fun v27=>cond (inB v9.1 v27.2.1.length) ((Xf0 (v27.2.1.getD v9.1.toNat Xa).2.2.2.2.1 (v9.2.1,v8,())).bind fun v28=>cond (inB v9.1 v27.2.1.length) ((some (v27.2.1.set v9.1.toNat ((v27.2.1.getD v9.1.toNat Xa).1,(v27.2.1.getD v9.1.toNat Xa).2.1,(v27.2.1.getD v9.1.toNat Xa).2.2.1,(v27.2.1.getD v9.1.toNat Xa).2.2.2.1,v28,(v27.2.1.getD v9.1.toNat Xa).2.2.2.2.2))).bind fun v29=>some (0,0,0,[],[],(v29,v27.2.2.1,v27.2.2.2),())) none) none) none)) none)) none)) ((Xar v).bind fun v30=>cond (inB v9.1 v.1.length) ((Xa8 (v.1.getD v9.1.toNat Xa).2.2.2.2.1 v9.2.1).bind fun v31=>cond (decide (v31≥0)) (cond (inB v9.1 v.1.length) (cond (inB v31 ((v.1.getD v9.1.toNat Xa).2.2.2.2.1.length)) ((some ((v.1.getD v9.1.toNat Xa).2.2.2.2.1.getD v31.toNat Xk).2.1).bind fun v32=>cond (v32 == v8) ((X3 v 0).bind fun v33=>some (v33.1,v33.2.1,v33.2.2.1,v33.2.2.2.1,v33.2.2.2.2.1,(v33.2.2.2.2.2.1.1,v33.2.2.2.2.2.1.2.1,v33.2.2.2.2.2.1.2.2),v33.2.2.2.2.2.2)) ((Xhq v v8 v32).bind fun v34=>cond (v34 != 0) ((X3 v v34).bind fun v35=>some (v35.1,v35.2.1,v35.2.2.1,v35.2.2.2.1,v35.2.2.2.2.1,(v35.2.2.2.2.2.1.1,v35.2.2.2.2.2.1.2.1,v35.2.2.2.2.2.1.2.2),v35.2.2.2.2.2.2)) ((Xbv (v30.1,v30.2.1,v30.2.2) v9.1 v31).bind fun v36=>cond (inB v4.1 v36.1.length) ((Xa8 (v36.1.getD v4.1.toNat Xa).2.2.2.2.1 v4.2.1).bind fun v37=>(Xa6 v36 v4.1 v37).bind fun v38=>cond (inB v9.1 v38.2.1.length) ((Xf0 (v38.2.1.getD v9.1.toNat Xa).2.2.2.2.1 (v9.2.1,v8,())).bind fun v39=>cond (inB v9.1 v38.2.1.length) ((some (v38.2.1.set v9.1.toNat ((v38.2.1.getD v9.1.toNat Xa).1,(v38.2.1.getD v9.1.toNat Xa).2.1,(v38.2.1.getD v9.1.toNat Xa).2.2.1,(v38.2.1.getD v9.1.toNat Xa).2.2.2.1,v39,(v38.2.1.getD v9.1.toNat Xa).2.2.2.2.2))).bind fun v40=>some (0,0,0,[],[],(v40,v38.2.2.1,v38.2.2.2),())) none) none) none))) none) none) (cond (cond (v9.1 != v4.1) (inB v9.1 v.1.length) true) ((some (cond (v9.1 != v4.1) (decide (((v.1.getD v9.1.toNat Xa).2.2.2.2.1.length:Int)≥6)) false)).bind fun v41=>cond v41 ((X3 v 2).bind fun v42=>some (v42.1,v42.2.1,v42.2.2.1,v42.2.2.2.1,v42.2.2.2.2.1,(v42.2.2.2.2.2.1.1,v42.2.2.2.2.2.1.2.1,v42.2.2.2.2.2.1.2.2),v42.2.2.2.2.2.2)) (cond (inB v4.1 v30.1.length) ((Xa8 (v30.1.getD v4.1.toNat Xa).2.2.2.2.1 v4.2.1).bind fun v43=>(Xa6 (v30.1,v30.2.1,v30.2.2) v4.1 v43).bind fun v44=>cond (inB v9.1 v44.2.1.length) ((Xf0 (v44.2.1.getD v9.1.toNat Xa).2.2.2.2.1 (v9.2.1,v8,())).bind fun v45=>cond (inB v9.1 v44.2.1.length) ((some (v44.2.1.set v9.1.toNat ((v44.2.1.getD v9.1.toNat Xa).1,(v44.2.1.getD v9.1.toNat Xa).2.1,(v44.2.1.getD v9.1.toNat Xa).2.2.1,(v44.2.1.getD v9.1.toNat Xa).2.2.2.1,v45,(v44.2.1.getD v9.1.toNat Xa).2.2.2.2.2))).bind fun v46=>some (0,0,0,[],[],(v46,v44.2.2.1,v44.2.2.2),())) none) none) none)) none)) none)) none)) none) none)) none)
namespace Xhr
def G:Gam:=mkG [(91,Xe1.FS),(92,X3.FS),(93,Xa8.FS),(102,Xab.FS),(95,Xar.FS),(103,Xhq.FS),(101,Xbv.FS),(104,Xa6.FS),(105,Xf0.FS)]
def pts:List PT:=[.cs Xh,.cs .str,.cs .str]
def FS:FS:=Ycx [.sh,.sh,.sh] pts (fun x=>Xhr x.1 x.2.1 x.2.2.1) fun t=>⟨[.cd Xj t],[]⟩
theorem ok:Ycm PR 56 FS:=
 Yw7 Xf Xe Proofs.Tryz.f56 ⟨[3],[],[],0⟩ .no (G:=G) (show GOk PR G from .cons Xe1.ok (.cons X3.ok (.cons Xa8.ok (.cons Xab.ok (.cons Xar.ok (.cons Xhq.ok (.cons Xbv.ok (.cons Xa6.ok (.cons Xf0.ok .nil))))))))) (L:=mkL []) (l:=[]) hT
  (fun x=>by simp only[Xhr,mC,mB,mS,mO,mN];kernel_rfl)
end Xhr
def Xj0 (v:Fs_) (v2:List UInt8):Option Xf3:=
 (Xhf v).bind fun v3=>cond (v3 != 0) (some (v3,0,0,0,0,())) ((Xf1 v v2).bind fun v4=>cond (v4.2 != 0) (some (v4.2,0,0,0,0,())) (cond (inB v4.1 v.1.length) (cond ((v.1.getD v4.1.toNat Xa).1 == 2) ((some ((v.1.getD v4.1.toNat Xa).2.2.2.2.1.length:Int)).bind fun v5=>some (0,v4.1,(v.1.getD v4.1.toNat Xa).1,1,v5,())) (some (0,v4.1,(v.1.getD v4.1.toNat Xa).1,(v.1.getD v4.1.toNat Xa).2.1,(v.1.getD v4.1.toNat Xa).2.2.1,()))) none))
namespace Xj0
def G:Gam:=mkG [(23,Xhf.FS),(97,Xf1.FS)]
def pts:List PT:=[.cs Xh,.cs .str]
def FS:FS:=Ycx [.sh,.sh] pts (fun x=>Xj0 x.1 x.2.1) fun t=>⟨[.cs Xb4 t],[]⟩
theorem ok:Ycm PR 106 FS:=
 Yw7 Xf Xe Proofs.Tryz.f106 ⟨[2],[],[],0⟩ .no (G:=G) (show GOk PR G from .cons Xhf.ok (.cons Xf1.ok .nil)) (L:=mkL []) (l:=[]) hT
  (fun x=>by simp only[Xj0,mC,mB,mS,mO,mN];kernel_rfl)
end Xj0
def Xj1 (v:Fs_) (v2:Int):Option Int:=
 (Xer v).bind fun v3=>cond (v3 != 0) (some v3) ((Xgz v v2).bind fun v4=>cond (!v4) (some 3) (cond (inB v2 v.1.length) (cond ((v.1.getD v2.toNat Xa).1 != 2) (some 9) (some 0)) none))
namespace Xj1
def G:Gam:=mkG [(47,Xer.FS),(143,Xgz.FS)]
def pts:List PT:=[.pt Xh,.cs I64]
def FS:FS:=Ycx [.sh,.sh] pts (fun x=>Xj1 x.1 x.2.1) fun t=>⟨[.cs I64 t],[]⟩
theorem ok:Ycm PR 151 FS:=
 Yw7 Xf Xe Proofs.Tryz.f151 h0 .no (G:=G) (show GOk PR G from .cons Xer.ok (.cons Xgz.ok .nil)) (L:=mkL []) (l:=[]) hT
  (fun x=>by simp only[Xj1,mC,mB,mS,mO,mN];kernel_rfl)
end Xj1
def Xdh.B (v2:Int) (v:Fs_) (v5:Xx) (v4:Int) (v6:Xx):Option ((Int×Xx)⊕Xx):=
 cond (inB v2 v.1.length) ((some ((v.1.getD v2.toNat Xa).2.2.2.2.1.length:Int)).bind fun v7=>cond (decide (v4<v7)) (cond (inB v2 v.1.length) (cond (inB v4 ((v.1.getD v2.toNat Xa).2.2.2.2.1.length)) ((some ((v.1.getD v2.toNat Xa).2.2.2.2.1.getD v4.toNat Xk).1).bind fun v8=>cond (decide ((v6.2.1++([v8])).length≤2147483648)) (some (.inl (w64 (v4+1),(v6.1,v6.2.1++([v8]),v6.2.2)))) none) none) none) (some (.inr v6))) none
def Xdh (v2:Int) (v:Fs_) (v5:Xx):(Int×Xx)→Option Xx:=
 Yan fun s=>Xdh.B v2 v v5 s.1 s.2
def Xdi (v:Fs_) (v2:Int):Option Xx:=
 (Xj1 v v2).bind fun v3=>cond (v3 != 0) (some (v3,[],())) ((Xdh v2 v (0,[],()) (0,(0,[],()))).bind fun v9=>some (v9.1,v9.2.1,v9.2.2))
namespace Xdi
def G:Gam:=mkG [(151,Xj1.FS)]
theorem Gok:GOk PR G:=.cons Xj1.ok .nil
end Xdi
namespace Xdh
noncomputable def c:=Yar (Yag Proofs.Tryz.f107) [1,1,1,0,1,0,0]
def sp:SP:=⟨[(1,.cs I64),(2,.pt Xh),(4,.loc 4 []),(6,.loc 6 []),(7,.cs I64)],[(4,.mem,.cd Xal),(6,.mem,.cd Xal)]⟩
def fr:=Yja sp (fun x s=>Xdh.B x.1.1 x.1.2.1 x.2.1 s.1 s.2) (fun x=>(x.1.2.2.2.2.1,x.2.2.1)) fun x (bb0:Xx) _ kk0=>kk0 (.ex 0) ⟨[(4,.loc 4 []),(6,.loc 6 [])],[(4,some ⟨.mem,.cd Xal x.2.1⟩),(6,some ⟨.mem,.cd Xal bb0⟩)]⟩
theorem ok:Ya2 PR 42 2 (.loop c) fr:=
 Yw9 Xf Xe ⟨[2],[],[],0⟩ (G:=Xdi.G) Xdi.Gok [(0,([4,6],[4,6]))] (fun x s=>((x.1.1,x.1.2.1,x.1.2.2.1,x.1.2.2.2.1,s.1,x.1.2.2.2.2.2),(x.2.1,s.2,x.2.2.2)))
  (fun x s=>by simp only[B,mC,mB,mS,mO,mN];kernel_rfl)
end Xdh
namespace Xdi
def pts:List PT:=[.cs Xh,.cs I64]
def FS:FS:=Ycx [.sh,.sh] pts (fun x=>Xdi x.1 x.2.1) fun t=>⟨[.cd Xal t],[]⟩
theorem ok:Ycm PR 107 FS:=
 Yw7 Xf Xe Proofs.Tryz.f107 ⟨[2],[],[],0⟩ (.R (.R (.R (.L (.R (.one (.fr 0))))))) (G:=G) Gok (L:=mkL [(0,Xdh.fr)]) (l:=[(0,.loop Xdh.c)]) ⟨Lam.cons Xdh.ok,trivial⟩
  (fun x=>by simp only[Xdi,mC,mB,mS,mO,mN];kernel_rfl)
end Xdi
def Xj2 (v:Fs_) (v2:Xap):Option Xo:=
 cond (v2.1 == 10) ((Xj0 v v2.2.1).bind fun v3=>(X3 v v3.1).bind fun v4=>(some (w64 ((w64 (v3.2.2.1*1000))+(w64 (v3.2.2.2.1*100))))).bind fun v5=>some (v4.1,v4.2.1,w64 (v5+v3.2.2.2.2.1),v4.2.2.2.1,v4.2.2.2.2.1,(v4.2.2.2.2.2.1.1,v4.2.2.2.2.2.1.2.1,v4.2.2.2.2.2.1.2.2),v4.2.2.2.2.2.2)) ((Xf1 v v2.2.1).bind fun v6=>cond (v6.2 != 0) ((X3 v v6.2).bind fun v7=>some (v7.1,v7.2.1,v7.2.2.1,v7.2.2.2.1,v7.2.2.2.2.1,(v7.2.2.2.2.2.1.1,v7.2.2.2.2.2.1.2.1,v7.2.2.2.2.2.1.2.2),v7.2.2.2.2.2.2)) ((Xdi v v6.1).bind fun v8=>cond (v8.1 != 0) ((X3 v v8.1).bind fun v9=>some (v9.1,v9.2.1,v9.2.2.1,v9.2.2.2.1,v9.2.2.2.2.1,(v9.2.2.2.2.2.1.1,v9.2.2.2.2.2.1.2.1,v9.2.2.2.2.2.1.2.2),v9.2.2.2.2.2.2)) ((Xar v).bind fun v10=>some (0,0,0,[],v8.2.1,(v10.1,v10.2.1,v10.2.2),()))))
namespace Xj2
def G:Gam:=mkG [(106,Xj0.FS),(92,X3.FS),(97,Xf1.FS),(107,Xdi.FS),(95,Xar.FS)]
def pts:List PT:=[.cs Xh,.cs Xv]
def FS:FS:=Ycx [.sh,.sh] pts (fun x=>Xj2 x.1 x.2.1) fun t=>⟨[.cd Xj t],[]⟩
theorem ok:Ycm PR 57 FS:=
 Yw7 Xf Xe Proofs.Tryz.f57 ⟨[2,3],[],[],0⟩ .no (G:=G) (show GOk PR G from .cons Xj0.ok (.cons X3.ok (.cons Xf1.ok (.cons Xdi.ok (.cons Xar.ok .nil))))) (L:=mkL []) (l:=[]) hT
  (fun x=>by simp only[Xj2,mC,mB,mS,mO,mN];kernel_rfl)
end Xj2
def Xf5 (v:Fs_) (v2:Xap) (v3:List Int):Option Xo:=
 cond (v2.1 == 1) ((Xk8 v v2.2.1 1).bind fun v4=>some (v4.1,v4.2.1,v4.2.2.1,v4.2.2.2.1,v4.2.2.2.2.1,(v4.2.2.2.2.2.1.1,v4.2.2.2.2.2.1.2.1,v4.2.2.2.2.2.1.2.2),v4.2.2.2.2.2.2)) (cond (v2.1 == 2) ((Xk8 v v2.2.1 2).bind fun v5=>some (v5.1,v5.2.1,v5.2.2.1,v5.2.2.2.1,v5.2.2.2.2.1,(v5.2.2.2.2.2.1.1,v5.2.2.2.2.2.1.2.1,v5.2.2.2.2.2.1.2.2),v5.2.2.2.2.2.2)) (cond (v2.1 == 3) ((Xf4 v v2 v3).bind fun v6=>some (v6.1,v6.2.1,v6.2.2.1,v6.2.2.2.1,v6.2.2.2.2.1,(v6.2.2.2.2.2.1.1,v6.2.2.2.2.2.1.2.1,v6.2.2.2.2.2.1.2.2),v6.2.2.2.2.2.2)) (cond (v2.1 == 4) ((Xf4 v v2 v3).bind fun v7=>some (v7.1,v7.2.1,v7.2.2.1,v7.2.2.2.1,v7.2.2.2.2.1,(v7.2.2.2.2.2.1.1,v7.2.2.2.2.2.1.2.1,v7.2.2.2.2.2.1.2.2),v7.2.2.2.2.2.2)) (cond (v2.1 == 5) ((Xf4 v v2 v3).bind fun v8=>some (v8.1,v8.2.1,v8.2.2.1,v8.2.2.2.1,v8.2.2.2.2.1,(v8.2.2.2.2.2.1.1,v8.2.2.2.2.2.1.2.1,v8.2.2.2.2.2.1.2.2),v8.2.2.2.2.2.2)) (cond (v2.1 == 6) ((Xg3 v v2).bind fun v9=>some (v9.1,v9.2.1,v9.2.2.1,v9.2.2.2.1,v9.2.2.2.2.1,(v9.2.2.2.2.2.1.1,v9.2.2.2.2.2.1.2.1,v9.2.2.2.2.2.1.2.2),v9.2.2.2.2.2.2)) (cond (v2.1 == 7) ((Xg3 v v2).bind fun v10=>some (v10.1,v10.2.1,v10.2.2.1,v10.2.2.2.1,v10.2.2.2.2.1,(v10.2.2.2.2.2.1.1,v10.2.2.2.2.2.1.2.1,v10.2.2.2.2.2.1.2.2),v10.2.2.2.2.2.2)) (cond (v2.1 == 8) ((Xhp v v2.2.1 v2.2.2.1).bind fun v11=>some (v11.1,v11.2.1,v11.2.2.1,v11.2.2.2.1,v11.2.2.2.2.1,(v11.2.2.2.2.2.1.1,v11.2.2.2.2.2.1.2.1,v11.2.2.2.2.2.1.2.2),v11.2.2.2.2.2.2)) (cond (v2.1 == 9) ((Xhr v v2.2.1 v2.2.2.1).bind fun v12=>some (v12.1,v12.2.1,v12.2.2.1,v12.2.2.2.1,v12.2.2.2.2.1,(v12.2.2.2.2.2.1.1,v12.2.2.2.2.2.1.2.1,v12.2.2.2.2.2.1.2.2),v12.2.2.2.2.2.2)) ((Xj2 v v2).bind fun v13=>some (v13.1,v13.2.1,v13.2.2.1,v13.2.2.2.1,v13.2.2.2.2.1,(v13.2.2.2.2.2.1.1,v13.2.2.2.2.2.1.2.1,v13.2.2.2.2.2.1.2.2),v13.2.2.2.2.2.2))))))))))
namespace Xf5
def G:Gam:=mkG [(52,Xk8.FS),(53,Xf4.FS),(54,Xg3.FS),(55,Xhp.FS),(56,Xhr.FS),(57,Xj2.FS)]
def pts:List PT:=[.cs Xh,.cs Xv,.cs SI]
def FS:FS:=Ycx [.sh,.sh,.sh] pts (fun x=>Xf5 x.1 x.2.1 x.2.2.1) fun t=>⟨[.cd Xj t],[]⟩
theorem ok:Ycm PR 26 FS:=
 Yw7 Xf Xe Proofs.Tryz.f26 ⟨[3,4],[],[],0⟩ .no (G:=G) (show GOk PR G from .cons Xk8.ok (.cons Xf4.ok (.cons Xg3.ok (.cons Xhp.ok (.cons Xhr.ok (.cons Xj2.ok .nil)))))) (L:=mkL []) (l:=[]) hT
  (fun x=>by simp only[Xf5,mC,mB,mS,mO,mN];kernel_rfl)
end Xf5
def Xg4 (v:Fs_) (v2:Xap) (v3:List Int):Option Xo:=
 (Xhf v).bind fun v4=>cond (v4 != 0) (some (v4,0,0,[],[],([],[],()),())) ((Xmi v2).bind fun v5=>cond (v5 != 0) (some (v5,0,0,[],[],([],[],()),())) ((Xe0 v3).bind fun v6=>cond (v6 != 0) (some (v6,0,0,[],[],([],[],()),())) ((Xf5 v v2 v3).bind fun v7=>some (v7.1,v7.2.1,v7.2.2.1,v7.2.2.2.1,v7.2.2.2.2.1,(v7.2.2.2.2.2.1.1,v7.2.2.2.2.2.1.2.1,v7.2.2.2.2.2.1.2.2),v7.2.2.2.2.2.2))))
namespace Xg4
def G:Gam:=mkG [(23,Xhf.FS),(24,Xmi.FS),(25,Xe0.FS),(26,Xf5.FS)]
def pts:List PT:=[.cs Xh,.cs Xv,.cs SI]
def FS:FS:=Ycx [.sh,.sh,.sh] pts (fun x=>Xg4 x.1 x.2.1 x.2.2.1) fun t=>⟨[.cd Xj t],[]⟩
theorem ok:Ycm PR 6 FS:=
 Yw7 Xf Xe Proofs.Tryz.f6 ⟨[3,4],[],[],0⟩ .no (G:=G) (show GOk PR G from .cons Xhf.ok (.cons Xmi.ok (.cons Xe0.ok (.cons Xf5.ok .nil)))) (L:=mkL []) (l:=[]) hT
  (fun x=>by simp only[Xg4,mC,mB,mS,mO,mN];kernel_rfl)
end Xg4
def X0 (v:Int) (v2:Int) (v3:Int):Option Bool:=
 some (cond (decide (v≥v2)) (decide (v≤v3)) false)
namespace X0
def pts:List PT:=[.cs I64,.cs I64,.cs I64]
def FS:FS:=Ycx [.sh,.sh,.sh] pts (fun x=>X0 x.1 x.2.1 x.2.2.1) fun t=>⟨[.cs .bool t],[]⟩
theorem ok:Ycm PR 62 FS:=
 Yw7 Xf Xe Proofs.Tryz.f62 h0 .no (G:=(mkG [])) .nil (L:=mkL []) (l:=[]) hT
  (fun x=>by simp only[X0,mC,mB,mS,mO,mN];kernel_rfl)
end X0
def Xe9 (v:List Int):Option Int:=
 some (v.length:Int)
namespace Xe9
def pts:List PT:=[.cs SI]
def FS:FS:=Ycx [.sh] pts (fun x=>Xe9 x.1) fun t=>⟨[.cs I64 t],[]⟩
theorem ok:Ycm PR 211 FS:=
 Yw7 Xf Xe Proofs.Tryz.f211 h0 .no (G:=(mkG [])) .nil (L:=mkL []) (l:=[]) hT
  (fun x=>by simp only[Xe9,mC,mB,mS,mO,mN];kernel_rfl)
end Xe9
def Xfa (v:Int):Option Int:=
 cond (!((8:Int) == 0)) (some (w64 ((w64 ((w64 (v+8))-1)).tdiv 8))) none
namespace Xfa
def pts:List PT:=[.cs I64]
def FS:FS:=Ycx [.sh] pts (fun x=>Xfa x.1) fun t=>⟨[.cs I64 t],[]⟩
theorem ok:Ycm PR 187 FS:=
 Yw7 Xf Xe Proofs.Tryz.f187 h0 .no (G:=(mkG [])) .nil (L:=mkL []) (l:=[]) hT
  (fun x=>by simp only[Xfa,mC,mB,mS,mO,mN];kernel_rfl)
end Xfa
def Xj3 (v:Int):Option Bool:=
 (X0 v 0 19).bind fun v2=>some (!v2)
namespace Xj3
def G:Gam:=mkG [(62,X0.FS)]
def pts:List PT:=[.cs I64]
def FS:FS:=Ycx [.sh] pts (fun x=>Xj3 x.1) fun t=>⟨[.cs .bool t],[]⟩
theorem ok:Ycm PR 215 FS:=
 Yw7 Xf Xe Proofs.Tryz.f215 h0 .no (G:=G) (show GOk PR G from .cons X0.ok .nil) (L:=mkL []) (l:=[]) hT
  (fun x=>by simp only[Xj3,mC,mB,mS,mO,mN];kernel_rfl)
end Xj3
def Xfb.B (v:List Int) (v2:Unit) (v3:Int) (v4:Int):Option (Int⊕((Int⊕Unit))):=
 cond (decide (v4<v3)) (cond (inB v4 v.length) ((Xj3 (v.getD v4.toNat 0)).bind fun v5=>cond v5 (some (.inr (.inl v4))) (some (.inl (w64 (v4+1))))) none) (some (.inr (.inr ())))
def Xfb (v:List Int) (v2:Unit) (v3:Int):Int→Option ((Int⊕Unit)):=
 Yan fun s=>Xfb.B v v2 v3 s
def Xfc (v:List Int) (v2:Unit):Option Int:=
 (Xfb v v2 (v.length:Int) 0).bind fun v6=>sel v6 (fun v7=>some v7) (fun v8=>some (-1))
namespace Xfc
def G:Gam:=mkG [(215,Xj3.FS)]
theorem Gok:GOk PR G:=.cons Xj3.ok .nil
end Xfc
namespace Xfb
noncomputable def c:=Yar (Yag Proofs.Tryz.f119) [1,0,1,0,0]
def sp:SP:=⟨[(0,.cs SI),(1,.clo 215 (.cs .unit)),(7,.cs I64),(8,.cs I64)],[]⟩
def fr:=Yja sp (fun x s=>Xfb.B x.1.1 x.1.2.1 x.1.2.2.1 s) (fun x=>x.1.2.2.2.1) fun x (oo0:(Int⊕Unit)) _ kk0=>sel oo0 (fun bb0=>kk0 (.rt) ⟨[(4,.cs I64 bb0)],[]⟩) (fun cc0=>kk0 (.ex 0) ⟨[],[]⟩)
theorem ok:Ya2 PR 19 2 (.loop c) fr:=
 Yth Xf Xe h0 .no (G:=Xfc.G) Xfc.Gok (L:=mkL []) (l:=[]) hT [(0,([],[]))] ([4],[]) (fun x s=>((x.1.1,x.1.2.1,x.1.2.2.1,s,x.1.2.2.2.2),x.2))
  (fun x s=>by simp only[B,mC,mB,mS,mO,mN];kernel_rfl)
end Xfb
namespace Xfc
def pts:List PT:=[.cs SI,.clo 215 (.cs .unit)]
def FS:FS:=Ycx [.sh,.sh] pts (fun x=>Xfc x.1 x.2.1) fun t=>⟨[.cs I64 t],[]⟩
theorem ok:Ycm PR 119 FS:=
 Yw7 Xf Xe Proofs.Tryz.f119 h0 (.R (.L (.R (.one (.fr 0))))) (G:=G) Gok (L:=mkL [(0,Xfb.fr)]) (l:=[(0,.loop Xfb.c)]) ⟨Lam.cons Xfb.ok,trivial⟩
  (fun x=>by simp only[Xfc,mC,mB,mS,mO,mN];kernel_rfl)
end Xfc
def Xhs (v:List Int) (v2:Unit):Option Bool:=
 (Xfc v v2).bind fun v3=>some (decide (v3≥0))
namespace Xhs
def G:Gam:=mkG [(119,Xfc.FS)]
def pts:List PT:=[.cs SI,.clo 215 (.cs .unit)]
def FS:FS:=Ycx [.sh,.sh] pts (fun x=>Xhs x.1 x.2.1) fun t=>⟨[.cs .bool t],[]⟩
theorem ok:Ycm PR 63 FS:=
 Yw7 Xf Xe Proofs.Tryz.f63 h0 .no (G:=G) (show GOk PR G from .cons Xfc.ok .nil) (L:=mkL []) (l:=[]) hT
  (fun x=>by simp only[Xhs,mC,mB,mS,mO,mN];kernel_rfl)
end Xhs
def Xfd.B (v:List Int) (v2:Int) (v3:Int) (v4:Int):Option (Int⊕((Int⊕Unit))):=
 cond (decide (v4<v3)) (cond (inB v4 v.length) (cond (v2 == (v.getD v4.toNat 0)) (some (.inr (.inl v4))) (some (.inl (w64 (v4+1))))) none) (some (.inr (.inr ())))
def Xfd (v:List Int) (v2:Int) (v3:Int):Int→Option ((Int⊕Unit)):=
 Yan fun s=>Xfd.B v v2 v3 s
def Xj4 (v:List Int) (v2:Int):Option Int:=
 (Xfd v v2 (v.length:Int) 0).bind fun v5=>sel v5 (fun v6=>some v6) (fun v7=>some (-1))
namespace Xfd
noncomputable def c:=Yar (Yag Proofs.Tryz.f157) [1,0,1,0,0]
def sp:SP:=⟨[(0,.cs SI),(1,.cs I64),(7,.cs I64),(8,.cs I64)],[]⟩
def fr:=Yja sp (fun x s=>Xfd.B x.1.1 x.1.2.1 x.1.2.2.1 s) (fun x=>x.1.2.2.2.1) fun x (oo0:(Int⊕Unit)) _ kk0=>sel oo0 (fun bb0=>kk0 (.rt) ⟨[(4,.cs I64 bb0)],[]⟩) (fun cc0=>kk0 (.ex 0) ⟨[],[]⟩)
theorem ok:Ya2 PR 19 2 (.loop c) fr:=
 Yth Xf Xe h0 .no (G:=(mkG [])) .nil (L:=mkL []) (l:=[]) hT [(0,([],[]))] ([4],[]) (fun x s=>((x.1.1,x.1.2.1,x.1.2.2.1,s,x.1.2.2.2.2),x.2))
  (fun x s=>by simp only[B,mC,mB,mS,mO,mN];kernel_rfl)
end Xfd
namespace Xj4
def pts:List PT:=[.cs SI,.cs I64]
def FS:FS:=Ycx [.sh,.sh] pts (fun x=>Xj4 x.1 x.2.1) fun t=>⟨[.cs I64 t],[]⟩
theorem ok:Ycm PR 157 FS:=
 Yw7 Xf Xe Proofs.Tryz.f157 h0 (.R (.L (.R (.one (.fr 0))))) (G:=(mkG [])) .nil (L:=mkL [(0,Xfd.fr)]) (l:=[(0,.loop Xfd.c)]) ⟨Lam.cons Xfd.ok,trivial⟩
  (fun x=>by simp only[Xj4,mC,mB,mS,mO,mN];kernel_rfl)
end Xj4
def Xa4 (v:List Int) (v2:Int):Option Bool:=
 (Xj4 v v2).bind fun v3=>some (decide (v3≥0))
namespace Xa4
def G:Gam:=mkG [(157,Xj4.FS)]
def pts:List PT:=[.cs SI,.cs I64]
def FS:FS:=Ycx [.sh,.sh] pts (fun x=>Xa4 x.1 x.2.1) fun t=>⟨[.cs .bool t],[]⟩
theorem ok:Ycm PR 116 FS:=
 Yw7 Xf Xe Proofs.Tryz.f116 h0 .no (G:=G) (show GOk PR G from .cons Xj4.ok .nil) (L:=mkL []) (l:=[]) hT
  (fun x=>by simp only[Xa4,mC,mB,mS,mO,mN];kernel_rfl)
end Xa4
def Xdj.B (v:Xb) (v7:List Int) (v8:Int) (v9:Int):Option (Int⊕((Int⊕Unit))):=
 cond (decide (v9<v8)) (cond (inB v9 v7.length) (cond (decide ((0:Int)≤v9)&&decide (v9≤(v.2.2.2.1.length:Int))) ((Xa4 ((v.2.2.2.1.take v9.toNat).drop 0) (v7.getD v9.toNat 0)).bind fun v10=>cond v10 (some (.inr (.inl 7))) (some (.inl (w64 (v9+1))))) none) none) (some (.inr (.inr ())))
def Xdj (v:Xb) (v7:List Int) (v8:Int):Int→Option ((Int⊕Unit)):=
 Yan fun s=>Xdj.B v v7 v8 s
def Xdk (v:Xb):Option Int:=
 (X0 v.2.1 1 60).bind fun v2=>cond (!v2) (some 3) ((X0 v.2.2.1 0 32).bind fun v3=>cond (!v3) (some 3) ((Xe9 v.2.2.2.1).bind fun v4=>(Xfa v.2.2.1).bind fun v5=>cond (v4 != v5) (some 1) ((Xhs v.2.2.2.1 ()).bind fun v6=>cond v6 (some 3) ((Xdj v v.2.2.2.1 (v.2.2.2.1.length:Int) 0).bind fun v11=>sel v11 (fun v12=>some v12) (fun v13=>some 0)))))
namespace Xdk
def G:Gam:=mkG [(62,X0.FS),(211,Xe9.FS),(187,Xfa.FS),(63,Xhs.FS),(116,Xa4.FS)]
theorem Gok:GOk PR G:=.cons X0.ok (.cons Xe9.ok (.cons Xfa.ok (.cons Xhs.ok (.cons Xa4.ok .nil))))
end Xdk
namespace Xdj
noncomputable def c:=Yar (Yag Proofs.Tryz.f196) [1,1,0,1,0,0]
def sp:SP:=⟨[(1,.pt Xd),(29,.cs SI),(30,.cs I64),(31,.cs I64)],[]⟩
def fr:=Yja sp (fun x s=>Xdj.B x.1.1 x.1.2.1 x.1.2.2.1 s) (fun x=>x.1.2.2.2.1) fun x (oo0:(Int⊕Unit)) _ kk0=>sel oo0 (fun bb0=>kk0 (.rt) ⟨[(2,.cs I64 bb0)],[]⟩) (fun cc0=>kk0 (.ex 1) ⟨[],[]⟩)
theorem ok:Ya2 PR 43 1 (.loop c) fr:=
 Yth Xf Xe ⟨[1],[],[],0⟩ .no (G:=Xdk.G) Xdk.Gok (L:=mkL []) (l:=[]) hT [(1,([],[]))] ([2],[]) (fun x s=>((x.1.1,x.1.2.1,x.1.2.2.1,s,x.1.2.2.2.2),x.2))
  (fun x s=>by simp only[B,mC,mB,mS,mO,mN];kernel_rfl)
end Xdj
namespace Xdk
def pts:List PT:=[.cs Xd]
def FS:FS:=Ycx [.sh] pts (fun x=>Xdk x.1) fun t=>⟨[.cs I64 t],[]⟩
theorem ok:Ycm PR 196 FS:=
 Yw7 Xf Xe Proofs.Tryz.f196 ⟨[1],[],[],0⟩ (.R (.R (.L (.R (.one (.fr 0)))))) (G:=G) Gok (L:=mkL [(0,Xdj.fr)]) (l:=[(0,.loop Xdj.c)]) ⟨Lam.cons Xdj.ok,trivial⟩
  (fun x=>by simp only[Xdk,mC,mB,mS,mO,mN];kernel_rfl)
end Xdk
def Xfe.B (v:List UInt8) (v2:Int) (v3:Int):Option (Int⊕((Int⊕Unit))):=
 cond (decide (v3<v2)) (cond (inB v3 v.length) (cond (cond (!(decide (((v.getD v3.toNat 0).toNat:Int)<97))) (inB v3 v.length) true) ((some (cond (decide (((v.getD v3.toNat 0).toNat:Int)<97)) true (decide (((v.getD v3.toNat 0).toNat:Int)>122)))).bind fun v4=>cond v4 (some (.inr (.inl 5))) (some (.inl (w64 (v3+1))))) none) none) (some (.inr (.inr ())))
def Xfe (v:List UInt8) (v2:Int):Int→Option ((Int⊕Unit)):=
 Yan fun s=>Xfe.B v v2 s
def Xff (v:List UInt8):Option Int:=
 cond (v == ([]:List UInt8)) (some 5) ((Xfe v (v.length:Int) 0).bind fun v5=>sel v5 (fun v6=>some v6) (fun v7=>cond (decide ((v.length:Int)>4)) (some 2) (some 0)))
namespace Xfe
noncomputable def c:=Yar (Yag Proofs.Tryz.f170) [1,1,0,1,0,0]
def sp:SP:=⟨[(0,.cs .str),(7,.cs I64),(8,.cs I64)],[]⟩
def fr:=Yja sp (fun x s=>Xfe.B x.1.1 x.1.2.1 s) (fun x=>x.1.2.2.1) fun x (oo0:(Int⊕Unit)) _ kk0=>sel oo0 (fun bb0=>kk0 (.rt) ⟨[(2,.cs I64 bb0)],[]⟩) (fun cc0=>kk0 (.ex 0) ⟨[(0,.cs .str x.1.1)],[]⟩)
theorem ok:Ya2 PR 25 1 (.loop c) fr:=
 Yth Xf Xe h0 .no (G:=(mkG [])) .nil (L:=mkL []) (l:=[]) hT [(0,([0],[]))] ([2],[]) (fun x s=>((x.1.1,x.1.2.1,s,x.1.2.2.2),x.2))
  (fun x s=>by simp only[B,mC,mB,mS,mO,mN];kernel_rfl)
end Xfe
namespace Xff
def pts:List PT:=[.cs .str]
def FS:FS:=Ycx [.sh] pts (fun x=>Xff x.1) fun t=>⟨[.cs I64 t],[]⟩
theorem ok:Ycm PR 170 FS:=
 Yw7 Xf Xe Proofs.Tryz.f170 h0 (.R (.R (.L (.R (.one (.fr 0)))))) (G:=(mkG [])) .nil (L:=mkL [(0,Xfe.fr)]) (l:=[(0,.loop Xfe.c)]) ⟨Lam.cons Xfe.ok,trivial⟩
  (fun x=>by simp only[Xff,mC,mB,mS,mO,mN];kernel_rfl)
end Xff
def Xdl.B (v:Xb) (v2:List Xg) (v3:Int) (v4:Int):Option (Int⊕((Int⊕Unit))):=
 cond (decide (v4<v3)) (cond (inB v4 v2.length) ((Xff (v2.getD v4.toNat Xk).1).bind fun v5=>cond (v5 != 0) (some (.inr (.inl v5))) ((X0 (v2.getD v4.toNat Xk).2.1 0 9).bind fun v6=>cond (!v6) (some (.inr (.inl 3))) (cond (cond (decide (v4>0)) (inB (w64 (v4-1)) v.2.2.2.2.1.length) true) ((some (cond (decide (v4>0)) (!leB (v.2.2.2.2.1.getD (w64 (v4-1)).toNat Xk).1 (v2.getD v4.toNat Xk).1) false)).bind fun v7=>cond v7 (some (.inr (.inl 1))) (some (.inl (w64 (v4+1))))) none))) none) (some (.inr (.inr ())))
def Xdl (v:Xb) (v2:List Xg) (v3:Int):Int→Option ((Int⊕Unit)):=
 Yan fun s=>Xdl.B v v2 v3 s
def Xdm (v:Xb):Option Int:=
 cond (decide ((v.2.2.2.2.1.length:Int)>6)) (some 2) ((Xdl v v.2.2.2.2.1 (v.2.2.2.2.1.length:Int) 0).bind fun v8=>sel v8 (fun v9=>some v9) (fun v10=>some 0))
namespace Xdm
def G:Gam:=mkG [(170,Xff.FS),(62,X0.FS)]
theorem Gok:GOk PR G:=.cons Xff.ok (.cons X0.ok .nil)
end Xdm
namespace Xdl
noncomputable def c:=Yar (Yag Proofs.Tryz.f197) [1,1,0,1,0,0]
def sp:SP:=⟨[(1,.pt Xd),(11,.cs (.sl Xi)),(12,.cs I64),(13,.cs I64)],[]⟩
def fr:=Yja sp (fun x s=>Xdl.B x.1.1 x.1.2.1 x.1.2.2.1 s) (fun x=>x.1.2.2.2.1) fun x (oo0:(Int⊕Unit)) _ kk0=>sel oo0 (fun bb0=>kk0 (.rt) ⟨[(2,.cs I64 bb0)],[]⟩) (fun cc0=>kk0 (.ex 0) ⟨[],[]⟩)
theorem ok:Ya2 PR 43 1 (.loop c) fr:=
 Yth Xf Xe ⟨[1],[],[],0⟩ .no (G:=Xdm.G) Xdm.Gok (L:=mkL []) (l:=[]) hT [(0,([],[]))] ([2],[]) (fun x s=>((x.1.1,x.1.2.1,x.1.2.2.1,s,x.1.2.2.2.2),x.2))
  (fun x s=>by simp only[B,mC,mB,mS,mO,mN];kernel_rfl)
end Xdl
namespace Xdm
def pts:List PT:=[.cs Xd]
def FS:FS:=Ycx [.sh] pts (fun x=>Xdm x.1) fun t=>⟨[.cs I64 t],[]⟩
theorem ok:Ycm PR 197 FS:=
 Yw7 Xf Xe Proofs.Tryz.f197 ⟨[1],[],[],0⟩ (.R (.R (.L (.R (.one (.fr 0)))))) (G:=G) Gok (L:=mkL [(0,Xdl.fr)]) (l:=[(0,.loop Xdl.c)]) ⟨Lam.cons Xdl.ok,trivial⟩
  (fun x=>by simp only[Xdm,mC,mB,mS,mO,mN];kernel_rfl)
end Xdm
def Xht (v:Xb):Option Int:=
 (some (cond (cond (v.2.1 == 0) (v.2.2.1 == 0) false) ((v.2.2.2.1.length:Int) == 0) false)).bind fun v2=>(X0 v.1 0 2).bind fun v3=>cond (!v3) (some 1) (cond (cond (v.1 != 1) (!v2) false) (some 1) ((some (cond (v.1 != 2) (!((v.2.2.2.2.1.length:Int) == 0)) false)).bind fun v4=>cond v4 (some 1) (cond (v.1 == 1) ((Xdk v).bind fun v5=>some v5) ((Xdm v).bind fun v6=>some v6))))
namespace Xht
def G:Gam:=mkG [(62,X0.FS),(196,Xdk.FS),(197,Xdm.FS)]
def pts:List PT:=[.cs Xd]
def FS:FS:=Ycx [.sh] pts (fun x=>Xht x.1) fun t=>⟨[.cs I64 t],[]⟩
theorem ok:Ycm PR 181 FS:=
 Yw7 Xf Xe Proofs.Tryz.f181 ⟨[1],[],[],0⟩ .no (G:=G) (show GOk PR G from .cons X0.ok (.cons Xdk.ok (.cons Xdm.ok .nil))) (L:=mkL []) (l:=[]) hT
  (fun x=>by simp only[Xht,mC,mB,mS,mO,mN];kernel_rfl)
end Xht
def Xfg.B (v:List Xb) (v2:Int) (v3:Int):Option (Int⊕((Int⊕Unit))):=
 cond (decide (v3<v2)) (cond (inB v3 v.length) ((Xht (v.getD v3.toNat Xa)).bind fun v4=>cond (v4 != 0) (some (.inr (.inl v4))) (some (.inl (w64 (v3+1))))) none) (some (.inr (.inr ())))
def Xfg (v:List Xb) (v2:Int):Int→Option ((Int⊕Unit)):=
 Yan fun s=>Xfg.B v v2 s
def Xdn (v:List Xb):Option Int:=
 cond (decide ((v.length:Int)>10)) (some 2) ((Xfg v (v.length:Int) 0).bind fun v5=>sel v5 (fun v6=>some v6) (fun v7=>some 0))
namespace Xdn
def G:Gam:=mkG [(181,Xht.FS)]
theorem Gok:GOk PR G:=.cons Xht.ok .nil
end Xdn
namespace Xfg
noncomputable def c:=Yar (Yag Proofs.Tryz.f153) [1,1,0,1,0,0]
def sp:SP:=⟨[(9,.cs (.sl Xd)),(10,.cs I64),(11,.cs I64)],[]⟩
def fr:=Yja sp (fun x s=>Xfg.B x.1.1 x.1.2.1 s) (fun x=>x.1.2.2.1) fun x (oo0:(Int⊕Unit)) _ kk0=>sel oo0 (fun bb0=>kk0 (.rt) ⟨[(2,.cs I64 bb0)],[]⟩) (fun cc0=>kk0 (.ex 0) ⟨[],[]⟩)
theorem ok:Ya2 PR 21 1 (.loop c) fr:=
 Yth Xf Xe h0 .no (G:=Xdn.G) Xdn.Gok (L:=mkL []) (l:=[]) hT [(0,([],[]))] ([2],[]) (fun x s=>((x.1.1,x.1.2.1,s,x.1.2.2.2),x.2))
  (fun x s=>by simp only[B,mC,mB,mS,mO,mN];kernel_rfl)
end Xfg
namespace Xdn
def pts:List PT:=[.cs (.sl Xd)]
def FS:FS:=Ycx [.sh] pts (fun x=>Xdn x.1) fun t=>⟨[.cs I64 t],[]⟩
theorem ok:Ycm PR 153 FS:=
 Yw7 Xf Xe Proofs.Tryz.f153 h0 (.R (.R (.L (.R (.one (.fr 0)))))) (G:=G) Gok (L:=mkL [(0,Xfg.fr)]) (l:=[(0,.loop Xfg.c)]) ⟨Lam.cons Xfg.ok,trivial⟩
  (fun x=>by simp only[Xdn,mC,mB,mS,mO,mN];kernel_rfl)
end Xdn
def Xhu (v:Fs_):Option Int:=
 (Xdn v.1).bind fun v2=>cond (v2 != 0) (some v2) (cond (cond (!((v.1.length:Int) == 0)) (inB 0 v.1.length) true) ((some (cond ((v.1.length:Int) == 0) true ((v.1.getD (0:Int).toNat Xa).1 != 2))).bind fun v3=>cond (cond v3 true ((v.2.1.length:Int) != 20)) (some 1) (some 0)) none)
namespace Xhu
def G:Gam:=mkG [(153,Xdn.FS)]
def pts:List PT:=[.cs Xh]
def FS:FS:=Ycx [.sh] pts (fun x=>Xhu x.1) fun t=>⟨[.cs I64 t],[]⟩
theorem ok:Ycm PR 109 FS:=
 Yw7 Xf Xe Proofs.Tryz.f109 ⟨[1],[],[],0⟩ .no (G:=G) (show GOk PR G from .cons Xdn.ok .nil) (L:=mkL []) (l:=[]) hT
  (fun x=>by simp only[Xhu,mC,mB,mS,mO,mN];kernel_rfl)
end Xhu
def Xj5 (v:List Int):Option Bool:=
 some (decide ((v.length:Int)>8))
namespace Xj5
def pts:List PT:=[.cs SB]
def FS:FS:=Ycx [.sh] pts (fun x=>Xj5 x.1) fun t=>⟨[.cs .bool t],[]⟩
theorem ok:Ycm PR 111 FS:=
 Yw7 Xf Xe Proofs.Tryz.f111 h0 .no (G:=(mkG [])) .nil (L:=mkL []) (l:=[]) hT
  (fun x=>by simp only[Xj5,mC,mB,mS,mO,mN];kernel_rfl)
end Xj5
def Xfh.B (v:List (List Int)) (v2:Unit) (v3:Int) (v4:Int):Option (Int⊕((Int⊕Unit))):=
 cond (decide (v4<v3)) (cond (inB v4 v.length) ((Xj5 (v.getD v4.toNat [])).bind fun v5=>cond v5 (some (.inr (.inl v4))) (some (.inl (w64 (v4+1))))) none) (some (.inr (.inr ())))
def Xfh (v:List (List Int)) (v2:Unit) (v3:Int):Int→Option ((Int⊕Unit)):=
 Yan fun s=>Xfh.B v v2 v3 s
def Xfi (v:List (List Int)) (v2:Unit):Option Int:=
 (Xfh v v2 (v.length:Int) 0).bind fun v6=>sel v6 (fun v7=>some v7) (fun v8=>some (-1))
namespace Xfi
def G:Gam:=mkG [(111,Xj5.FS)]
theorem Gok:GOk PR G:=.cons Xj5.ok .nil
end Xfi
namespace Xfh
noncomputable def c:=Yar (Yag Proofs.Tryz.f154) [1,0,1,0,0]
def sp:SP:=⟨[(0,.cs (.sl SB)),(1,.clo 111 (.cs .unit)),(7,.cs I64),(8,.cs I64)],[]⟩
def fr:=Yja sp (fun x s=>Xfh.B x.1.1 x.1.2.1 x.1.2.2.1 s) (fun x=>x.1.2.2.2.1) fun x (oo0:(Int⊕Unit)) _ kk0=>sel oo0 (fun bb0=>kk0 (.rt) ⟨[(4,.cs I64 bb0)],[]⟩) (fun cc0=>kk0 (.ex 0) ⟨[],[]⟩)
theorem ok:Ya2 PR 19 2 (.loop c) fr:=
 Yth Xf Xe h0 .no (G:=Xfi.G) Xfi.Gok (L:=mkL []) (l:=[]) hT [(0,([],[]))] ([4],[]) (fun x s=>((x.1.1,x.1.2.1,x.1.2.2.1,s,x.1.2.2.2.2),x.2))
  (fun x s=>by simp only[B,mC,mB,mS,mO,mN];kernel_rfl)
end Xfh
namespace Xfi
def pts:List PT:=[.cs (.sl SB),.clo 111 (.cs .unit)]
def FS:FS:=Ycx [.sh,.sh] pts (fun x=>Xfi x.1 x.2.1) fun t=>⟨[.cs I64 t],[]⟩
theorem ok:Ycm PR 154 FS:=
 Yw7 Xf Xe Proofs.Tryz.f154 h0 (.R (.L (.R (.one (.fr 0))))) (G:=G) Gok (L:=mkL [(0,Xfh.fr)]) (l:=[(0,.loop Xfh.c)]) ⟨Lam.cons Xfh.ok,trivial⟩
  (fun x=>by simp only[Xfi,mC,mB,mS,mO,mN];kernel_rfl)
end Xfi
def Xhv (v:List (List Int)) (v2:Unit):Option Bool:=
 (Xfi v v2).bind fun v3=>some (decide (v3≥0))
namespace Xhv
def G:Gam:=mkG [(154,Xfi.FS)]
def pts:List PT:=[.cs (.sl SB),.clo 111 (.cs .unit)]
def FS:FS:=Ycx [.sh,.sh] pts (fun x=>Xhv x.1 x.2.1) fun t=>⟨[.cs .bool t],[]⟩
theorem ok:Ycm PR 110 FS:=
 Yw7 Xf Xe Proofs.Tryz.f110 h0 .no (G:=G) (show GOk PR G from .cons Xfi.ok .nil) (L:=mkL []) (l:=[]) hT
  (fun x=>by simp only[Xhv,mC,mB,mS,mO,mN];kernel_rfl)
end Xhv
noncomputable def Xj6 (s:List Int):Option (List Int):=Yue s
def Xj6.FS:FS:=Ycx [.mu] [.cl .deep (.sl (.int .i64))] (fun x=>Xj6 x.1) fun y=>⟨[],[.cl .deep (.sl (.int .i64)) y]⟩
theorem Xj6.ok:Ycm Go.Proofs.Tryz.prog 155 Xj6.FS:=
 Ywp ⟨Go.Proofs.Tryz.f155,by kernel_rfl,by kernel_rfl,by kernel_rfl⟩ (fun blk off cap zs w h1 h2 h3=>Go.Proofs.AnyM.slices_Sort_int Go.Proofs.Tryz.Xoa blk off cap zs w h1 h2 h3) (fun p cap w=>Go.Proofs.AnyM.slices_Sort_int_none Go.Proofs.Tryz.Xoa p cap w)
noncomputable def Xfj (s:List Int):Option (List Int):=Yq8 s
noncomputable def Xfj.FS:FS:=Ycx [.sh] [.cl .sh (.sl (.int .i64))] (fun x=>Xfj x.1) fun y=>⟨[.cl .deep (.sl (.int .i64)) y],[]⟩
theorem Xfj.ok:Ycm Go.Proofs.Tryz.prog 66 Xfj.FS:=
 Yvq (hn:=⟨[],[],[],0⟩) Xf Xe (fn:=Go.Proofs.Tryz.f66) (by kernel_rfl) (Ygx (by kernel_rfl)) (by kernel_rfl) (by kernel_rfl) .deep (.int .i64) 29 29 2 (by kernel_rfl) (by kernel_rfl) (by kernel_rfl) (by kernel_rfl) (by kernel_rfl) (by kernel_rfl) (by kernel_rfl) (by kernel_rfl) (fun xs=>by kernel_rfl) (fun xs=>by kernel_rfl) (fun xs=>by kernel_rfl) (fun xs=>by kernel_rfl)
def Xbw.B (v5:Nat) (v6:Nat) (v4:Int) (v7:Int) (v8:List Int):Option ((Int×Int×List Int)⊕(Int×List Int)):=
 cond (decide (v7<(v6:Int))) (cond (inB v7 v6) (cond (inB (w64 (v7-1)) v6) ((some ((v8.getD (v5+v7.toNat) 0) != (v8.getD (v5+(w64 (v7-1)).toNat) 0))).bind fun v9=>cond v9 (cond (inB v7 v6) (cond (inB v4 v8.length) (some (.inl (w64 (v4+1),w64 (v7+1),v8.set v4.toNat (v8.getD (v5+v7.toNat) 0)))) none) none) (some (.inl (v4,w64 (v7+1),v8)))) none) none) (some (.inr (v4,v8)))
def Xbw (v5:Nat) (v6:Nat):(Int×Int×List Int)→Option (Int×List Int):=
 Yan fun s=>Xbw.B v5 v6 s.1 s.2.1 s.2.2
def Xa7.B (v:List Int) (v2:Int):Option (Int⊕(((Nat×Nat×List Int)⊕Unit))):=
 cond (decide (v2<(v.length:Int))) (cond (inB v2 v.length) (cond (inB (w64 (v2-1)) v.length) ((some ((v.getD v2.toNat 0) == (v.getD ((w64 (v2-1)).toNat) 0))).bind fun v3=>cond v3 (cond (decide ((0:Int)≤v2)&&decide (v2≤(v.length:Int))) ((Xbw v2.toNat (v.length-v2.toNat) (v2,1,v)).bind fun v10=>cond (decide ((0:Int)≤v10.1)&&decide (v10.1≤(v10.2.length:Int))) ((some (splice v10.2 v10.1.toNat (List.replicate (v10.2.length-v10.1.toNat) 0))).bind fun v11=>cond (decide ((0:Int)≤v10.1)&&decide (v10.1≤(v11.length:Int))) (some (.inr (.inl (0,v10.1.toNat-0,v11)))) none) none) none) (some (.inl (w64 (v2+1))))) none) none) (some (.inr (.inr ())))
def Xa7 (v:List Int):Int→Option (((Nat×Nat×List Int)⊕Unit)):=
 Yan fun s=>Xa7.B v s
def Xhw (v:List Int):Option (List Int):=
 cond (decide ((v.length:Int)<2)) (some v) ((Xa7 v 1).bind fun v12=>sel v12 (fun v13=>some ((v13.2.2.drop v13.1).take v13.2.1)) (fun v14=>some v))
namespace Xbw
noncomputable def c:=Yar (Yag Proofs.Tryz.f156) [1,1,0,1,0,0,1,0,0,1,0,1,0,1,0,0]
def sp:SP:=⟨[(0,.seg 0 []),(3,.cs I64),(4,.sub 0 []),(5,.cs I64)],[(0,.reg,.cd SI)]⟩
def fr:=Yja sp (fun x s=>Xbw.B x.1.2.2.1.2.1 x.1.2.2.1.2.2 s.1 s.2.1 s.2.2) (fun x=>(x.1.2.1,x.1.2.2.2.1,x.2.1)) fun x (bb0:Int×List Int) _ kk0=>kk0 (.ex 2) ⟨[(0,.seg 0 []),(3,.cs I64 bb0.1)],[sr 0 (.cd SI bb0.2)]⟩
theorem ok:Ya2 PR 61 1 (.loop c) fr:=
 Yw0 Xf Xe h0 [(2,([0,3],[0]))] (fun x s=>((x.1.1,s.1,x.1.2.2.1,s.2.1,x.1.2.2.2.2),(s.2.2,x.2.2)))
  (fun x s=>by simp only[B,mC,mB,mS,mO,mN];kernel_rfl)
end Xbw
namespace Xa7
noncomputable def c:=Yar (Yag Proofs.Tryz.f156) [1,1,0,1,0,0]
def sp:SP:=⟨[(0,.seg 0 []),(3,.cs I64)],[(0,.reg,.cd SI)]⟩
def fr:=Yja sp (fun x s=>Xa7.B x.2.1 s) (fun x=>x.1.2.1) fun x (oo0:((Nat×Nat×List Int)⊕Unit)) _ kk0=>sel oo0 (fun bb0=>kk0 (.rt) ⟨[(2,.sub 0 [] bb0.1 bb0.2.1)],[sr 0 (.cd SI bb0.2.2)]⟩) (fun cc0=>kk0 (.ex 0) ⟨[(0,.seg 0 [])],[sr 0 (.cd SI x.2.1)]⟩)
theorem ok:Ya2 PR 61 1 (.loop c) fr:=
 Yth Xf Xe h0 (.R (.L (.one (.R (.L (.R (.L (.R (.one (.fr 1)))))))))) (G:=(mkG [])) .nil (L:=mkL [(1,Xbw.fr)]) (l:=[(1,.loop Xbw.c)]) ⟨Lam.cons Xbw.ok,trivial⟩ [(0,([0],[0]))] ([2],[0]) (fun x s=>((x.1.1,s,x.1.2.2),x.2))
  (fun x s=>by simp only[B,mC,mB,mS,mO,mN];kernel_rfl)
end Xa7
namespace Xhw
def pts:List PT:=[.cd SI]
def FS:FS:=Ycx [.mv] pts (fun x=>Xhw x.1) fun t=>⟨[.cd SI t],[]⟩
theorem ok:Ycm PR 156 FS:=
 Yw7 Xf Xe Proofs.Tryz.f156 h0 (.R (.R (.L (.R (.one (.fr 0)))))) (G:=(mkG [])) .nil (L:=mkL [(1,Xbw.fr),(0,Xa7.fr)]) (l:=[(0,.loop Xa7.c)]) ⟨Lam.skip rfl (Lam.cons Xa7.ok),trivial⟩
  (fun x=>by simp only[Xhw,mC,mB,mS,mO,mN];kernel_rfl)
end Xhw
def Xdo.B (v:List Xb) (v2:Int) (v3:Int) (v4:List Int):Option ((Int×List Int)⊕(List Int)):=
 cond (decide (v3<v2)) (cond (inB v3 v.length) (cond (decide ((v4++(v.getD v3.toNat Xa).2.2.2.1).length≤2147483648)) (some (.inl (w64 (v3+1),v4++(v.getD v3.toNat Xa).2.2.2.1))) none) none) (some (.inr v4))
def Xdo (v:List Xb) (v2:Int):(Int×List Int)→Option (List Int):=
 Yan fun s=>Xdo.B v v2 s.1 s.2
def Xbx (v:List Xb):Option ((List Int)×Bool):=
 (Xdo v (v.length:Int) (0,[])).bind fun v5=>(Xj6 v5).bind fun v6=>(Xfj v6).bind fun v7=>(Xhw v7).bind fun v8=>some (v6,(v8.length:Int) == (v6.length:Int))
namespace Xbx
def G:Gam:=mkG [(155,Xj6.FS),(66,Xfj.FS),(156,Xhw.FS)]
theorem Gok:GOk PR G:=.cons Xj6.ok (.cons Xfj.ok (.cons Xhw.ok .nil))
end Xbx
namespace Xdo
noncomputable def c:=Yar (Yag Proofs.Tryz.f112) [1,1,0,1,0,0]
def sp:SP:=⟨[(4,.seg 4 []),(7,.cs (.sl Xd)),(8,.cs I64),(9,.cs I64)],[(4,.reg,.cd SI)]⟩
def fr:=Yja sp (fun x s=>Xdo.B x.1.2.1 x.1.2.2.1 s.1 s.2) (fun x=>(x.1.2.2.2.1,x.2.1)) fun x (bb0:List Int) _ kk0=>kk0 (.ex 0) ⟨[(4,.seg 4 [])],[sr 4 (.cd SI bb0)]⟩
theorem ok:Ya2 PR 28 1 (.loop c) fr:=
 Yw9 Xf Xe h0 (G:=Xbx.G) Xbx.Gok [(0,([4],[4]))] (fun x s=>((x.1.1,x.1.2.1,x.1.2.2.1,s.1,x.1.2.2.2.2),(s.2,x.2.2)))
  (fun x s=>by simp only[B,mC,mB,mS,mO,mN];kernel_rfl)
end Xdo
namespace Xbx
def pts:List PT:=[.cs (.sl Xd)]
def FS:FS:=Ycx [.sh] pts (fun x=>Xbx x.1) fun t=>⟨[.cd SI t.1,.cs .bool t.2],[]⟩
theorem ok:Ycm PR 112 FS:=
 Yw7 Xf Xe Proofs.Tryz.f112 h0 (.R (.R (.L (.R (.one (.fr 0)))))) (G:=G) Gok (L:=mkL [(0,Xdo.fr)]) (l:=[(0,.loop Xdo.c)]) ⟨Lam.cons Xdo.ok,trivial⟩
  (fun x=>by simp only[Xbx,mC,mB,mS,mO,mN];kernel_rfl)
end Xbx
def Xa1 (v:List Xb):Option Int:=
 some (v.length:Int)
namespace Xa1
def pts:List PT:=[.cs (.sl Xd)]
def FS:FS:=Ycx [.sh] pts (fun x=>Xa1 x.1) fun t=>⟨[.cs I64 t],[]⟩
theorem ok:Ycm PR 113 FS:=
 Yw7 Xf Xe Proofs.Tryz.f113 h0 .no (G:=(mkG [])) .nil (L:=mkL []) (l:=[]) hT
  (fun x=>by simp only[Xa1,mC,mB,mS,mO,mN];kernel_rfl)
end Xa1
def Xco.B (v:Fs_) (v5:List Xb) (v6:Int) (v7:Int) (v9:List Xg) (v8:Int) (v10:Int):Option (Int⊕((Int⊕Unit))):=
 cond (decide (v10<v8)) (cond (inB v10 v9.length) ((Xa1 v.1).bind fun v11=>(some (decide ((v9.getD v10.toNat Xk).2.1≥v11))).bind fun v12=>cond (cond (!v12) (inB (v9.getD v10.toNat Xk).2.1 v.1.length) true) ((some (cond v12 true ((v.1.getD (v9.getD v10.toNat Xk).2.1.toNat Xa).1 == 0))).bind fun v13=>cond v13 (some (.inr (.inl 4))) (some (.inl (w64 (v10+1))))) none) none) (some (.inr (.inr ())))
def Xco (v:Fs_) (v5:List Xb) (v6:Int) (v7:Int) (v9:List Xg) (v8:Int):Int→Option ((Int⊕Unit)):=
 Yan fun s=>Xco.B v v5 v6 v7 v9 v8 s
def Xfk.B (v:Fs_) (v5:List Xb) (v6:Int) (v7:Int):Option (Int⊕((Int⊕Unit))):=
 cond (decide (v7<v6)) (cond (inB v7 v5.length) ((some ((v5.getD v7.toNat Xa).2.2.2.2.1.length:Int)).bind fun v8=>(Xco v v5 v6 v7 (v5.getD v7.toNat Xa).2.2.2.2.1 v8 0).bind fun v14=>sel v14 (fun v15=>some (.inr (.inl v15))) (fun v16=>some (.inl (w64 (v7+1))))) none) (some (.inr (.inr ())))
def Xfk (v:Fs_) (v5:List Xb) (v6:Int):Int→Option ((Int⊕Unit)):=
 Yan fun s=>Xfk.B v v5 v6 s
def Xb6 (v:Fs_):Option Int:=
 (Xhu v).bind fun v2=>cond (v2 != 0) (some v2) ((Xhv v.2.1 ()).bind fun v3=>cond v3 (some 2) ((Xbx v.1).bind fun v4=>cond (!v4.2) (some 7) ((Xfk v v.1 (v.1.length:Int) 0).bind fun v17=>sel v17 (fun v18=>some v18) (fun v19=>some 0))))
namespace Xb6
def G:Gam:=mkG [(109,Xhu.FS),(110,Xhv.FS),(112,Xbx.FS),(113,Xa1.FS)]
theorem Gok:GOk PR G:=.cons Xhu.ok (.cons Xhv.ok (.cons Xbx.ok (.cons Xa1.ok .nil)))
end Xb6
namespace Xco
noncomputable def c:=Yar (Yag Proofs.Tryz.f59) [1,1,1,1,0,1,0,0,1,1,0,0,1,1,0,0]
def sp:SP:=⟨[(1,.pt Xh),(27,.cs (.sl Xd)),(28,.cs I64),(29,.cs I64),(34,.cs (.sl Xi)),(35,.cs I64),(36,.cs I64)],[]⟩
def fr:=Yja sp (fun x s=>Xco.B x.1.1 x.1.2.1 x.1.2.2.1 x.1.2.2.2.1 x.1.2.2.2.2.1 x.1.2.2.2.2.2.1 s) (fun x=>x.1.2.2.2.2.2.2.1) fun x (oo0:(Int⊕Unit)) _ kk0=>sel oo0 (fun bb0=>kk0 (.rt) ⟨[(2,.cs I64 bb0)],[]⟩) (fun cc0=>kk0 (.ex 2) ⟨[(1,.pt Xh x.1.1),(27,.cs (.sl Xd) x.1.2.1),(28,.cs I64 x.1.2.2.1),(29,.cs I64 x.1.2.2.2.1)],[]⟩)
theorem ok:Ya2 PR 58 1 (.loop c) fr:=
 Yth Xf Xe ⟨[1],[],[],0⟩ .no (G:=Xb6.G) Xb6.Gok (L:=mkL []) (l:=[]) hT [(2,([1,27,28,29],[]))] ([2],[]) (fun x s=>((x.1.1,x.1.2.1,x.1.2.2.1,x.1.2.2.2.1,x.1.2.2.2.2.1,x.1.2.2.2.2.2.1,s,x.1.2.2.2.2.2.2.2),x.2))
  (fun x s=>by simp only[B,mC,mB,mS,mO,mN];kernel_rfl)
end Xco
namespace Xfk
noncomputable def c:=Yar (Yag Proofs.Tryz.f59) [1,1,1,1,0,1,0,0]
def sp:SP:=⟨[(1,.pt Xh),(27,.cs (.sl Xd)),(28,.cs I64),(29,.cs I64)],[]⟩
def fr:=Yja sp (fun x s=>Xfk.B x.1.1 x.1.2.1 x.1.2.2.1 s) (fun x=>x.1.2.2.2.1) fun x (oo0:(Int⊕Unit)) _ kk0=>sel oo0 (fun bb0=>kk0 (.rt) ⟨[(2,.cs I64 bb0)],[]⟩) (fun cc0=>kk0 (.ex 0) ⟨[],[]⟩)
theorem ok:Ya2 PR 58 1 (.loop c) fr:=
 Yth Xf Xe ⟨[1],[],[],0⟩ (.R (.R (.L (.one (.R (.R (.one (.fr 1)))))))) (G:=Xb6.G) Xb6.Gok (L:=mkL [(1,Xco.fr)]) (l:=[(1,.loop Xco.c)]) ⟨Lam.cons Xco.ok,trivial⟩ [(0,([],[]))] ([2],[]) (fun x s=>((x.1.1,x.1.2.1,x.1.2.2.1,s,x.1.2.2.2.2),x.2))
  (fun x s=>by simp only[B,mC,mB,mS,mO,mN];kernel_rfl)
end Xfk
namespace Xb6
def pts:List PT:=[.cs Xh]
def FS:FS:=Ycx [.sh] pts (fun x=>Xb6 x.1) fun t=>⟨[.cs I64 t],[]⟩
theorem ok:Ycm PR 59 FS:=
 Yw7 Xf Xe Proofs.Tryz.f59 ⟨[1],[],[],0⟩ (.R (.R (.R (.R (.L (.R (.one (.fr 0)))))))) (G:=G) Gok (L:=mkL [(1,Xco.fr),(0,Xfk.fr)]) (l:=[(0,.loop Xfk.c)]) ⟨Lam.skip rfl (Lam.cons Xfk.ok),trivial⟩
  (fun x=>by simp only[Xb6,mC,mB,mS,mO,mN];kernel_rfl)
end Xb6
def Xcp.B (v:List Xb) (v8:List Xg) (v9:Int) (v7:List Bool) (v10:Int) (v11:List Int):Option ((Int×List Int)⊕(List Int)):=
 cond (decide (v10<v9)) (cond (inB v10 v8.length) (cond (decide ((v11++([(v8.getD v10.toNat Xk).2.1])).length≤2147483648)) (some (.inl (w64 (v10+1),v11++([(v8.getD v10.toNat Xk).2.1])))) none) none) (some (.inr v11))
def Xcp (v:List Xb) (v8:List Xg) (v9:Int) (v7:List Bool):(Int×List Int)→Option (List Int):=
 Yan fun s=>Xcp.B v v8 v9 v7 s.1 s.2
def Xbm.B (v:List Xb) (v3:List Bool) (v4:List Int):Option (((List Bool)×List Int)⊕(List Bool)):=
 cond (decide ((v4.length:Int)>0)) (cond (inB (w64 ((v4.length:Int)-1)) v4.length) (cond (decide ((0:Int)≤(w64 ((v4.length:Int)-1)))&&decide ((w64 ((v4.length:Int)-1))≤(v4.length:Int))) ((some ((v4.drop 0).take (((w64 ((v4.length:Int)-1)).toNat)-0))).bind fun v5=>cond (inB (v4.getD ((w64 ((v4.length:Int)-1)).toNat) 0) v3.length) ((some (v3.getD ((v4.getD ((w64 ((v4.length:Int)-1)).toNat) 0).toNat) false)).bind fun v6=>cond v6 (some (.inl (v3,v5))) (cond (inB (v4.getD ((w64 ((v4.length:Int)-1)).toNat) 0) v3.length) ((some (v3.set ((v4.getD ((w64 ((v4.length:Int)-1)).toNat) 0).toNat) true)).bind fun v7=>cond (inB (v4.getD ((w64 ((v4.length:Int)-1)).toNat) 0) v.length) ((some (v.getD (v4.getD ((w64 ((v4.length:Int)-1)).toNat) 0).toNat Xa).2.2.2.2.1).bind fun v8=>(Xcp v v8 (v8.length:Int) v7 (0,v5)).bind fun v12=>some (.inl (v7,v12))) none) none)) none) none) none) (some (.inr v3))
def Xbm (v:List Xb):((List Bool)×List Int)→Option (List Bool):=
 Yan fun s=>Xbm.B v s.1 s.2
def Xdp.B (v14:Int) (v13:List Bool) (v15:Int) (v16:List Int):Option ((Int×List Int)⊕(List Int)):=
 cond (decide (v15<v14)) (cond (inB v15 v13.length) (cond (v13.getD v15.toNat false) (cond (decide ((v16++([v15])).length≤2147483648)) (some (.inl (w64 (v15+1),v16++([v15])))) none) (some (.inl (w64 (v15+1),v16)))) none) (some (.inr v16))
def Xdp (v14:Int) (v13:List Bool):(Int×List Int)→Option (List Int):=
 Yan fun s=>Xdp.B v14 v13 s.1 s.2
def Xcq (v:List Xb) (v2:Int):Option (List Int):=
 cond (decide ((0:Int)≤(v.length:Int))&&(decide ((v.length:Int)≤(v.length:Int))&&decide ((v.length:Int)≤2147483648))) ((Xbm v (List.replicate (v.length:Int).toNat false,[v2])).bind fun v13=>(Xdp (v13.length:Int) v13 (0,[])).bind fun v17=>some v17) none
namespace Xcp
noncomputable def c:=Yar (Yag Proofs.Tryz.f114) [1,1,1,0,0,0,1,0,1,1,1,1,1,0,0]
def sp:SP:=⟨[(0,.cs (.sl Xd)),(5,.seg 5 []),(6,.seg 6 []),(43,.cs (.sl Xi)),(44,.cs I64),(45,.cs I64)],[(5,.reg,.cd (.sl .bool)),(6,.reg,.cd SI)]⟩
def fr:=Yja sp (fun x s=>Xcp.B x.1.1 x.1.2.2.2.1 x.1.2.2.2.2.1 x.2.1 s.1 s.2) (fun x=>(x.1.2.2.2.2.2.1,x.2.2.1)) fun x (bb0:List Int) _ kk0=>kk0 (.ex 2) ⟨[(0,.cs (.sl Xd) x.1.1),(5,.seg 5 []),(6,.seg 6 [])],[sr 5 (.cd (.sl .bool) x.2.1),sr 6 (.cd SI bb0)]⟩
theorem ok:Ya2 PR 69 2 (.loop c) fr:=
 Yw0 Xf Xe h0 [(2,([0,5,6],[5,6]))] (fun x s=>((x.1.1,x.1.2.1,x.1.2.2.1,x.1.2.2.2.1,x.1.2.2.2.2.1,s.1,x.1.2.2.2.2.2.2),(x.2.1,s.2,x.2.2.2)))
  (fun x s=>by simp only[B,mC,mB,mS,mO,mN];kernel_rfl)
end Xcp
namespace Xbm
noncomputable def c:=Yar (Yag Proofs.Tryz.f114) [1,1,1,0,0,0]
def sp:SP:=⟨[(0,.cs (.sl Xd)),(5,.seg 5 []),(6,.seg 6 [])],[(5,.reg,.cd (.sl .bool)),(6,.reg,.cd SI)]⟩
def fr:=Yja sp (fun x s=>Xbm.B x.1.1 s.1 s.2) (fun x=>(x.2.1,x.2.2.1)) fun x (bb0:List Bool) _ kk0=>kk0 (.ex 0) ⟨[(5,.seg 5 [])],[sr 5 (.cd (.sl .bool) bb0)]⟩
theorem ok:Ya2 PR 69 2 (.loop c) fr:=
 Yw8 Xf Xe h0 (.R (.one (.R (.R (.R (.R (.R (.one (.fr 1))))))))) (L:=mkL [(1,Xcp.fr)]) (l:=[(1,.loop Xcp.c)]) ⟨Lam.cons Xcp.ok,trivial⟩ [(0,([5],[5]))] (fun x s=>(x.1,(s.1,s.2,x.2.2.2)))
  (fun x s=>by simp only[B,mC,mB,mS,mO,mN];kernel_rfl)
end Xbm
namespace Xdp
noncomputable def c:=Yar (Yag Proofs.Tryz.f114) [1,1,1,1,1,0,1,0,0]
def sp:SP:=⟨[(10,.seg 10 []),(55,.seg 5 []),(56,.cs I64),(57,.cs I64)],[(5,.reg,.cd (.sl .bool)),(10,.reg,.cd SI)]⟩
def fr:=Yja sp (fun x s=>Xdp.B x.1.2.2.1 x.2.1 s.1 s.2) (fun x=>(x.1.2.2.2.1,x.2.2.1)) fun x (bb0:List Int) _ kk0=>kk0 (.ex 4) ⟨[(10,.seg 10 [])],[sr 10 (.cd SI bb0)]⟩
theorem ok:Ya2 PR 69 2 (.loop c) fr:=
 Yw0 Xf Xe h0 [(4,([10],[10]))] (fun x s=>((x.1.1,x.1.2.1,x.1.2.2.1,s.1,x.1.2.2.2.2),(x.2.1,s.2,x.2.2.2)))
  (fun x s=>by simp only[B,mC,mB,mS,mO,mN];kernel_rfl)
end Xdp
namespace Xcq
def pts:List PT:=[.cs (.sl Xd),.cs I64]
def FS:FS:=Ycx [.sh,.sh] pts (fun x=>Xcq x.1 x.2.1) fun t=>⟨[.cd SI t],[]⟩
theorem ok:Ycm PR 114 FS:=
 Yw7 Xf Xe Proofs.Tryz.f114 h0 (.R (.R (.R (.two (.one (.fr 0)) (.R (.L (.R (.one (.fr 2))))))))) (G:=(mkG [])) .nil (L:=mkL [(1,Xcp.fr),(0,Xbm.fr),(2,Xdp.fr)]) (l:=[(0,.loop Xbm.c),(2,.loop Xdp.c)]) ⟨Lam.skip rfl (Lam.cons Xbm.ok),Lam.skip rfl (Lam.skip rfl (Lam.cons Xdp.ok)),trivial⟩
  (fun x=>by simp only[Xcq,mC,mB,mS,mO,mN];kernel_rfl)
end Xcq
def Xcr.B (v2:Int) (v:List Xb) (v4:Int) (v5:Int) (v8:List Xg) (v6:Int) (v7:Int) (v9:Int):Option ((Int×Int)⊕Int):=
 cond (decide (v9<v6)) (cond (inB v9 v8.length) (cond ((v8.getD v9.toNat Xk).2.1 == v2) (some (.inl (w64 (v7+1),w64 (v9+1)))) (some (.inl (v7,w64 (v9+1))))) none) (some (.inr v7))
def Xcr (v2:Int) (v:List Xb) (v4:Int) (v5:Int) (v8:List Xg) (v6:Int):(Int×Int)→Option Int:=
 Yan fun s=>Xcr.B v2 v v4 v5 v8 v6 s.1 s.2
def Xdq.B (v2:Int) (v:List Xb) (v4:Int) (v3:Int) (v5:Int):Option ((Int×Int)⊕Int):=
 cond (decide (v5<v4)) (cond (inB v5 v.length) ((some ((v.getD v5.toNat Xa).2.2.2.2.1.length:Int)).bind fun v6=>(Xcr v2 v v4 v5 (v.getD v5.toNat Xa).2.2.2.2.1 v6 (v3,0)).bind fun v10=>some (.inl (v10,w64 (v5+1)))) none) (some (.inr v3))
def Xdq (v2:Int) (v:List Xb) (v4:Int):(Int×Int)→Option Int:=
 Yan fun s=>Xdq.B v2 v v4 s.1 s.2
def Xdr (v:List Xb) (v2:Int):Option Int:=
 (Xdq v2 v (v.length:Int) (0,0)).bind fun v11=>some v11
namespace Xcr
noncomputable def c:=Yar (Yag Proofs.Tryz.f115) [1,1,0,1,0,0,1,1,0,0,1,1,0,0]
def sp:SP:=⟨[(1,.cs I64),(5,.cs I64),(10,.cs (.sl Xd)),(11,.cs I64),(12,.cs I64),(17,.cs (.sl Xi)),(18,.cs I64),(19,.cs I64)],[]⟩
def fr:=Yja sp (fun x s=>Xcr.B x.1.1 x.1.2.2.1 x.1.2.2.2.1 x.1.2.2.2.2.1 x.1.2.2.2.2.2.1 x.1.2.2.2.2.2.2.1 s.1 s.2) (fun x=>(x.1.2.1,x.1.2.2.2.2.2.2.2.1)) fun x (bb0:Int) _ kk0=>kk0 (.ex 2) ⟨[(1,.cs I64 x.1.1),(5,.cs I64 bb0),(10,.cs (.sl Xd) x.1.2.2.1),(11,.cs I64 x.1.2.2.2.1),(12,.cs I64 x.1.2.2.2.2.1)],[]⟩
theorem ok:Ya2 PR 32 2 (.loop c) fr:=
 Yw0 Xf Xe h0 [(2,([1,5,10,11,12],[]))] (fun x s=>((x.1.1,s.1,x.1.2.2.1,x.1.2.2.2.1,x.1.2.2.2.2.1,x.1.2.2.2.2.2.1,x.1.2.2.2.2.2.2.1,s.2,x.1.2.2.2.2.2.2.2.2),x.2))
  (fun x s=>by simp only[B,mC,mB,mS,mO,mN];kernel_rfl)
end Xcr
namespace Xdq
noncomputable def c:=Yar (Yag Proofs.Tryz.f115) [1,1,0,1,0,0]
def sp:SP:=⟨[(1,.cs I64),(5,.cs I64),(10,.cs (.sl Xd)),(11,.cs I64),(12,.cs I64)],[]⟩
def fr:=Yja sp (fun x s=>Xdq.B x.1.1 x.1.2.2.1 x.1.2.2.2.1 s.1 s.2) (fun x=>(x.1.2.1,x.1.2.2.2.2.1)) fun x (bb0:Int) _ kk0=>kk0 (.ex 0) ⟨[(5,.cs I64 bb0)],[]⟩
theorem ok:Ya2 PR 32 2 (.loop c) fr:=
 Yw8 Xf Xe h0 (.R (.R (.L (.one (.R (.R (.one (.fr 1)))))))) (L:=mkL [(1,Xcr.fr)]) (l:=[(1,.loop Xcr.c)]) ⟨Lam.cons Xcr.ok,trivial⟩ [(0,([5],[]))] (fun x s=>((x.1.1,s.1,x.1.2.2.1,x.1.2.2.2.1,s.2,x.1.2.2.2.2.2),x.2))
  (fun x s=>by simp only[B,mC,mB,mS,mO,mN];kernel_rfl)
end Xdq
namespace Xdr
def pts:List PT:=[.cs (.sl Xd),.cs I64]
def FS:FS:=Ycx [.sh,.sh] pts (fun x=>Xdr x.1 x.2.1) fun t=>⟨[.cs I64 t],[]⟩
theorem ok:Ycm PR 115 FS:=
 Yw7 Xf Xe Proofs.Tryz.f115 h0 (.R (.R (.L (.R (.one (.fr 0)))))) (G:=(mkG [])) .nil (L:=mkL [(1,Xcr.fr),(0,Xdq.fr)]) (l:=[(0,.loop Xdq.c)]) ⟨Lam.skip rfl (Lam.cons Xdq.ok),trivial⟩
  (fun x=>by simp only[Xdr,mC,mB,mS,mO,mN];kernel_rfl)
end Xdr
def Xfl.B (v:Fs_) (v3:List Xb) (v4:Int) (v2:List Int) (v5:Int):Option (Int⊕((Int⊕Unit))):=
 cond (decide (v5<v4)) (cond (inB v5 v3.length) ((Xdr v.1 v5).bind fun v6=>(some (cond ((v3.getD v5.toNat Xa).1 == 1) ((v3.getD v5.toNat Xa).2.1 != v6) false)).bind fun v7=>cond v7 (some (.inr (.inl 1))) ((some (cond ((v3.getD v5.toNat Xa).1 == 2) (v5 == 0) false)).bind fun v8=>cond (cond v8 (v6 != 0) false) (some (.inr (.inl 1))) ((some (cond ((v3.getD v5.toNat Xa).1 == 2) (decide (v5>0)) false)).bind fun v9=>cond (cond v9 (v6 != 1) false) (some (.inr (.inl 1))) (cond ((v3.getD v5.toNat Xa).1 != 0) ((Xa4 v2 v5).bind fun v10=>cond (!v10) (some (.inr (.inl 1))) (some (.inl (w64 (v5+1))))) (some (.inl (w64 (v5+1)))))))) none) (some (.inr (.inr ())))
def Xfl (v:Fs_) (v3:List Xb) (v4:Int) (v2:List Int):Int→Option ((Int⊕Unit)):=
 Yan fun s=>Xfl.B v v3 v4 v2 s
def Xds (v:Fs_):Option Int:=
 (Xcq v.1 0).bind fun v2=>(Xfl v v.1 (v.1.length:Int) v2 0).bind fun v11=>sel v11 (fun v12=>some v12) (fun v13=>some 0)
namespace Xds
def G:Gam:=mkG [(114,Xcq.FS),(115,Xdr.FS),(116,Xa4.FS)]
theorem Gok:GOk PR G:=.cons Xcq.ok (.cons Xdr.ok (.cons Xa4.ok .nil))
end Xds
namespace Xfl
noncomputable def c:=Yar (Yag Proofs.Tryz.f60) [1,1,0,1,0,0]
def sp:SP:=⟨[(1,.pt Xh),(3,.seg 3 []),(12,.cs (.sl Xd)),(13,.cs I64),(14,.cs I64)],[(3,.reg,.cd SI)]⟩
def fr:=Yja sp (fun x s=>Xfl.B x.1.1 x.1.2.2.1 x.1.2.2.2.1 x.2.1 s) (fun x=>x.1.2.2.2.2.1) fun x (oo0:(Int⊕Unit)) _ kk0=>sel oo0 (fun bb0=>kk0 (.rt) ⟨[(2,.cs I64 bb0)],[]⟩) (fun cc0=>kk0 (.ex 0) ⟨[],[]⟩)
theorem ok:Ya2 PR 66 1 (.loop c) fr:=
 Yth Xf Xe ⟨[1],[],[],0⟩ .no (G:=Xds.G) Xds.Gok (L:=mkL []) (l:=[]) hT [(0,([],[]))] ([2],[]) (fun x s=>((x.1.1,x.1.2.1,x.1.2.2.1,x.1.2.2.2.1,s,x.1.2.2.2.2.2),x.2))
  (fun x s=>by simp only[B,mC,mB,mS,mO,mN];kernel_rfl)
end Xfl
namespace Xds
def pts:List PT:=[.cs Xh]
def FS:FS:=Ycx [.sh] pts (fun x=>Xds x.1) fun t=>⟨[.cs I64 t],[]⟩
theorem ok:Ycm PR 60 FS:=
 Yw7 Xf Xe Proofs.Tryz.f60 ⟨[1],[],[],0⟩ (.R (.R (.L (.R (.one (.fr 0)))))) (G:=G) Gok (L:=mkL [(0,Xfl.fr)]) (l:=[(0,.loop Xfl.c)]) ⟨Lam.cons Xfl.ok,trivial⟩
  (fun x=>by simp only[Xds,mC,mB,mS,mO,mN];kernel_rfl)
end Xds
def Xcs.B (v:List Xb) (v2:Int) (v3:Int) (v7:List Int) (v6:Int) (v4:List Int) (v10:Xb) (v8:Int) (v9:List Int):Option ((Int×List Int)⊕(List Int)):=
 cond (decide (v8<v6)) (cond (inB v8 v7.length) ((some (cond (decide ((w64 (v10.2.2.1-(w64 (v8*8))))<8)) (w64 (v10.2.2.1-(w64 (v8*8)))) 8)).bind fun v11=>cond (inB (v7.getD v8.toNat 0) 20) (some (.inl (w64 (v8+1),v9.set ((v7.getD v8.toNat 0).toNat) v11))) none) none) (some (.inr v9))
def Xcs (v:List Xb) (v2:Int) (v3:Int) (v7:List Int) (v6:Int) (v4:List Int) (v10:Xb):(Int×List Int)→Option (List Int):=
 Yan fun s=>Xcs.B v v2 v3 v7 v6 v4 v10 s.1 s.2
def Xdt.B (v:List Xb) (v2:Int) (v4:List Int) (v3:Int) (v5:List Int):Option ((Int×List Int)⊕(List Int)):=
 cond (decide (v3<v2)) (cond (inB v3 v.length) ((some ((v.getD v3.toNat Xa).2.2.2.1.length:Int)).bind fun v6=>(Xcs v v2 v3 (v.getD v3.toNat Xa).2.2.2.1 v6 v4 (v.getD v3.toNat Xa) (0,v5)).bind fun v12=>some (.inl (w64 (v3+1),v12))) none) (some (.inr v5))
def Xdt (v:List Xb) (v2:Int) (v4:List Int):(Int×List Int)→Option (List Int):=
 Yan fun s=>Xdt.B v v2 v4 s.1 s.2
def Xhx (v:List Xb):Option (List Int):=
 (Xdt v (v.length:Int) (List.replicate 20 0) (0,(List.replicate 20 0))).bind fun v13=>some v13
namespace Xcs
noncomputable def c:=Yar (Yag Proofs.Tryz.f117) [1,1,0,1,0,0,1,1,0,0,1,1,0,0]
def sp:SP:=⟨[(2,.loc 2 []),(3,.loc 3 []),(5,.loc 5 []),(8,.cs (.sl Xd)),(9,.cs I64),(10,.cs I64),(15,.cs SI),(16,.cs I64),(17,.cs I64)],[(2,.mem,.cd (.arr 20 I64)),(3,.mem,.cd (.arr 20 I64)),(5,.mem,.cs Xd)]⟩
def fr:=Yja sp (fun x s=>Xcs.B x.1.2.2.2.1 x.1.2.2.2.2.1 x.1.2.2.2.2.2.1 x.1.2.2.2.2.2.2.1 x.1.2.2.2.2.2.2.2.1 x.2.1 x.2.2.2.1 s.1 s.2) (fun x=>(x.1.2.2.2.2.2.2.2.2.1,x.2.2.1)) fun x (bb0:List Int) _ kk0=>kk0 (.ex 2) ⟨[(2,.loc 2 []),(3,.loc 3 []),(8,.cs (.sl Xd) x.1.2.2.2.1),(9,.cs I64 x.1.2.2.2.2.1),(10,.cs I64 x.1.2.2.2.2.2.1)],[(2,some ⟨.mem,.cd (.arr 20 I64) x.2.1⟩),(3,some ⟨.mem,.cd (.arr 20 I64) bb0⟩)]⟩
theorem ok:Ya2 PR 33 1 (.loop c) fr:=
 Yw0 Xf Xe h0 [(2,([2,3,8,9,10],[2,3]))] (fun x s=>((x.1.1,x.1.2.1,x.1.2.2.1,x.1.2.2.2.1,x.1.2.2.2.2.1,x.1.2.2.2.2.2.1,x.1.2.2.2.2.2.2.1,x.1.2.2.2.2.2.2.2.1,s.1,x.1.2.2.2.2.2.2.2.2.2),(x.2.1,s.2,x.2.2.2)))
  (fun x s=>by simp only[B,mC,mB,mS,mO,mN];kernel_rfl)
end Xcs
namespace Xdt
noncomputable def c:=Yar (Yag Proofs.Tryz.f117) [1,1,0,1,0,0]
def sp:SP:=⟨[(2,.loc 2 []),(3,.loc 3 []),(8,.cs (.sl Xd)),(9,.cs I64),(10,.cs I64)],[(2,.mem,.cd (.arr 20 I64)),(3,.mem,.cd (.arr 20 I64))]⟩
def fr:=Yja sp (fun x s=>Xdt.B x.1.2.2.1 x.1.2.2.2.1 x.2.1 s.1 s.2) (fun x=>(x.1.2.2.2.2.1,x.2.2.1)) fun x (bb0:List Int) _ kk0=>kk0 (.ex 0) ⟨[(2,.loc 2 []),(3,.loc 3 [])],[(2,some ⟨.mem,.cd (.arr 20 I64) x.2.1⟩),(3,some ⟨.mem,.cd (.arr 20 I64) bb0⟩)]⟩
theorem ok:Ya2 PR 33 1 (.loop c) fr:=
 Yw8 Xf Xe h0 (.R (.R (.L (.one (.R (.R (.one (.fr 1)))))))) (L:=mkL [(1,Xcs.fr)]) (l:=[(1,.loop Xcs.c)]) ⟨Lam.cons Xcs.ok,trivial⟩ [(0,([2,3],[2,3]))] (fun x s=>((x.1.1,x.1.2.1,x.1.2.2.1,x.1.2.2.2.1,s.1,x.1.2.2.2.2.2),(x.2.1,s.2,x.2.2.2)))
  (fun x s=>by simp only[B,mC,mB,mS,mO,mN];kernel_rfl)
end Xdt
namespace Xhx
def pts:List PT:=[.cs (.sl Xd)]
def FS:FS:=Ycx [.sh] pts (fun x=>Xhx x.1) fun t=>⟨[.cs (.arr 20 I64) t],[]⟩
theorem ok:Ycm PR 117 FS:=
 Yw7 Xf Xe Proofs.Tryz.f117 h0 (.R (.R (.L (.R (.one (.fr 0)))))) (G:=(mkG [])) .nil (L:=mkL [(1,Xcs.fr),(0,Xdt.fr)]) (l:=[(0,.loop Xdt.c)]) ⟨Lam.skip rfl (Lam.cons Xdt.ok),trivial⟩
  (fun x=>by simp only[Xhx,mC,mB,mS,mO,mN];kernel_rfl)
end Xhx
def Xaa (v:List Int):Option Int:=
 some (v.length:Int)
namespace Xaa
def pts:List PT:=[.cs SB]
def FS:FS:=Ycx [.sh] pts (fun x=>Xaa x.1) fun t=>⟨[.cs I64 t],[]⟩
theorem ok:Ycm PR 118 FS:=
 Yw7 Xf Xe Proofs.Tryz.f118 h0 .no (G:=(mkG [])) .nil (L:=mkL []) (l:=[]) hT
  (fun x=>by simp only[Xaa,mC,mB,mS,mO,mN];kernel_rfl)
end Xaa
def Xf6.B (v:Fs_) (v2:List Int) (v3:Int):Option (Int⊕((Int⊕Unit))):=
 cond (decide (v3<20)) (cond (inB v3 20) (cond (inB v3 v.2.1.length) ((Xaa (v.2.1.getD v3.toNat [])).bind fun v4=>cond (v4 != (v2.getD v3.toNat 0)) (some (.inr (.inl 1))) (some (.inl (w64 (v3+1))))) none) none) (some (.inr (.inr ())))
def Xf6 (v:Fs_) (v2:List Int):Int→Option ((Int⊕Unit)):=
 Yan fun s=>Xf6.B v v2 s
def Xdu (v:Fs_):Option Int:=
 (Xhx v.1).bind fun v2=>(Xf6 v v2 0).bind fun v5=>sel v5 (fun v6=>some v6) (fun v7=>some 0)
namespace Xdu
def G:Gam:=mkG [(117,Xhx.FS),(118,Xaa.FS)]
theorem Gok:GOk PR G:=.cons Xhx.ok (.cons Xaa.ok .nil)
end Xdu
namespace Xf6
noncomputable def c:=Yar (Yag Proofs.Tryz.f61) [1,0,1,0,0]
def sp:SP:=⟨[(1,.pt Xh),(7,.cs (.arr 20 I64)),(8,.cs I64)],[]⟩
def fr:=Yja sp (fun x s=>Xf6.B x.1.1 x.1.2.1 s) (fun x=>x.1.2.2.1) fun x (oo0:(Int⊕Unit)) _ kk0=>sel oo0 (fun bb0=>kk0 (.rt) ⟨[(2,.cs I64 bb0)],[]⟩) (fun cc0=>kk0 (.ex 0) ⟨[],[]⟩)
theorem ok:Ya2 PR 21 1 (.loop c) fr:=
 Yth Xf Xe ⟨[1],[],[],0⟩ .no (G:=Xdu.G) Xdu.Gok (L:=mkL []) (l:=[]) hT [(0,([],[]))] ([2],[]) (fun x s=>((x.1.1,x.1.2.1,s,x.1.2.2.2),x.2))
  (fun x s=>by simp only[B,mC,mB,mS,mO,mN];kernel_rfl)
end Xf6
namespace Xdu
def pts:List PT:=[.cs Xh]
def FS:FS:=Ycx [.sh] pts (fun x=>Xdu x.1) fun t=>⟨[.cs I64 t],[]⟩
theorem ok:Ycm PR 61 FS:=
 Yw7 Xf Xe Proofs.Tryz.f61 ⟨[1],[],[],0⟩ (.R (.L (.R (.one (.fr 0))))) (G:=G) Gok (L:=mkL [(0,Xf6.fr)]) (l:=[(0,.loop Xf6.c)]) ⟨Lam.cons Xf6.ok,trivial⟩
  (fun x=>by simp only[Xdu,mC,mB,mS,mO,mN];kernel_rfl)
end Xdu
def Xhy (v:Fs_):Option Int:=
 (Xb6 v).bind fun v2=>cond (v2 != 0) (some v2) ((Xds v).bind fun v3=>cond (v3 != 0) (some v3) ((Xdu v).bind fun v4=>some v4))
namespace Xhy
def G:Gam:=mkG [(59,Xb6.FS),(60,Xds.FS),(61,Xdu.FS)]
def pts:List PT:=[.cs Xh]
def FS:FS:=Ycx [.sh] pts (fun x=>Xhy x.1) fun t=>⟨[.cs I64 t],[]⟩
theorem ok:Ycm PR 30 FS:=
 Yw7 Xf Xe Proofs.Tryz.f30 ⟨[1],[],[],0⟩ .no (G:=G) (show GOk PR G from .cons Xb6.ok (.cons Xds.ok (.cons Xdu.ok .nil))) (L:=mkL []) (l:=[]) hT
  (fun x=>by simp only[Xhy,mC,mB,mS,mO,mN];kernel_rfl)
end Xhy
def Xhz (v:Xap):Option Int:=
 (X0 v.1 1 11).bind fun v2=>cond (!v2) (some 1) ((some (cond (!(cond (v.1 == 8) true (v.1 == 9))) (!(v.2.2.1 == ([]:List UInt8))) false)).bind fun v3=>cond v3 (some 1) ((some (cond (!(cond (v.1 == 3) true (v.1 == 4))) (v.2.2.2.1 != 0) false)).bind fun v4=>cond v4 (some 1) ((some (cond (!(cond (v.1 == 4) true (v.1 == 5))) (v.2.2.2.2.1 != 0) false)).bind fun v5=>cond v5 (some 1) ((some (cond (v.1 != 3) (decide ((v.2.2.2.2.2.1.length:Int)>0)) false)).bind fun v6=>cond v6 (some 1) (cond (decide ((v.2.2.2.2.2.1.length:Int)>40)) (some 2) (some 0))))))
namespace Xhz
def G:Gam:=mkG [(62,X0.FS)]
def pts:List PT:=[.cs Xv]
def FS:FS:=Ycx [.sh] pts (fun x=>Xhz x.1) fun t=>⟨[.cs I64 t],[]⟩
theorem ok:Ycm PR 31 FS:=
 Yw7 Xf Xe Proofs.Tryz.f31 ⟨[1],[],[],0⟩ .no (G:=G) (show GOk PR G from .cons X0.ok .nil) (L:=mkL []) (l:=[]) hT
  (fun x=>by simp only[Xhz,mC,mB,mS,mO,mN];kernel_rfl)
end Xhz
def Xj7 (v:Int):Option Bool:=
 (X0 v 0 19).bind fun v2=>some (!v2)
namespace Xj7
def G:Gam:=mkG [(62,X0.FS)]
def pts:List PT:=[.cs I64]
def FS:FS:=Ycx [.sh] pts (fun x=>Xj7 x.1) fun t=>⟨[.cs .bool t],[]⟩
theorem ok:Ycm PR 64 FS:=
 Yw7 Xf Xe Proofs.Tryz.f64 h0 .no (G:=G) (show GOk PR G from .cons X0.ok .nil) (L:=mkL []) (l:=[]) hT
  (fun x=>by simp only[Xj7,mC,mB,mS,mO,mN];kernel_rfl)
end Xj7
def Xfm.B (v:List Int) (v2:Unit) (v3:Int) (v4:Int):Option (Int⊕((Int⊕Unit))):=
 cond (decide (v4<v3)) (cond (inB v4 v.length) ((Xj7 (v.getD v4.toNat 0)).bind fun v5=>cond v5 (some (.inr (.inl v4))) (some (.inl (w64 (v4+1))))) none) (some (.inr (.inr ())))
def Xfm (v:List Int) (v2:Unit) (v3:Int):Int→Option ((Int⊕Unit)):=
 Yan fun s=>Xfm.B v v2 v3 s
def Xfn (v:List Int) (v2:Unit):Option Int:=
 (Xfm v v2 (v.length:Int) 0).bind fun v6=>sel v6 (fun v7=>some v7) (fun v8=>some (-1))
namespace Xfn
def G:Gam:=mkG [(64,Xj7.FS)]
theorem Gok:GOk PR G:=.cons Xj7.ok .nil
end Xfn
namespace Xfm
noncomputable def c:=Yar (Yag Proofs.Tryz.f119) [1,0,1,0,0]
def sp:SP:=⟨[(0,.cs SI),(1,.clo 64 (.cs .unit)),(7,.cs I64),(8,.cs I64)],[]⟩
def fr:=Yja sp (fun x s=>Xfm.B x.1.1 x.1.2.1 x.1.2.2.1 s) (fun x=>x.1.2.2.2.1) fun x (oo0:(Int⊕Unit)) _ kk0=>sel oo0 (fun bb0=>kk0 (.rt) ⟨[(4,.cs I64 bb0)],[]⟩) (fun cc0=>kk0 (.ex 0) ⟨[],[]⟩)
theorem ok:Ya2 PR 19 2 (.loop c) fr:=
 Yth Xf Xe h0 .no (G:=Xfn.G) Xfn.Gok (L:=mkL []) (l:=[]) hT [(0,([],[]))] ([4],[]) (fun x s=>((x.1.1,x.1.2.1,x.1.2.2.1,s,x.1.2.2.2.2),x.2))
  (fun x s=>by simp only[B,mC,mB,mS,mO,mN];kernel_rfl)
end Xfm
namespace Xfn
def pts:List PT:=[.cs SI,.clo 64 (.cs .unit)]
def FS:FS:=Ycx [.sh,.sh] pts (fun x=>Xfn x.1 x.2.1) fun t=>⟨[.cs I64 t],[]⟩
theorem ok:Ycm PR 119 FS:=
 Yw7 Xf Xe Proofs.Tryz.f119 h0 (.R (.L (.R (.one (.fr 0))))) (G:=G) Gok (L:=mkL [(0,Xfm.fr)]) (l:=[(0,.loop Xfm.c)]) ⟨Lam.cons Xfm.ok,trivial⟩
  (fun x=>by simp only[Xfn,mC,mB,mS,mO,mN];kernel_rfl)
end Xfn
def Xh0 (v:List Int) (v2:Unit):Option Bool:=
 (Xfn v v2).bind fun v3=>some (decide (v3≥0))
namespace Xh0
def G:Gam:=mkG [(119,Xfn.FS)]
def pts:List PT:=[.cs SI,.clo 64 (.cs .unit)]
def FS:FS:=Ycx [.sh,.sh] pts (fun x=>Xh0 x.1 x.2.1) fun t=>⟨[.cs .bool t],[]⟩
theorem ok:Ycm PR 63 FS:=
 Yw7 Xf Xe Proofs.Tryz.f63 h0 .no (G:=G) (show GOk PR G from .cons Xfn.ok .nil) (L:=mkL []) (l:=[]) hT
  (fun x=>by simp only[Xh0,mC,mB,mS,mO,mN];kernel_rfl)
end Xh0
def Xg5 (v:Int) (v2:List Int):Option Int:=
 cond (v != 0) (some v) (cond (decide ((v2.length:Int)>20)) (some 2) ((Xh0 v2 ()).bind fun v3=>cond v3 (some 3) (some 0)))
namespace Xg5
def G:Gam:=mkG [(63,Xh0.FS)]
def pts:List PT:=[.cs I64,.cs SI]
def FS:FS:=Ycx [.sh,.sh] pts (fun x=>Xg5 x.1 x.2.1) fun t=>⟨[.cs I64 t],[]⟩
theorem ok:Ycm PR 32 FS:=
 Yw7 Xf Xe Proofs.Tryz.f32 h0 .no (G:=G) (show GOk PR G from .cons Xh0.ok .nil) (L:=mkL []) (l:=[]) hT
  (fun x=>by simp only[Xg5,mC,mB,mS,mO,mN];kernel_rfl)
end Xg5
noncomputable def Xby (s:List Int):Option (List Int):=Yq8 s
noncomputable def Xby.FS:FS:=Ycx [.sh] [.cl .sh (.sl (.int .u8))] (fun x=>Xby x.1) fun y=>⟨[.cl .deep (.sl (.int .u8)) y],[]⟩
theorem Xby.ok:Ycm Go.Proofs.Tryz.prog 120 Xby.FS:=
 Yvq (hn:=⟨[],[],[],0⟩) Xf Xe (fn:=Go.Proofs.Tryz.f120) (by kernel_rfl) (Ygx (by kernel_rfl)) (by kernel_rfl) (by kernel_rfl) .deep (.int .u8) 26 26 5 (by kernel_rfl) (by kernel_rfl) (by kernel_rfl) (by kernel_rfl) (by kernel_rfl) (by kernel_rfl) (by kernel_rfl) (by kernel_rfl) (fun xs=>by kernel_rfl) (fun xs=>by kernel_rfl) (fun xs=>by kernel_rfl) (fun xs=>by kernel_rfl)
def Xdv.B (v:List (List Int)) (v2:Int) (v3:Int) (v4:List (List Int)):Option ((Int×List (List Int))⊕(List (List Int))):=
 cond (decide (v3<v2)) (cond (inB v3 v.length) ((Xby (v.getD v3.toNat [])).bind fun v5=>cond (decide ((v4++([v5])).length≤2147483648)) (some (.inl (w64 (v3+1),v4++([v5])))) none) none) (some (.inr v4))
def Xdv (v:List (List Int)) (v2:Int):(Int×List (List Int))→Option (List (List Int)):=
 Yan fun s=>Xdv.B v v2 s.1 s.2
def Xdw (v:List (List Int)):Option (List (List Int)):=
 (Xdv v (v.length:Int) (0,[])).bind fun v6=>some v6
namespace Xdw
def G:Gam:=mkG [(120,Xby.FS)]
theorem Gok:GOk PR G:=.cons Xby.ok .nil
end Xdw
namespace Xdv
noncomputable def c:=Yar (Yag Proofs.Tryz.f65) [1,1,0,1,0,0]
def sp:SP:=⟨[(3,.seg 3 []),(6,.cs (.sl SB)),(7,.cs I64),(8,.cs I64)],[(3,.reg,.cd (.sl SB))]⟩
def fr:=Yja sp (fun x s=>Xdv.B x.1.2.1 x.1.2.2.1 s.1 s.2) (fun x=>(x.1.2.2.2.1,x.2.1)) fun x (bb0:List (List Int)) _ kk0=>kk0 (.ex 0) ⟨[(3,.seg 3 [])],[sr 3 (.cd (.sl SB) bb0)]⟩
theorem ok:Ya2 PR 19 1 (.loop c) fr:=
 Yw9 Xf Xe h0 (G:=Xdw.G) Xdw.Gok [(0,([3],[3]))] (fun x s=>((x.1.1,x.1.2.1,x.1.2.2.1,s.1,x.1.2.2.2.2),(s.2,x.2.2)))
  (fun x s=>by simp only[B,mC,mB,mS,mO,mN];kernel_rfl)
end Xdv
namespace Xdw
def pts:List PT:=[.cs (.sl SB)]
def FS:FS:=Ycx [.sh] pts (fun x=>Xdw x.1) fun t=>⟨[.cd (.sl SB) t],[]⟩
theorem ok:Ycm PR 65 FS:=
 Yw7 Xf Xe Proofs.Tryz.f65 h0 (.R (.R (.L (.R (.one (.fr 0)))))) (G:=G) Gok (L:=mkL [(0,Xdv.fr)]) (l:=[(0,.loop Xdv.c)]) ⟨Lam.cons Xdv.ok,trivial⟩
  (fun x=>by simp only[Xdw,mC,mB,mS,mO,mN];kernel_rfl)
end Xdw
noncomputable def Xj8 (s:List Xg):Option (List Xg):=Yq8 s
noncomputable def Xj8.FS:FS:=Ycx [.sh] [.cl .sh (.sl Xi)] (fun x=>Xj8 x.1) fun y=>⟨[.cl .deep (.sl Xi) y],[]⟩
theorem Xj8.ok:Ycm Go.Proofs.Tryz.prog 67 Xj8.FS:=
 Yvq (hn:=⟨[],[],[],0⟩) Xf Xe (fn:=Go.Proofs.Tryz.f67) (by kernel_rfl) (Ygx (by kernel_rfl)) (by kernel_rfl) (by kernel_rfl) .deep Xi 82 82 89 (by kernel_rfl) (by kernel_rfl) (by kernel_rfl) (by kernel_rfl) (by kernel_rfl) (by kernel_rfl) (by kernel_rfl) (by kernel_rfl) (fun xs=>by kernel_rfl) (fun xs=>by kernel_rfl) (fun xs=>by kernel_rfl) (fun xs=>by kernel_rfl)
def Xdx.B (v3:List Xb) (v4:Int) (v6:Fs_) (v5:Int) (v7:Fs_):Option ((Int×Fs_)⊕Fs_):=
 cond (decide (v5<v4)) (cond (inB v5 v3.length) ((Xfj (v3.getD v5.toNat Xa).2.2.2.1).bind fun v8=>(Xj8 (v3.getD v5.toNat Xa).2.2.2.2.1).bind fun v9=>(some (v7.1++([((v3.getD v5.toNat Xa).1,(v3.getD v5.toNat Xa).2.1,(v3.getD v5.toNat Xa).2.2.1,v8,v9,(v3.getD v5.toNat Xa).2.2.2.2.2)]))).bind fun v10=>cond (decide (v10.length≤2147483648)) (some (.inl (w64 (v5+1),(v10,v7.2)))) none) none) (some (.inr v7))
def Xdx (v3:List Xb) (v4:Int) (v6:Fs_):(Int×Fs_)→Option Fs_:=
 Yan fun s=>Xdx.B v3 v4 v6 s.1 s.2
def Xct (v:Fs_):Option Fs_:=
 (Xdw v.2.1).bind fun v2=>(Xdx v.1 (v.1.length:Int) ([],[],()) (0,([],v2,()))).bind fun v11=>some (v11.1,v11.2.1,v11.2.2)
namespace Xct
def G:Gam:=mkG [(65,Xdw.FS),(66,Xfj.FS),(67,Xj8.FS)]
theorem Gok:GOk PR G:=.cons Xdw.ok (.cons Xfj.ok (.cons Xj8.ok .nil))
end Xct
namespace Xdx
noncomputable def c:=Yar (Yag Proofs.Tryz.f33) [1,1,0,1,0,0]
def sp:SP:=⟨[(2,.loc 2 []),(3,.loc 3 []),(11,.cs (.sl Xd)),(12,.cs I64),(13,.cs I64)],[(2,.mem,.cd Xh),(3,.mem,.cd Xh)]⟩
def fr:=Yja sp (fun x s=>Xdx.B x.1.2.2.1 x.1.2.2.2.1 x.2.1 s.1 s.2) (fun x=>(x.1.2.2.2.2.1,x.2.2.1)) fun x (bb0:Fs_) _ kk0=>kk0 (.ex 0) ⟨[(2,.loc 2 []),(3,.loc 3 [])],[(2,some ⟨.mem,.cd Xh x.2.1⟩),(3,some ⟨.mem,.cd Xh bb0⟩)]⟩
theorem ok:Ya2 PR 33 1 (.loop c) fr:=
 Yw9 Xf Xe ⟨[1],[],[],0⟩ (G:=Xct.G) Xct.Gok [(0,([2,3],[2,3]))] (fun x s=>((x.1.1,x.1.2.1,x.1.2.2.1,x.1.2.2.2.1,s.1,x.1.2.2.2.2.2),(x.2.1,s.2,x.2.2.2)))
  (fun x s=>by simp only[B,mC,mB,mS,mO,mN];kernel_rfl)
end Xdx
namespace Xct
def pts:List PT:=[.cs Xh]
def FS:FS:=Ycx [.sh] pts (fun x=>Xct x.1) fun t=>⟨[.cd Xh t],[]⟩
theorem ok:Ycm PR 33 FS:=
 Yw7 Xf Xe Proofs.Tryz.f33 ⟨[1],[],[],0⟩ (.R (.R (.L (.R (.one (.fr 0)))))) (G:=G) Gok (L:=mkL [(0,Xdx.fr)]) (l:=[(0,.loop Xdx.c)]) ⟨Lam.cons Xdx.ok,trivial⟩
  (fun x=>by simp only[Xct,mC,mB,mS,mO,mN];kernel_rfl)
end Xct
def Xl (v:List UInt8) (v2:List UInt8):Option Bool:=
 cond (cond (decide ((v.length:Int)≥(v2.length:Int))) (decide ((0:Int)≤(v2.length:Int))&&decide ((v2.length:Int)≤(v.length:Int))) true) ((some (cond (decide ((v.length:Int)≥(v2.length:Int))) (((v.take ((v2.length:Int).toNat)).drop 0) == v2) false)).bind fun v3=>some v3) none
namespace Xl
def pts:List PT:=[.cs .str,.cs .str]
def FS:FS:=Ycx [.sh,.sh] pts (fun x=>Xl x.1 x.2.1) fun t=>⟨[.cs .bool t],[]⟩
theorem ok:Ycm PR 190 FS:=
 Yw7 Xf Xe Proofs.Tryz.f190 h0 .no (G:=(mkG [])) .nil (L:=mkL []) (l:=[]) hT
  (fun x=>by simp only[Xl,mC,mB,mS,mO,mN];kernel_rfl)
end Xl
def Xh1 (v:List UInt8) (v2:List UInt8):Option Bool:=
 (Xl v v2).bind fun v3=>some v3
namespace Xh1
def G:Gam:=mkG [(190,Xl.FS)]
def pts:List PT:=[.cs .str,.cs .str]
def FS:FS:=Ycx [.sh,.sh] pts (fun x=>Xh1 x.1 x.2.1) fun t=>⟨[.cs .bool t],[]⟩
theorem ok:Ycm PR 167 FS:=
 Yw7 Xf Xe Proofs.Tryz.f167 h0 .no (G:=G) (show GOk PR G from .cons Xl.ok .nil) (L:=mkL []) (l:=[]) hT
  (fun x=>by simp only[Xh1,mC,mB,mS,mO,mN];kernel_rfl)
end Xh1
def Xm (v:List UInt8) (v2:List UInt8):Option Bool:=
 cond (cond (decide ((v.length:Int)≥(v2.length:Int))) (decide ((0:Int)≤(w64 ((v.length:Int)-(v2.length:Int))))&&decide ((w64 ((v.length:Int)-(v2.length:Int)))≤(v.length:Int))) true) ((some (cond (decide ((v.length:Int)≥(v2.length:Int))) (((v.take v.length).drop ((w64 ((v.length:Int)-(v2.length:Int))).toNat)) == v2) false)).bind fun v3=>some v3) none
namespace Xm
def pts:List PT:=[.cs .str,.cs .str]
def FS:FS:=Ycx [.sh,.sh] pts (fun x=>Xm x.1 x.2.1) fun t=>⟨[.cs .bool t],[]⟩
theorem ok:Ycm PR 191 FS:=
 Yw7 Xf Xe Proofs.Tryz.f191 h0 .no (G:=(mkG [])) .nil (L:=mkL []) (l:=[]) hT
  (fun x=>by simp only[Xm,mC,mB,mS,mO,mN];kernel_rfl)
end Xm
def Xh2 (v:List UInt8) (v2:List UInt8):Option Bool:=
 (Xm v v2).bind fun v3=>some v3
namespace Xh2
def G:Gam:=mkG [(191,Xm.FS)]
def pts:List PT:=[.cs .str,.cs .str]
def FS:FS:=Ycx [.sh,.sh] pts (fun x=>Xh2 x.1 x.2.1) fun t=>⟨[.cs .bool t],[]⟩
theorem ok:Ycm PR 168 FS:=
 Yw7 Xf Xe Proofs.Tryz.f168 h0 .no (G:=G) (show GOk PR G from .cons Xm.ok .nil) (L:=mkL []) (l:=[]) hT
  (fun x=>by simp only[Xh2,mC,mB,mS,mO,mN];kernel_rfl)
end Xh2
def Xld (s sub:List UInt8):Option Int:=countP s sub
def Xld.FS:FS:=Ycx [.sh,.sh] [.cl .sh .str,.cl .sh .str] (fun x=>countP x.1 x.2.1) fun y=>⟨[.cl .sh (.int .i64) y],[]⟩
theorem Xld.ok:Ycm Go.Proofs.Tryz.prog 213 Xld.FS:=
 Yvr ⟨Go.Proofs.Tryz.f213,by kernel_rfl,by kernel_rfl,by kernel_rfl⟩ Go.Proofs.Ct.count_one
def Xn (s:List UInt8) (c:Int):Option Int:=Yi8 s c
def Xn.FS:FS:=Ycx [.sh,.sh] [.cl .sh .str,.cl .sh (.int .u8)] (fun x=>Yi8 x.1 x.2.1) fun y=>⟨[.cl .sh (.int .i64) y],[]⟩
theorem Xn.ok:Ycm Go.Proofs.Tryz.prog 229 Xn.FS:=
 Yta ⟨Go.Proofs.Tryz.f229,by kernel_rfl,by kernel_rfl,by kernel_rfl⟩ Go.Proofs.Ib.index_any
def Xp (v:List UInt8) (v2:List UInt8):Option Int:=
 cond (cond ((v2.length:Int) == 0) true (v2 == v)) (some 0) (cond ((v2.length:Int) == 1) (cond (inB 0 v2.length) ((Xn v ((v2.getD (0:Int).toNat 0).toNat:Int)).bind fun v3=>some v3) none) (cond (decide ((v2.length:Int)≥(v.length:Int))) (some (-1)) none))
namespace Xp
def G:Gam:=mkG [(229,Xn.FS)]
def pts:List PT:=[.cs .str,.cs .str]
def FS:FS:=Ycx [.sh,.sh] pts (fun x=>Xp x.1 x.2.1) fun t=>⟨[.cs I64 t],[]⟩
theorem ok:Ycm PR 226 FS:=
 Yw7 Xf Xe Proofs.Tryz.f226 h0 .no (G:=G) (show GOk PR G from .cons Xn.ok .nil) (L:=mkL []) (l:=[]) hT
  (fun x=>by simp only[Xp,mC,mB,mS,mO,mN];kernel_rfl)
end Xp
def Xh3 (v:List UInt8) (v2:List UInt8):Option Int:=
 (Xp v v2).bind fun v3=>some v3
namespace Xh3
def G:Gam:=mkG [(226,Xp.FS)]
def pts:List PT:=[.cs .str,.cs .str]
def FS:FS:=Ycx [.sh,.sh] pts (fun x=>Xh3 x.1 x.2.1) fun t=>⟨[.cs I64 t],[]⟩
theorem ok:Ycm PR 214 FS:=
 Yw7 Xf Xe Proofs.Tryz.f214 h0 .no (G:=G) (show GOk PR G from .cons Xp.ok .nil) (L:=mkL []) (l:=[]) hT
  (fun x=>by simp only[Xh3,mC,mB,mS,mO,mN];kernel_rfl)
end Xh3
end Mf
