import Derived.Test.YtmgbiodgebigeaaDoorMf4
import Derived.Test.YtmgbiodgebigeaaDoorWordsOfJ
import Derived.Test.YtmgbiodgebigeaaDoorProg
import Derived.KernelRfl
set_option linter.unusedVariables false
set_option linter.unusedSimpArgs false
noncomputable section
namespace Mf
open Go
set_option maxRecDepth 100000
abbrev Xc:Ty:=(.pair (.int .i64) (.pair (.sl .str) .unit))
abbrev Xd:Type:=Int×(List (List UInt8))×Unit
def Xao:Xd:=(0,[],())
abbrev Xj:Ty:=(.pair (.int .u8) (.pair (.int .u8) .unit))
abbrev X8:Type:=Int×Int×Unit
def Xam:X8:=(0,0,())
abbrev Xm:Ty:=(.pair (.int .i64) (.pair (.int .i64) (.pair .bool (.pair (.int .u8) .unit))))
abbrev X9:Type:=Int×Int×Bool×Int×Unit
def Xan:X9:=(0,0,false,0,())
abbrev Xi:Ty:=(.pair .str (.pair (.int .u64) .unit))
abbrev Xl:Type:=(List UInt8)×Int×Unit
def Xah:Xl:=([],0,())
abbrev PR:Program:=Go.Proofs.Tryd.prog
def tb:Tb:=[(2,⟨.int .i64,(.int .i64),8⟩),(3,⟨.int .i64,(.int .i64),8⟩),(4,⟨.bool,.bool,1⟩),(5,⟨.int .u8,(.int .u8),1⟩),(6,⟨.int .u8,(.int .u8),1⟩),(7,⟨.st [0,1,2,3],Xm,24⟩),(8,⟨.st [0,1,2,3],Xm,24⟩),(9,⟨.str,.str,16⟩),(10,⟨.str,.str,16⟩),(11,⟨.str,.str,16⟩),(12,⟨.int .u64,(.int .u64),8⟩),(13,⟨.st [0,1],Xi,24⟩),(14,⟨.st [0,1],Xi,24⟩),(21,⟨.int .i32,(.int .i32),4⟩),(22,⟨.sl 9,(.sl .str),24⟩),(23,⟨.st [0,1],Xc,32⟩),(24,⟨.st [0,1],Xc,32⟩),(38,⟨.sl 5,(.sl (.int .u8)),24⟩),(46,⟨.int .u64,(.int .u64),8⟩),(47,⟨.arr 256 5,(.arr 256 (.int .u8)),256⟩),(48,⟨.st [0,1],Xj,2⟩),(49,⟨.st [0,1],Xj,2⟩),(50,⟨.arr 16 49,(.arr 16 Xj),32⟩),(51,⟨.int .u32,(.int .u32),4⟩),(61,⟨.int .u8,(.int .u8),1⟩),(62,⟨.int .u8,(.int .u8),1⟩),(65,⟨.int .i32,(.int .i32),4⟩),(66,⟨.int .i32,(.int .i32),4⟩)]
theorem Xg:Yaj Go.Proofs.Tryd.prog tb:=Ytt (by kernel_rfl)
theorem Xf:Go.Proofs.Tryd.prog.follows .mixedOrders=true:=by kernel_rfl
def Zq0.B (v:List UInt8) (v2:Int) (v3:Int) (v4:Int) (v5:List (List UInt8)):Option ((Int×Int×List (List UInt8))⊕(List (List UInt8))):=
 cond (decide (v4≤(v.length:Int))) (cond (cond (!(v4 == (v.length:Int))) (inB v4 v.length) true) ((some (cond (v4 == (v.length:Int)) true (((v.getD v4.toNat 0).toNat:Int) == v2))).bind fun v6=>cond v6 (cond (decide ((0:Int)≤v4)&&decide (v4≤(v.length:Int))&&(decide ((0:Int)≤v3)&&decide (v3≤v4))) (cond (decide ((v5++([(v.take v4.toNat).drop v3.toNat])).length≤2147483648)) (some (.inl (w64 (v4+1),w64 (v4+1),v5++([(v.take v4.toNat).drop v3.toNat])))) none) none) (some (.inl (v3,w64 (v4+1),v5)))) none) (some (.inr v5))
def Zq0 (v:List UInt8) (v2:Int):(Int×Int×List (List UInt8))→Option (List (List UInt8)):=
 Ya6 fun s=>Zq0.B v v2 s.1 s.2.1 s.2.2
def Zq1 (v:List UInt8) (v2:Int):Option (List (List UInt8)):=
 (Zq0 v v2 (0,0,[])).bind fun v7=>some v7
namespace Zq0
def c:=Yfw (Yfv Proofs.Tryd.f14) [1,1,1,0,1,0,0]
def sp:SP:=⟨[(0,.cs .str),(1,.cs U8),(5,.seg 5 []),(6,.cs I64),(7,.cs I64)],[(5,.reg,.cd (.sl .str))]⟩
def fr:=Ymu sp (fun x s=>Zq0.B x.1.1 x.1.2.1 s.1 s.2.1 s.2.2) (fun x=>(x.1.2.2.2.1,x.1.2.2.2.2.1,x.2.1)) fun x (bb0:List (List UInt8)) _ kk0=>kk0 (.ex 0) ⟨[(5,.seg 5 [])],[sr 5 (.cd (.sl .str) bb0)]⟩
theorem ok:Ybl PR 36 2 (.loop c) fr:=
 Yto Xg Xf h0 [(0,([5],[5]))] (fun x s=>((x.1.1,x.1.2.1,x.1.2.2.1,s.1,s.2.1,x.1.2.2.2.2.2),(s.2.2,x.2.2)))
  (fun x s=>by simp only[B,mC,mB,mS,mO,mN];kernel_rfl)
end Zq0
namespace Zq1
def pts:List PT:=[.cs .str,.cs U8]
def FS:FS:=Yh4 [.sh,.sh] pts (fun x=>Zq1 x.1 x.2.1) fun t=>⟨[.cd (.sl .str) t],[]⟩
theorem ok:Yee PR 14 FS:=
 Ytu Xg Xf Proofs.Tryd.f14 h0 (.R (.R (.R (.L (.R (.one (.fr 0))))))) (G:=(mkG [])) .nil (L:=mkL [(0,Zq0.fr)]) (l:=[(0,.loop Zq0.c)]) ⟨Lam.cons Zq0.ok,trivial⟩
  (fun x=>by simp only[Zq1,mC,mB,mS,mO,mN];kernel_rfl)
end Zq1
def Zq2.B (v2:List (List UInt8)) (v3:Int) (v4:List (List UInt8)):Option ((Int×List (List UInt8))⊕(List (List UInt8))):=
 cond (decide (v3<(v2.length:Int))) (cond (inB v3 v2.length) (cond (!((v2.getD v3.toNat []) == ([]:List UInt8))) (cond (inB v3 v2.length) (cond (decide ((v4++([v2.getD v3.toNat []])).length≤2147483648)) (some (.inl (w64 (v3+1),v4++([v2.getD v3.toNat []])))) none) none) (some (.inl (w64 (v3+1),v4)))) none) (some (.inr v4))
def Zq2 (v2:List (List UInt8)):(Int×List (List UInt8))→Option (List (List UInt8)):=
 Ya6 fun s=>Zq2.B v2 s.1 s.2
def Zq3 (v:List UInt8):Option (List (List UInt8)):=
 (Zq1 v 32).bind fun v2=>(Zq2 v2 (0,[])).bind fun v5=>some v5
namespace Zq3
def G:Gam:=mkG [(14,Zq1.FS)]
theorem Gok:GOk PR G:=.cons Zq1.ok .nil
end Zq3
namespace Zq2
def c:=Yfw (Yfv Proofs.Tryd.f9) [1,1,1,0,1,0,0]
def sp:SP:=⟨[(3,.seg 3 []),(4,.seg 4 []),(5,.cs I64)],[(3,.reg,.cd (.sl .str)),(4,.reg,.cd (.sl .str))]⟩
def fr:=Ymu sp (fun x s=>Zq2.B x.2.2.1 s.1 s.2) (fun x=>(x.1.2.2.1,x.2.1)) fun x (bb0:List (List UInt8)) _ kk0=>kk0 (.ex 0) ⟨[(3,.seg 3 [])],[sr 3 (.cd (.sl .str) bb0)]⟩
theorem ok:Ybl PR 28 1 (.loop c) fr:=
 Ytv Xg Xf h0 (G:=Zq3.G) Zq3.Gok [(0,([3],[3]))] (fun x s=>((x.1.1,x.1.2.1,s.1,x.1.2.2.2),(s.2,x.2.2)))
  (fun x s=>by simp only[B,mC,mB,mS,mO,mN];kernel_rfl)
end Zq2
namespace Zq3
def pts:List PT:=[.cs .str]
def FS:FS:=Yh4 [.sh] pts (fun x=>Zq3 x.1) fun t=>⟨[.cd (.sl .str) t],[]⟩
theorem ok:Yee PR 9 FS:=
 Ytu Xg Xf Proofs.Tryd.f9 h0 (.R (.R (.R (.L (.R (.one (.fr 0))))))) (G:=G) Gok (L:=mkL [(0,Zq2.fr)]) (l:=[(0,.loop Zq2.c)]) ⟨Lam.cons Zq2.ok,trivial⟩
  (fun x=>by simp only[Zq3,mC,mB,mS,mO,mN];kernel_rfl)
end Zq3
def Zq4 (v:List UInt8):Option Xd:=
 (Zq3 v).bind fun v2=>some (0,v2,())
namespace Zq4
def G:Gam:=mkG [(9,Zq3.FS)]
def pts:List PT:=[.cs .str]
def FS:FS:=Yh4 [.sh] pts (fun x=>Zq4 x.1) fun t=>⟨[.cd Xc t],[]⟩
theorem ok:Yee PR 4 FS:=
 Ytu Xg Xf Proofs.Tryd.f4 h0 .no (G:=G) (show GOk PR G from .cons Zq3.ok .nil) (L:=mkL []) (l:=[]) hT
  (fun x=>by simp only[Zq4,mC,mB,mS,mO,mN];kernel_rfl)
end Zq4
def Zq5 (s sub:List UInt8):Option Int:=countP s sub
def Zq5.FS:FS:=Yh4 [.sh,.sh] [.cl .sh .str,.cl .sh .str] (fun x=>countP x.1 x.2.1) fun y=>⟨[.cl .sh (.int .i64) y],[]⟩
theorem Zq5.ok:Yee Go.Proofs.Tryd.prog 22 Zq5.FS:=
 Ysv ⟨Go.Proofs.Tryd.f22,by kernel_rfl,by kernel_rfl,by kernel_rfl⟩ Go.Proofs.Ct.count_one
def Xa (s:List UInt8) (c:Int):Option Int:=Yhz s c
def Xa.FS:FS:=Yh4 [.sh,.sh] [.cl .sh .str,.cl .sh (.int .u8)] (fun x=>Yhz x.1 x.2.1) fun y=>⟨[.cl .sh (.int .i64) y],[]⟩
theorem Xa.ok:Yee Go.Proofs.Tryd.prog 29 Xa.FS:=
 Yqx ⟨Go.Proofs.Tryd.f29,by kernel_rfl,by kernel_rfl,by kernel_rfl⟩ Go.Proofs.Ib.index_any
def Xb (v:List UInt8) (v2:List UInt8):Option Int:=
 cond (cond ((v2.length:Int) == 0) true (v2 == v)) (some 0) (cond ((v2.length:Int) == 1) (cond (inB 0 v2.length) ((Xa v ((v2.getD (0:Int).toNat 0).toNat:Int)).bind fun v3=>some v3) none) (cond (decide ((v2.length:Int)≥(v.length:Int))) (some (-1)) none))
namespace Xb
def G:Gam:=mkG [(29,Xa.FS)]
def pts:List PT:=[.cs .str,.cs .str]
def FS:FS:=Yh4 [.sh,.sh] pts (fun x=>Xb x.1 x.2.1) fun t=>⟨[.cs I64 t],[]⟩
theorem ok:Yee PR 27 FS:=
 Ytu Xg Xf Proofs.Tryd.f27 h0 .no (G:=G) (show GOk PR G from .cons Xa.ok .nil) (L:=mkL []) (l:=[]) hT
  (fun x=>by simp only[Xb,mC,mB,mS,mO,mN];kernel_rfl)
end Xb
def Zq6 (v:List UInt8) (v2:List UInt8):Option Int:=
 (Xb v v2).bind fun v3=>some v3
namespace Zq6
def G:Gam:=mkG [(27,Xb.FS)]
def pts:List PT:=[.cs .str,.cs .str]
def FS:FS:=Yh4 [.sh,.sh] pts (fun x=>Zq6 x.1 x.2.1) fun t=>⟨[.cs I64 t],[]⟩
theorem ok:Yee PR 23 FS:=
 Ytu Xg Xf Proofs.Tryd.f23 h0 .no (G:=G) (show GOk PR G from .cons Xb.ok .nil) (L:=mkL []) (l:=[]) hT
  (fun x=>by simp only[Zq6,mC,mB,mS,mO,mN];kernel_rfl)
end Zq6
def Zq7.B (v2:List UInt8) (v3:Int) (v8:Int) (v7:List UInt8) (v9:Int) (v10:List (List UInt8)):Option (((List UInt8)×Int×List (List UInt8))⊕((List UInt8)×Int×List (List UInt8))):=
 cond (decide (v9<v8)) ((Zq6 v7 v2).bind fun v11=>cond (decide (v11<0)) (some (.inr (v7,v9,v10))) (cond (decide ((0:Int)≤(w64 (v11+v3)))&&decide ((w64 (v11+v3))≤(v7.length:Int))) (cond (inB v9 v10.length) ((some (v10.set v9.toNat ((v7.take ((w64 (v11+v3)).toNat)).drop 0))).bind fun v12=>cond (decide ((0:Int)≤(w64 (v11+(v2.length:Int))))&&decide ((w64 (v11+(v2.length:Int)))≤(v7.length:Int))) ((some ((v7.take v7.length).drop ((w64 (v11+(v2.length:Int))).toNat))).bind fun v13=>some (.inl (v13,w64 (v9+1),v12))) none) none) none)) (some (.inr (v7,v9,v10)))
def Zq7 (v2:List UInt8) (v3:Int) (v8:Int):((List UInt8)×Int×List (List UInt8))→Option ((List UInt8)×Int×List (List UInt8)):=
 Ya6 fun s=>Zq7.B v2 v3 v8 s.1 s.2.1 s.2.2
def Zq8 (v:List UInt8) (v2:List UInt8) (v3:Int) (v4:Int):Option (List (List UInt8)):=
 cond (v4 == 0) (some []) (cond (v2 == ([]:List UInt8)) none (cond (decide (v4<0)) ((Zq5 v v2).bind fun v5=>(some (cond (decide ((w64 ((v.length:Int)+1))<(w64 (v5+1)))) (w64 ((v.length:Int)+1)) (w64 (v5+1)))).bind fun v6=>cond (decide ((0:Int)≤v6)&&(decide (v6≤v6)&&decide (v6≤2147483648))) ((Zq7 v2 v3 (w64 (v6-1)) (v,0,List.replicate v6.toNat ([]:List UInt8))).bind fun v14=>cond (inB v14.2.1 v14.2.2.length) (cond (decide ((0:Int)≤(w64 (v14.2.1+1)))&&decide ((w64 (v14.2.1+1))≤((v14.2.2.set v14.2.1.toNat v14.1).length:Int))) ((some (((v14.2.2.set v14.2.1.toNat v14.1).drop 0).take (((w64 (v14.2.1+1)).toNat)-0))).bind fun v15=>some v15) none) none) none) ((some (cond (decide ((w64 ((v.length:Int)+1))<v4)) (w64 ((v.length:Int)+1)) v4)).bind fun v16=>cond (decide ((0:Int)≤v16)&&(decide (v16≤v16)&&decide (v16≤2147483648))) ((Zq7 v2 v3 (w64 (v16-1)) (v,0,List.replicate v16.toNat ([]:List UInt8))).bind fun v17=>cond (inB v17.2.1 v17.2.2.length) (cond (decide ((0:Int)≤(w64 (v17.2.1+1)))&&decide ((w64 (v17.2.1+1))≤((v17.2.2.set v17.2.1.toNat v17.1).length:Int))) ((some (((v17.2.2.set v17.2.1.toNat v17.1).drop 0).take (((w64 (v17.2.1+1)).toNat)-0))).bind fun v18=>some v18) none) none) none)))
namespace Zq8
def G:Gam:=mkG [(22,Zq5.FS),(23,Zq6.FS)]
theorem Gok:GOk PR G:=.cons Zq5.ok (.cons Zq6.ok .nil)
end Zq8
namespace Zq7
def c:=Yfw (Yfv Proofs.Tryd.f20) [1,1,1,1,1,1,1,1,0,0,0]
def sp:SP:=⟨[(0,.cs .str),(1,.cs .str),(2,.cs I64),(3,.cs I64),(9,.seg 9 []),(10,.cs I64)],[(9,.reg,.cd (.sl .str))]⟩
def fr:=Ymu sp (fun x s=>Zq7.B x.1.2.1 x.1.2.2.1 x.1.2.2.2.1 s.1 s.2.1 s.2.2) (fun x=>(x.1.1,x.1.2.2.2.2.2.1,x.2.1)) fun x (bb0:(List UInt8)×Int×List (List UInt8)) _ kk0=>kk0 (.ex 0) ⟨[(0,.cs .str bb0.1),(9,.seg 9 []),(10,.cs I64 bb0.2.1)],[sr 9 (.cd (.sl .str) bb0.2.2)]⟩
theorem ok:Ybl PR 66 4 (.loop c) fr:=
 Ytv Xg Xf h0 (G:=Zq8.G) Zq8.Gok [(0,([0,9,10],[9]))] (fun x s=>((s.1,x.1.2.1,x.1.2.2.1,x.1.2.2.2.1,x.1.2.2.2.2.1,s.2.1,x.1.2.2.2.2.2.2),(s.2.2,x.2.2)))
  (fun x s=>by simp only[B,mC,mB,mS,mO,mN];kernel_rfl)
end Zq7
namespace Zq8
def pts:List PT:=[.cs .str,.cs .str,.cs I64,.cs I64]
def FS:FS:=Yh4 [.sh,.sh,.sh,.sh] pts (fun x=>Zq8 x.1 x.2.1 x.2.2.1 x.2.2.2.1) fun t=>⟨[.cd (.sl .str) t],[]⟩
theorem ok:Yee PR 20 FS:=
 Ytu Xg Xf Proofs.Tryd.f20 h0 (.R (.R (.R (.R (.R (.R (.R (.R (.L (.one (.fr 0))))))))))) (G:=G) Gok (L:=mkL [(0,Zq7.fr)]) (l:=[(0,.loop Zq7.c)]) ⟨Lam.cons Zq7.ok,trivial⟩
  (fun x=>by simp only[Zq8,mC,mB,mS,mO,mN];kernel_rfl)
end Zq8
def Zq9 (v:List UInt8) (v2:List UInt8):Option (List (List UInt8)):=
 (Zq8 v v2 0 (-1)).bind fun v3=>some v3
namespace Zq9
def G:Gam:=mkG [(20,Zq8.FS)]
def pts:List PT:=[.cs .str,.cs .str]
def FS:FS:=Yh4 [.sh,.sh] pts (fun x=>Zq9 x.1 x.2.1) fun t=>⟨[.cd (.sl .str) t],[]⟩
theorem ok:Yee PR 16 FS:=
 Ytu Xg Xf Proofs.Tryd.f16 h0 .no (G:=G) (show GOk PR G from .cons Zq8.ok .nil) (L:=mkL []) (l:=[]) hT
  (fun x=>by simp only[Zq9,mC,mB,mS,mO,mN];kernel_rfl)
end Zq9
def Xn (v:List UInt8):Option Bool:=
 some (v == ([]:List UInt8))
namespace Xn
def pts:List PT:=[.cs .str]
def FS:FS:=Yh4 [.sh] pts (fun x=>Xn x.1) fun t=>⟨[.cs .bool t],[]⟩
theorem ok:Yee PR 17 FS:=
 Ytu Xg Xf Proofs.Tryd.f17 h0 .no (G:=(mkG [])) .nil (L:=mkL []) (l:=[]) hT
  (fun x=>by simp only[Xn,mC,mB,mS,mO,mN];kernel_rfl)
end Xn
def Xk.B (v:List (List UInt8)) (v2:Unit) (v3:Int) (v4:Int):Option (Int⊕((Int⊕Unit))):=
 cond (decide (v4<v3)) (cond (inB v4 v.length) ((Xn (v.getD v4.toNat [])).bind fun v5=>cond v5 (some (.inr (.inl v4))) (some (.inl (w64 (v4+1))))) none) (some (.inr (.inr ())))
def Xk (v:List (List UInt8)) (v2:Unit) (v3:Int):Int→Option ((Int⊕Unit)):=
 Ya6 fun s=>Xk.B v v2 v3 s
def Xo (v:List (List UInt8)) (v2:Unit):Option Int:=
 (Xk v v2 (v.length:Int) 0).bind fun v6=>sel v6 (fun v7=>some v7) (fun v8=>some (-1))
namespace Xo
def G:Gam:=mkG [(17,Xn.FS)]
theorem Gok:GOk PR G:=.cons Xn.ok .nil
end Xo
namespace Xk
def c:=Yfw (Yfv Proofs.Tryd.f19) [1,0,1,0,0]
def sp:SP:=⟨[(0,.cs (.sl .str)),(1,.clo 17 (.cs .unit)),(7,.cs I64),(8,.cs I64)],[]⟩
def fr:=Ymu sp (fun x s=>Xk.B x.1.1 x.1.2.1 x.1.2.2.1 s) (fun x=>x.1.2.2.2.1) fun x (oo0:(Int⊕Unit)) _ kk0=>sel oo0 (fun bb0=>kk0 (.rt) ⟨[(4,.cs I64 bb0)],[]⟩) (fun cc0=>kk0 (.ex 0) ⟨[],[]⟩)
theorem ok:Ybl PR 19 2 (.loop c) fr:=
 Ys3 Xg Xf h0 .no (G:=Xo.G) Xo.Gok (L:=mkL []) (l:=[]) hT [(0,([],[]))] ([4],[]) (fun x s=>((x.1.1,x.1.2.1,x.1.2.2.1,s,x.1.2.2.2.2),x.2))
  (fun x s=>by simp only[B,mC,mB,mS,mO,mN];kernel_rfl)
end Xk
namespace Xo
def pts:List PT:=[.cs (.sl .str),.clo 17 (.cs .unit)]
def FS:FS:=Yh4 [.sh,.sh] pts (fun x=>Xo x.1 x.2.1) fun t=>⟨[.cs I64 t],[]⟩
theorem ok:Yee PR 19 FS:=
 Ytu Xg Xf Proofs.Tryd.f19 h0 (.R (.L (.R (.one (.fr 0))))) (G:=G) Gok (L:=mkL [(0,Xk.fr)]) (l:=[(0,.loop Xk.c)]) ⟨Lam.cons Xk.ok,trivial⟩
  (fun x=>by simp only[Xo,mC,mB,mS,mO,mN];kernel_rfl)
end Xo
def Xu.B (v2:Unit) (v4:Int) (v5:Int) (v6:List (List UInt8)):Option ((Int×Int×List (List UInt8))⊕(Int×List (List UInt8))):=
 cond (decide (v5<(v6.length:Int))) (cond (inB v5 v6.length) ((Xn (v6.getD v5.toNat [])).bind fun v7=>cond (!v7) (cond (inB v4 v6.length) (some (.inl (w64 (v4+1),w64 (v5+1),v6.set v4.toNat (v6.getD v5.toNat [])))) none) (some (.inl (v4,w64 (v5+1),v6)))) none) (some (.inr (v4,v6)))
def Xu (v2:Unit):(Int×Int×List (List UInt8))→Option (Int×List (List UInt8)):=
 Ya6 fun s=>Xu.B v2 s.1 s.2.1 s.2.2
def Xp (v:List (List UInt8)) (v2:Unit):Option (List (List UInt8)):=
 (Xo v v2).bind fun v3=>cond (v3 == (-1)) (some v) ((Xu v2 (v3,w64 (v3+1),v)).bind fun v8=>cond (decide ((0:Int)≤v8.1)&&decide (v8.1≤(v8.2.length:Int))) ((some (splice v8.2 v8.1.toNat (List.replicate (v8.2.length-v8.1.toNat) []))).bind fun v9=>cond (decide ((0:Int)≤v8.1)&&decide (v8.1≤(v9.length:Int))) (some ((v9.drop 0).take (v8.1.toNat-0))) none) none)
namespace Xp
def G:Gam:=mkG [(19,Xo.FS),(17,Xn.FS)]
theorem Gok:GOk PR G:=.cons Xo.ok (.cons Xn.ok .nil)
end Xp
namespace Xu
def c:=Yfw (Yfv Proofs.Tryd.f15) [1,1,1,0,1,0,0]
def sp:SP:=⟨[(0,.seg 0 []),(1,.clo 17 (.cs .unit)),(5,.cs I64),(6,.cs I64)],[(0,.reg,.cd (.sl .str))]⟩
def fr:=Ymu sp (fun x s=>Xu.B x.1.2.1 s.1 s.2.1 s.2.2) (fun x=>(x.1.2.2.1,x.1.2.2.2.1,x.2.1)) fun x (bb0:Int×List (List UInt8)) _ kk0=>kk0 (.ex 0) ⟨[(0,.seg 0 []),(5,.cs I64 bb0.1)],[sr 0 (.cd (.sl .str) bb0.2)]⟩
theorem ok:Ybl PR 42 0 (.loop c) fr:=
 Ytv Xg Xf h0 (G:=Xp.G) Xp.Gok [(0,([0,5],[0]))] (fun x s=>((x.1.1,x.1.2.1,s.1,s.2.1,x.1.2.2.2.2),(s.2.2,x.2.2)))
  (fun x s=>by simp only[B,mC,mB,mS,mO,mN];kernel_rfl)
end Xu
namespace Xp
def pts:List PT:=[.cd (.sl .str),.clo 17 (.cs .unit)]
def FS:FS:=Yh4 [.mu,.sh] pts (fun x=>Xp x.1 x.2.1) fun t=>⟨[.cd (.sl .str) t],[.dead 1]⟩
theorem ok:Yee PR 15 FS:=
 Ytj Xg Xf Proofs.Tryd.f15 h0 (.R (.R (.R (.L (.R (.one (.fr 0))))))) (G:=G) Gok (L:=mkL [(0,Xu.fr)]) (l:=[(0,.loop Xu.c)]) ⟨Lam.cons Xu.ok,trivial⟩
  (fun x=>by simp only[Xp,mC,mB,mS,mO,mN];kernel_rfl)
end Xp
def Xaa (v:List UInt8):Option (List (List UInt8)):=
 (Zq9 v ([32]:List UInt8)).bind fun v2=>(Xp v2 ()).bind fun v3=>some v3
namespace Xaa
def G:Gam:=mkG [(16,Zq9.FS),(15,Xp.FS)]
def pts:List PT:=[.cs .str]
def FS:FS:=Yh4 [.sh] pts (fun x=>Xaa x.1) fun t=>⟨[.cd (.sl .str) t],[]⟩
theorem ok:Yee PR 10 FS:=
 Ytu Xg Xf Proofs.Tryd.f10 h0 .no (G:=G) (show GOk PR G from .cons Zq9.ok (.cons Xp.ok .nil)) (L:=mkL []) (l:=[]) hT
  (fun x=>by simp only[Xaa,mC,mB,mS,mO,mN];kernel_rfl)
end Xaa
def X3 (v:List UInt8):Option Xd:=
 (Xaa v).bind fun v2=>some (0,v2,())
namespace X3
def G:Gam:=mkG [(10,Xaa.FS)]
def pts:List PT:=[.cs .str]
def FS:FS:=Yh4 [.sh] pts (fun x=>X3 x.1) fun t=>⟨[.cd Xc t],[]⟩
theorem ok:Yee PR 5 FS:=
 Ytu Xg Xf Proofs.Tryd.f5 h0 .no (G:=G) (show GOk PR G from .cons Xaa.ok .nil) (L:=mkL []) (l:=[]) hT
  (fun x=>by simp only[X3,mC,mB,mS,mO,mN];kernel_rfl)
end X3
def Xv.B (a:List (List UInt8)) (b:List (List UInt8)) (i_:Int):Option (Int⊕((Bool⊕Unit))):=
 cond (decide (i_<(a.length:Int))) (cond (inB i_ a.length) (cond (inB i_ b.length) (cond (!((a.getD i_.toNat []) == (b.getD i_.toNat []))) (some (.inr (.inl false))) (some (.inl (w64 (i_+1))))) none) none) (some (.inr (.inr ())))
def Xv (a:List (List UInt8)) (b:List (List UInt8)):Int→Option ((Bool⊕Unit)):=
 Ya6 fun s=>Xv.B a b s
def Xab (a:List (List UInt8)) (b:List (List UInt8)):Option Bool:=
 cond ((a.length:Int) != (b.length:Int)) (some false) ((Xv a b 0).bind fun o=>sel o (fun b2=>some b2) (fun c=>some true))
namespace Xv
def c:=Yfw (Yfv Proofs.Tryd.f11) [1,1,0,1,0,0]
def sp:SP:=⟨[(0,.cs (.sl .str)),(1,.cs (.sl .str)),(5,.cs I64)],[]⟩
def fr:=Ymu sp (fun x s=>Xv.B x.1.1 x.1.2.1 s) (fun x=>x.1.2.2.1) fun x (oo0:(Bool⊕Unit)) _ kk0=>sel oo0 (fun bb0=>kk0 (.rt) ⟨[(4,.cs .bool bb0)],[]⟩) (fun cc0=>kk0 (.ex 0) ⟨[],[]⟩)
theorem ok:Ybl PR 26 2 (.loop c) fr:=
 Ys3 Xg Xf h0 .no (G:=(mkG [])) .nil (L:=mkL []) (l:=[]) hT [(0,([],[]))] ([4],[]) (fun x s=>((x.1.1,x.1.2.1,s,x.1.2.2.2),x.2))
  (fun x s=>by simp only[B,mC,mB,mS,mO,mN];kernel_rfl)
end Xv
namespace Xab
def pts:List PT:=[.cs (.sl .str),.cs (.sl .str)]
def FS:FS:=Yh4 [.sh,.sh] pts (fun x=>Xab x.1 x.2.1) fun t=>⟨[.cs .bool t],[]⟩
theorem ok:Yee PR 11 FS:=
 Ytu Xg Xf Proofs.Tryd.f11 h0 (.R (.R (.L (.R (.one (.fr 0)))))) (G:=(mkG [])) .nil (L:=mkL [(0,Xv.fr)]) (l:=[(0,.loop Xv.c)]) ⟨Lam.cons Xv.ok,trivial⟩
  (fun x=>by simp only[Xab,mC,mB,mS,mO,mN];kernel_rfl)
end Xab
def X5 (a:Xd) (b:Xd):Option Bool:=
 cond (a.1 != b.1) (some false) ((Xab a.2.1 b.2.1).bind fun r=>cond (!r) (some false) (some true))
namespace X5
def G:Gam:=mkG [(11,Xab.FS)]
def pts:List PT:=[.cs Xc,.cs Xc]
def FS:FS:=Yh4 [.sh,.sh] pts (fun x=>X5 x.1 x.2.1) fun t=>⟨[.cs .bool t],[]⟩
theorem ok:Yee PR 6 FS:=
 Ytu Xg Xf Proofs.Tryd.f6 ⟨[2,3],[],[],0⟩ .no (G:=G) (show GOk PR G from .cons Xab.ok .nil) (L:=mkL []) (l:=[]) hT
  (fun x=>by simp only[X5,mC,mB,mS,mO,mN];kernel_rfl)
end X5
def Xw.B (k_:Int) (out_:List UInt8):Option ((Int×List UInt8)⊕(List UInt8)):=
 cond (decide (k_>0)) (cond (!((10:Int) == 0)) ((some (IntKind.u8.wrap (w64 ((48:Int)+(k_.tmod 10))))).bind fun v=>cond (decide ((([v]).map fun n=>UInt8.ofNat n.toNat).length+out_.length≤2147483648)) (cond (!((10:Int) == 0)) (some (.inl (w64 (k_.tdiv 10),(([v]).map fun n=>UInt8.ofNat n.toNat)++out_))) none) none) none) (some (.inr out_))
def Xw :(Int×List UInt8)→Option (List UInt8):=
 Ya6 fun s=>Xw.B s.1 s.2
def X0 (k:Int):Option (List UInt8):=
 cond (decide (k≤0)) (some ([109,48]:List UInt8)) ((Xw (k,([]:List UInt8))).bind fun o=>cond (decide (([109]:List UInt8).length+o.length≤2147483648)) (some (([109]:List UInt8)++o)) none)
namespace Xw
def c:=Yfw (Yfv Proofs.Tryd.f18) [1,1,1,0,0,0]
def sp:SP:=⟨[(0,.cs I64),(3,.cs .str)],[]⟩
def fr:=Ymu sp (fun x s=>Xw.B  s.1 s.2) (fun x=>(x.1.1,x.1.2.1)) fun x (bb0:List UInt8) _ kk0=>kk0 (.ex 0) ⟨[(3,.cs .str bb0)],[]⟩
theorem ok:Ybl PR 20 1 (.loop c) fr:=
 Yto Xg Xf h0 [(0,([3],[]))] (fun x s=>((s.1,s.2,x.1.2.2),x.2))
  (fun x s=>by simp only[B,mC,mB,mS,mO,mN];kernel_rfl)
end Xw
namespace X0
def pts:List PT:=[.cs I64]
def FS:FS:=Yh4 [.sh] pts (fun x=>X0 x.1) fun t=>⟨[.cs .str t],[]⟩
theorem ok:Yee PR 18 FS:=
 Ytu Xg Xf Proofs.Tryd.f18 h0 (.R (.R (.R (.L (.one (.fr 0)))))) (G:=(mkG [])) .nil (L:=mkL [(0,Xw.fr)]) (l:=[(0,.loop Xw.c)]) ⟨Lam.cons Xw.ok,trivial⟩
  (fun x=>by simp only[X0,mC,mB,mS,mO,mN];kernel_rfl)
end X0
def Xq.B (k_:Int) (i_:Int) (a_:List (List UInt8)):Option ((Int×Int×List (List UInt8))⊕(Int×List (List UInt8))):=
 cond (decide (i_<(a_.length:Int))) ((X0 k_).bind fun r=>cond (inB i_ a_.length) (some (.inl (w64 (k_+1),w64 (i_+1),a_.set i_.toNat r))) none) (some (.inr (k_,a_)))
def Xq :(Int×Int×List (List UInt8))→Option (Int×List (List UInt8)):=
 Ya6 fun s=>Xq.B s.1 s.2.1 s.2.2
def Xx (a:List (List UInt8)) (k:Int):Option (Int×List (List UInt8)):=
 (Xq (k,0,a)).bind fun o=>some (o.1,o.2)
namespace Xx
def G:Gam:=mkG [(18,X0.FS)]
theorem Gok:GOk PR G:=.cons X0.ok .nil
end Xx
namespace Xq
def c:=Yfw (Yfv Proofs.Tryd.f12) [1,0,1,0,0]
def sp:SP:=⟨[(0,.seg 0 []),(1,.cs I64),(5,.cs I64)],[(0,.reg,.cd (.sl .str))]⟩
def fr:=Ymu sp (fun x s=>Xq.B  s.1 s.2.1 s.2.2) (fun x=>(x.1.2.1,x.1.2.2.1,x.2.1)) fun x (bb0:Int×List (List UInt8)) _ kk0=>kk0 (.ex 0) ⟨[(1,.cs I64 bb0.1)],[sr 0 (.cd (.sl .str) bb0.2)]⟩
theorem ok:Ybl PR 20 2 (.loop c) fr:=
 Ytv Xg Xf h0 (G:=Xx.G) Xx.Gok [(0,([1],[0]))] (fun x s=>((x.1.1,s.1,s.2.1,x.1.2.2.2),(s.2.2,x.2.2)))
  (fun x s=>by simp only[B,mC,mB,mS,mO,mN];kernel_rfl)
end Xq
namespace Xx
def pts:List PT:=[.cd (.sl .str),.cs I64]
def FS:FS:=Yh4 [.mu,.sh] pts (fun x=>Xx x.1 x.2.1) fun t=>⟨[.cs I64 t.1],[.cd (.sl .str) t.2]⟩
theorem ok:Yee PR 12 FS:=
 Ytu Xg Xf Proofs.Tryd.f12 h0 (.R (.L (.R (.one (.fr 0))))) (G:=G) Gok (L:=mkL [(0,Xq.fr)]) (l:=[(0,.loop Xq.c)]) ⟨Lam.cons Xq.ok,trivial⟩
  (fun x=>by simp only[Xx,mC,mB,mS,mO,mN];kernel_rfl)
end Xx
def Xac (a:Xd) (k:Int):Option (Int×Xd):=
 (Xx a.2.1 k).bind fun r=>some (r.1,(a.1,r.2,a.2.2))
namespace Xac
def G:Gam:=mkG [(12,Xx.FS)]
def pts:List PT:=[.cd Xc,.cs I64]
def FS:FS:=Yh4 [.mu,.sh] pts (fun x=>Xac x.1 x.2.1) fun t=>⟨[.cs I64 t.1],[.cd Xc t.2]⟩
theorem ok:Yee PR 7 FS:=
 Ytu Xg Xf Proofs.Tryd.f7 ⟨[2],[],[],0⟩ .no (G:=G) (show GOk PR G from .cons Xx.ok .nil) (L:=mkL []) (l:=[]) hT
  (fun x=>by simp only[Xac,mC,mB,mS,mO,mN];kernel_rfl)
end Xac
def Xr.B (a:List (List UInt8)) (k_:Int) (i_:Int):Option ((Int×Int)⊕((Int⊕Int))):=
 cond (decide (i_<(a.length:Int))) (cond (inB i_ a.length) ((X0 k_).bind fun r=>cond (!((a.getD i_.toNat []) == r)) (some (.inr (.inl (-1)))) (some (.inl (w64 (k_+1),w64 (i_+1))))) none) (some (.inr (.inr k_)))
def Xr (a:List (List UInt8)):(Int×Int)→Option ((Int⊕Int)):=
 Ya6 fun s=>Xr.B a s.1 s.2
def Xy (a:List (List UInt8)) (k:Int):Option Int:=
 (Xr a (k,0)).bind fun o=>sel o (fun b=>some b) (fun c=>some c)
namespace Xy
def G:Gam:=mkG [(18,X0.FS)]
theorem Gok:GOk PR G:=.cons X0.ok .nil
end Xy
namespace Xr
def c:=Yfw (Yfv Proofs.Tryd.f13) [1,0,1,0,0]
def sp:SP:=⟨[(0,.cs (.sl .str)),(1,.cs I64),(5,.cs I64)],[]⟩
def fr:=Ymu sp (fun x s=>Xr.B x.1.1 s.1 s.2) (fun x=>(x.1.2.1,x.1.2.2.1)) fun x (oo0:(Int⊕Int)) _ kk0=>sel oo0 (fun bb0=>kk0 (.rt) ⟨[(4,.cs I64 bb0)],[]⟩) (fun cc0=>kk0 (.ex 0) ⟨[(1,.cs I64 cc0)],[]⟩)
theorem ok:Ybl PR 22 2 (.loop c) fr:=
 Ys3 Xg Xf h0 .no (G:=Xy.G) Xy.Gok (L:=mkL []) (l:=[]) hT [(0,([1],[]))] ([4],[]) (fun x s=>((x.1.1,s.1,s.2,x.1.2.2.2),x.2))
  (fun x s=>by simp only[B,mC,mB,mS,mO,mN];kernel_rfl)
end Xr
namespace Xy
def pts:List PT:=[.cs (.sl .str),.cs I64]
def FS:FS:=Yh4 [.sh,.sh] pts (fun x=>Xy x.1 x.2.1) fun t=>⟨[.cs I64 t],[]⟩
theorem ok:Yee PR 13 FS:=
 Ytu Xg Xf Proofs.Tryd.f13 h0 (.R (.L (.R (.one (.fr 0))))) (G:=G) Gok (L:=mkL [(0,Xr.fr)]) (l:=[(0,.loop Xr.c)]) ⟨Lam.cons Xr.ok,trivial⟩
  (fun x=>by simp only[Xy,mC,mB,mS,mO,mN];kernel_rfl)
end Xy
def X6 (a:Xd) (k:Int):Option Int:=
 (Xy a.2.1 k).bind fun r=>cond (decide (r<0)) (some (-1)) (some r)
namespace X6
def G:Gam:=mkG [(13,Xy.FS)]
def pts:List PT:=[.cs Xc,.cs I64]
def FS:FS:=Yh4 [.sh,.sh] pts (fun x=>X6 x.1 x.2.1) fun t=>⟨[.cs I64 t],[]⟩
theorem ok:Yee PR 8 FS:=
 Ytu Xg Xf Proofs.Tryd.f8 ⟨[2],[],[],0⟩ .no (G:=G) (show GOk PR G from .cons Xy.ok .nil) (L:=mkL []) (l:=[]) hT
  (fun x=>by simp only[X6,mC,mB,mS,mO,mN];kernel_rfl)
end X6
def Xae (aLine:List UInt8):Option Bool:=
 cond (decide ((aLine.length:Int)>1048576)) (some true) ((Zq4 aLine).bind fun r=>(X3 aLine).bind fun r2=>(X5 (r2.1,r2.2.1,r2.2.2) (r.1,r.2.1,r.2.2)).bind fun r3=>cond (!r3) (some false) ((Xac (r2.1,r2.2.1,r2.2.2) 1).bind fun r4=>(X6 (r2.1,r4.2.2.1,r2.2.2) 1).bind fun r5=>cond (decide (r5<0)) (some false) (cond (r5 != r4.1) (some false) ((X3 aLine).bind fun r6=>(X5 (r6.1,r6.2.1,r6.2.2) (r.1,r.2.1,r.2.2)).bind fun r7=>cond (!r7) (some false) ((X6 (r2.1,r4.2.2.1,r2.2.2) 1).bind fun r8=>cond (decide (r8<0)) (some false) (cond (r8 != r4.1) (some false) (some true)))))))
namespace Xae
def G:Gam:=mkG [(4,Zq4.FS),(5,X3.FS),(6,X5.FS),(7,Xac.FS),(8,X6.FS)]
def pts:List PT:=[.cs .str]
def FS:FS:=Yh4 [.sh] pts (fun x=>Xae x.1) fun t=>⟨[.cs .bool t],[]⟩
theorem ok:Yee PR 3 FS:=
 Ytu Xg Xf Proofs.Tryd.f3 h0 .no (G:=G) (show GOk PR G from .cons Zq4.ok (.cons X3.ok (.cons X5.ok (.cons Xac.ok (.cons X6.ok .nil))))) (L:=mkL []) (l:=[]) hT
  (fun x=>by simp only[Xae,mC,mB,mS,mO,mN];kernel_rfl)
end Xae
end Mf
