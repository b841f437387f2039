import Derived.Test.YthaonimonnheeaaGreatCheckDiskA1
noncomputable section
namespace Mf
open Go
set_option linter.unusedVariables false
set_option linter.unusedSimpArgs false
set_option maxRecDepth 100000
def Xdg.B (v:Fs_) (v5:List Xb) (v6:Int) (v7:Int) (v9:List Xc) (v8:Int) (v10:Int):Option (Int⊕((Int⊕Unit))):=
 cond (decide (v10<v8)) (cond (inB v10 v9.length) ((Xfo v.1).bind fun v11=>(some (decide ((v9.getD v10.toNat Xk).2.1≥v11))).bind fun v12=>cond (cond (!v12) (inB (v9.getD v10.toNat Xk).2.1 v.1.length) true) ((some (cond v12 true ((v.1.getD (v9.getD v10.toNat Xk).2.1.toNat Xa).1 == 0))).bind fun v13=>cond v13 (some (.inr (.inl 4))) (some (.inl (w64 (v10+1))))) none) none) (some (.inr (.inr ())))
def Xdg (v:Fs_) (v5:List Xb) (v6:Int) (v7:Int) (v9:List Xc) (v8:Int):Int→Option ((Int⊕Unit)):=
 Y9 fun s=>Xdg.B v v5 v6 v7 v9 v8 s
def Xfl.B (v:Fs_) (v5:List Xb) (v6:Int) (v7:Int):Option (Int⊕((Int⊕Unit))):=
 cond (decide (v7<v6)) (cond (inB v7 v5.length) ((some ((v5.getD v7.toNat Xa).2.2.2.2.1.length:Int)).bind fun v8=>(Xdg v v5 v6 v7 (v5.getD v7.toNat Xa).2.2.2.2.1 v8 0).bind fun v14=>sel v14 (fun v15=>some (.inr (.inl v15))) (fun v16=>some (.inl (w64 (v7+1))))) none) (some (.inr (.inr ())))
def Xfl (v:Fs_) (v5:List Xb) (v6:Int):Int→Option ((Int⊕Unit)):=
 Y9 fun s=>Xfl.B v v5 v6 s
def Xbm (v:Fs_):Option Int:=
 (Xhk v).bind fun v2=>cond (v2 != 0) (some v2) ((Xis v.2.1 ()).bind fun v3=>cond v3 (some 2) ((Xd7 v.1).bind fun v4=>cond (!v4.2) (some 7) ((Xfl v v.1 (v.1.length:Int) 0).bind fun v17=>sel v17 (fun v18=>some v18) (fun v19=>some 0))))
namespace Xbm
def G:Gam:=mkG [(181,Xhk.FS),(182,Xis.FS),(147,Xd7.FS),(184,Xfo.FS)]
theorem Gok:GOk PR G:=.cons Xhk.ok (.cons Xis.ok (.cons Xd7.ok (.cons Xfo.ok .nil)))
end Xbm
namespace Xdg
def c:=Yaq (Yah Proofs.Tryz.f112) [1,1,1,1,0,1,0,0,1,1,0,0,1,1,0,0]
def sp:SP:=⟨[(1,.pt Xj),(27,.cs (.sl Xe)),(28,.cs I64),(29,.cs I64),(34,.cs (.sl Xm)),(35,.cs I64),(36,.cs I64)],[]⟩
def fr:=Yi4 sp (fun x s=>Xdg.B x.1.1 x.1.2.1 x.1.2.2.1 x.1.2.2.2.1 x.1.2.2.2.2.1 x.1.2.2.2.2.2.1 s) (fun x=>x.1.2.2.2.2.2.2.1) fun x (oo0:(Int⊕Unit)) _ kk0=>sel oo0 (fun bb0=>kk0 (.rt) ⟨[(2,.cs I64 bb0)],[]⟩) (fun cc0=>kk0 (.ex 2) ⟨[(1,.pt Xj x.1.1),(27,.cs (.sl Xe) x.1.2.1),(28,.cs I64 x.1.2.2.1),(29,.cs I64 x.1.2.2.2.1)],[]⟩)
theorem ok:Ya4 PR 58 1 (.loop c) fr:=
 Ytd Xf Xg ⟨[1],[],[],0⟩ .no (G:=Xbm.G) Xbm.Gok (L:=mkL []) (l:=[]) hT [(2,([1,27,28,29],[]))] ([2],[]) (fun x s=>((x.1.1,x.1.2.1,x.1.2.2.1,x.1.2.2.2.1,x.1.2.2.2.2.1,x.1.2.2.2.2.2.1,s,x.1.2.2.2.2.2.2.2),x.2))
  (fun x s=>by simp only[B,mC,mB,mS,mO,mN];kernel_rfl)
end Xdg
namespace Xfl
def c:=Yaq (Yah Proofs.Tryz.f112) [1,1,1,1,0,1,0,0]
def sp:SP:=⟨[(1,.pt Xj),(27,.cs (.sl Xe)),(28,.cs I64),(29,.cs I64)],[]⟩
def fr:=Yi4 sp (fun x s=>Xfl.B x.1.1 x.1.2.1 x.1.2.2.1 s) (fun x=>x.1.2.2.2.1) fun x (oo0:(Int⊕Unit)) _ kk0=>sel oo0 (fun bb0=>kk0 (.rt) ⟨[(2,.cs I64 bb0)],[]⟩) (fun cc0=>kk0 (.ex 0) ⟨[],[]⟩)
theorem ok:Ya4 PR 58 1 (.loop c) fr:=
 Ytd Xf Xg ⟨[1],[],[],0⟩ (.R (.R (.L (.one (.R (.R (.one (.fr 1)))))))) (G:=Xbm.G) Xbm.Gok (L:=mkL [(1,Xdg.fr)]) (l:=[(1,.loop Xdg.c)]) ⟨Lam.cons Xdg.ok,trivial⟩ [(0,([],[]))] ([2],[]) (fun x s=>((x.1.1,x.1.2.1,x.1.2.2.1,s,x.1.2.2.2.2),x.2))
  (fun x s=>by simp only[B,mC,mB,mS,mO,mN];kernel_rfl)
end Xfl
namespace Xbm
def pts:List PT:=[.cs Xj]
def FS:FS:=Ybr [.sh] pts (fun x=>Xbm x.1) fun t=>⟨[.cs I64 t],[]⟩
theorem ok:Yb5 PR 112 FS:=
 Yxj Xf Xg Proofs.Tryz.f112 ⟨[1],[],[],0⟩ (.R (.R (.R (.R (.L (.R (.one (.fr 0)))))))) (G:=G) Gok (L:=mkL [(1,Xdg.fr),(0,Xfl.fr)]) (l:=[(0,.loop Xfl.c)]) ⟨Lam.skip rfl (Lam.cons Xfl.ok),trivial⟩
  (fun x=>by simp only[Xbm,mC,mB,mS,mO,mN];kernel_rfl)
end Xbm
def Xdc.B (v:List Xb) (v2:Int) (v3:Int) (v7:List Int) (v6:Int) (v4:List Int) (v10:Xb) (v8:Int) (v9:List Int):Option ((Int×List Int)⊕(List Int)):=
 cond (decide (v8<v6)) (cond (inB v8 v7.length) ((some (cond (decide ((w64 (v10.2.2.1-(w64 (v8*8))))<8)) (w64 (v10.2.2.1-(w64 (v8*8)))) 8)).bind fun v11=>cond (inB (v7.getD v8.toNat 0) 20) (some (.inl (w64 (v8+1),v9.set ((v7.getD v8.toNat 0).toNat) v11))) none) none) (some (.inr v9))
def Xdc (v:List Xb) (v2:Int) (v3:Int) (v7:List Int) (v6:Int) (v4:List Int) (v10:Xb):(Int×List Int)→Option (List Int):=
 Y9 fun s=>Xdc.B v v2 v3 v7 v6 v4 v10 s.1 s.2
def Xdz.B (v:List Xb) (v2:Int) (v4:List Int) (v3:Int) (v5:List Int):Option ((Int×List Int)⊕(List Int)):=
 cond (decide (v3<v2)) (cond (inB v3 v.length) ((some ((v.getD v3.toNat Xa).2.2.2.1.length:Int)).bind fun v6=>(Xdc v v2 v3 (v.getD v3.toNat Xa).2.2.2.1 v6 v4 (v.getD v3.toNat Xa) (0,v5)).bind fun v12=>some (.inl (w64 (v3+1),v12))) none) (some (.inr v5))
def Xdz (v:List Xb) (v2:Int) (v4:List Int):(Int×List Int)→Option (List Int):=
 Y9 fun s=>Xdz.B v v2 v4 s.1 s.2
def Xbl (v:List Xb):Option (List Int):=
 (Xdz v (v.length:Int) (List.replicate 20 0) (0,(List.replicate 20 0))).bind fun v13=>some v13
namespace Xdc
def c:=Yaq (Yah Proofs.Tryz.f139) [1,1,0,1,0,0,1,1,0,0,1,1,0,0]
def sp:SP:=⟨[(2,.loc 2 []),(3,.loc 3 []),(5,.loc 5 []),(8,.cs (.sl Xe)),(9,.cs I64),(10,.cs I64),(15,.cs SI),(16,.cs I64),(17,.cs I64)],[(2,.mem,.cd (.arr 20 I64)),(3,.mem,.cd (.arr 20 I64)),(5,.mem,.cs Xe)]⟩
def fr:=Yi4 sp (fun x s=>Xdc.B x.1.2.2.2.1 x.1.2.2.2.2.1 x.1.2.2.2.2.2.1 x.1.2.2.2.2.2.2.1 x.1.2.2.2.2.2.2.2.1 x.2.1 x.2.2.2.1 s.1 s.2) (fun x=>(x.1.2.2.2.2.2.2.2.2.1,x.2.2.1)) fun x (bb0:List Int) _ kk0=>kk0 (.ex 2) ⟨[(2,.loc 2 []),(3,.loc 3 []),(8,.cs (.sl Xe) x.1.2.2.2.1),(9,.cs I64 x.1.2.2.2.2.1),(10,.cs I64 x.1.2.2.2.2.2.1)],[(2,some ⟨.mem,.cd (.arr 20 I64) x.2.1⟩),(3,some ⟨.mem,.cd (.arr 20 I64) bb0⟩)]⟩
theorem ok:Ya4 PR 33 1 (.loop c) fr:=
 Yw6 Xf Xg h0 [(2,([2,3,8,9,10],[2,3]))] (fun x s=>((x.1.1,x.1.2.1,x.1.2.2.1,x.1.2.2.2.1,x.1.2.2.2.2.1,x.1.2.2.2.2.2.1,x.1.2.2.2.2.2.2.1,x.1.2.2.2.2.2.2.2.1,s.1,x.1.2.2.2.2.2.2.2.2.2),(x.2.1,s.2,x.2.2.2)))
  (fun x s=>by simp only[B,mC,mB,mS,mO,mN];kernel_rfl)
end Xdc
namespace Xdz
def c:=Yaq (Yah Proofs.Tryz.f139) [1,1,0,1,0,0]
def sp:SP:=⟨[(2,.loc 2 []),(3,.loc 3 []),(8,.cs (.sl Xe)),(9,.cs I64),(10,.cs I64)],[(2,.mem,.cd (.arr 20 I64)),(3,.mem,.cd (.arr 20 I64))]⟩
def fr:=Yi4 sp (fun x s=>Xdz.B x.1.2.2.1 x.1.2.2.2.1 x.2.1 s.1 s.2) (fun x=>(x.1.2.2.2.2.1,x.2.2.1)) fun x (bb0:List Int) _ kk0=>kk0 (.ex 0) ⟨[(2,.loc 2 []),(3,.loc 3 [])],[(2,some ⟨.mem,.cd (.arr 20 I64) x.2.1⟩),(3,some ⟨.mem,.cd (.arr 20 I64) bb0⟩)]⟩
theorem ok:Ya4 PR 33 1 (.loop c) fr:=
 Yxl Xf Xg h0 (.R (.R (.L (.one (.R (.R (.one (.fr 1)))))))) (L:=mkL [(1,Xdc.fr)]) (l:=[(1,.loop Xdc.c)]) ⟨Lam.cons Xdc.ok,trivial⟩ [(0,([2,3],[2,3]))] (fun x s=>((x.1.1,x.1.2.1,x.1.2.2.1,x.1.2.2.2.1,s.1,x.1.2.2.2.2.2),(x.2.1,s.2,x.2.2.2)))
  (fun x s=>by simp only[B,mC,mB,mS,mO,mN];kernel_rfl)
end Xdz
namespace Xbl
def pts:List PT:=[.cs (.sl Xe)]
def FS:FS:=Ybr [.sh] pts (fun x=>Xbl x.1) fun t=>⟨[.cs (.arr 20 I64) t],[]⟩
theorem ok:Yb5 PR 139 FS:=
 Yxj Xf Xg Proofs.Tryz.f139 h0 (.R (.R (.L (.R (.one (.fr 0)))))) (G:=(mkG [])) .nil (L:=mkL [(1,Xdc.fr),(0,Xdz.fr)]) (l:=[(0,.loop Xdz.c)]) ⟨Lam.skip rfl (Lam.cons Xdz.ok),trivial⟩
  (fun x=>by simp only[Xbl,mC,mB,mS,mO,mN];kernel_rfl)
end Xbl
def Xj8 (v:Int):Option Bool:=
 some (decide (v>255))
namespace Xj8
def pts:List PT:=[.cs I64]
def FS:FS:=Ybr [.sh] pts (fun x=>Xj8 x.1) fun t=>⟨[.cs .bool t],[]⟩
theorem ok:Yb5 PR 202 FS:=
 Yxj Xf Xg Proofs.Tryz.f202 h0 .no (G:=(mkG [])) .nil (L:=mkL []) (l:=[]) hT
  (fun x=>by simp only[Xj8,mC,mB,mS,mO,mN];kernel_rfl)
end Xj8
def Xdj.B (v:List Int) (v2:Unit) (v3:Int) (v4:Int):Option (Int⊕((Int⊕Unit))):=
 cond (decide (v4<v3)) (cond (inB v4 v.length) ((Xj8 (v.getD v4.toNat 0)).bind fun v5=>cond v5 (some (.inr (.inl v4))) (some (.inl (w64 (v4+1))))) none) (some (.inr (.inr ())))
def Xdj (v:List Int) (v2:Unit) (v3:Int):Int→Option ((Int⊕Unit)):=
 Y9 fun s=>Xdj.B v v2 v3 s
def Xfn (v:List Int) (v2:Unit):Option Int:=
 (Xdj v v2 (v.length:Int) 0).bind fun v6=>sel v6 (fun v7=>some v7) (fun v8=>some (-1))
namespace Xfn
def G:Gam:=mkG [(202,Xj8.FS)]
theorem Gok:GOk PR G:=.cons Xj8.ok .nil
end Xfn
namespace Xdj
def c:=Yaq (Yah Proofs.Tryz.f233) [1,0,1,0,0]
def sp:SP:=⟨[(0,.cs SI),(1,.clo 202 (.cs .unit)),(7,.cs I64),(8,.cs I64)],[]⟩
def fr:=Yi4 sp (fun x s=>Xdj.B x.1.1 x.1.2.1 x.1.2.2.1 s) (fun x=>x.1.2.2.2.1) fun x (oo0:(Int⊕Unit)) _ kk0=>sel oo0 (fun bb0=>kk0 (.rt) ⟨[(4,.cs I64 bb0)],[]⟩) (fun cc0=>kk0 (.ex 0) ⟨[],[]⟩)
theorem ok:Ya4 PR 19 2 (.loop c) fr:=
 Ytd Xf Xg h0 .no (G:=Xfn.G) Xfn.Gok (L:=mkL []) (l:=[]) hT [(0,([],[]))] ([4],[]) (fun x s=>((x.1.1,x.1.2.1,x.1.2.2.1,s,x.1.2.2.2.2),x.2))
  (fun x s=>by simp only[B,mC,mB,mS,mO,mN];kernel_rfl)
end Xdj
namespace Xfn
def pts:List PT:=[.cs SI,.clo 202 (.cs .unit)]
def FS:FS:=Ybr [.sh,.sh] pts (fun x=>Xfn x.1 x.2.1) fun t=>⟨[.cs I64 t],[]⟩
theorem ok:Yb5 PR 233 FS:=
 Yxj Xf Xg Proofs.Tryz.f233 h0 (.R (.L (.R (.one (.fr 0))))) (G:=G) Gok (L:=mkL [(0,Xdj.fr)]) (l:=[(0,.loop Xdj.c)]) ⟨Lam.cons Xdj.ok,trivial⟩
  (fun x=>by simp only[Xfn,mC,mB,mS,mO,mN];kernel_rfl)
end Xfn
def Xh1 (v:List Int) (v2:Unit):Option Bool:=
 (Xfn v v2).bind fun v3=>some (decide (v3≥0))
namespace Xh1
def G:Gam:=mkG [(233,Xfn.FS)]
def pts:List PT:=[.cs SI,.clo 202 (.cs .unit)]
def FS:FS:=Ybr [.sh,.sh] pts (fun x=>Xh1 x.1 x.2.1) fun t=>⟨[.cs .bool t],[]⟩
theorem ok:Yb5 PR 201 FS:=
 Yxj Xf Xg Proofs.Tryz.f201 h0 .no (G:=G) (show GOk PR G from .cons Xfn.ok .nil) (L:=mkL []) (l:=[]) hT
  (fun x=>by simp only[Xh1,mC,mB,mS,mO,mN];kernel_rfl)
end Xh1
def Xde.B (v:List Xb) (v8:List Xc) (v9:Int) (v7:List Bool) (v10:Int) (v11:List Int):Option ((Int×List Int)⊕(List Int)):=
 cond (decide (v10<v9)) (cond (inB v10 v8.length) (cond (decide ((v11++([(v8.getD v10.toNat Xk).2.1])).length≤2147483648)) (some (.inl (w64 (v10+1),v11++([(v8.getD v10.toNat Xk).2.1])))) none) none) (some (.inr v11))
def Xde (v:List Xb) (v8:List Xc) (v9:Int) (v7:List Bool):(Int×List Int)→Option (List Int):=
 Y9 fun s=>Xde.B v v8 v9 v7 s.1 s.2
def Xbu.B (v:List Xb) (v3:List Bool) (v4:List Int):Option (((List Bool)×List Int)⊕(List Bool)):=
 cond (decide ((v4.length:Int)>0)) (cond (inB (w64 ((v4.length:Int)-1)) v4.length) (cond (decide ((0:Int)≤(w64 ((v4.length:Int)-1)))&&decide ((w64 ((v4.length:Int)-1))≤(v4.length:Int))) ((some ((v4.drop 0).take (((w64 ((v4.length:Int)-1)).toNat)-0))).bind fun v5=>cond (inB (v4.getD ((w64 ((v4.length:Int)-1)).toNat) 0) v3.length) ((some (v3.getD ((v4.getD ((w64 ((v4.length:Int)-1)).toNat) 0).toNat) false)).bind fun v6=>cond v6 (some (.inl (v3,v5))) (cond (inB (v4.getD ((w64 ((v4.length:Int)-1)).toNat) 0) v3.length) ((some (v3.set ((v4.getD ((w64 ((v4.length:Int)-1)).toNat) 0).toNat) true)).bind fun v7=>cond (inB (v4.getD ((w64 ((v4.length:Int)-1)).toNat) 0) v.length) ((some (v.getD (v4.getD ((w64 ((v4.length:Int)-1)).toNat) 0).toNat Xa).2.2.2.2.1).bind fun v8=>(Xde v v8 (v8.length:Int) v7 (0,v5)).bind fun v12=>some (.inl (v7,v12))) none) none)) none) none) none) (some (.inr v3))
def Xbu (v:List Xb):((List Bool)×List Int)→Option (List Bool):=
 Y9 fun s=>Xbu.B v s.1 s.2
def Xei.B (v14:Int) (v13:List Bool) (v15:Int) (v16:List Int):Option ((Int×List Int)⊕(List Int)):=
 cond (decide (v15<v14)) (cond (inB v15 v13.length) (cond (v13.getD v15.toNat false) (cond (decide ((v16++([v15])).length≤2147483648)) (some (.inl (w64 (v15+1),v16++([v15])))) none) (some (.inl (w64 (v15+1),v16)))) none) (some (.inr v16))
def Xei (v14:Int) (v13:List Bool):(Int×List Int)→Option (List Int):=
 Y9 fun s=>Xei.B v14 v13 s.1 s.2
def Xg3 (v:List Xb) (v2:Int):Option (List Int):=
 cond (decide ((0:Int)≤(v.length:Int))&&(decide ((v.length:Int)≤(v.length:Int))&&decide ((v.length:Int)≤2147483648))) ((Xbu v (List.replicate (v.length:Int).toNat false,[v2])).bind fun v13=>(Xei (v13.length:Int) v13 (0,[])).bind fun v17=>some v17) none
namespace Xde
def c:=Yaq (Yah Proofs.Tryz.f185) [1,1,1,0,0,0,1,0,1,1,1,1,1,0,0]
def sp:SP:=⟨[(0,.cs (.sl Xe)),(5,.seg 5 []),(6,.seg 6 []),(43,.cs (.sl Xm)),(44,.cs I64),(45,.cs I64)],[(5,.reg,.cd (.sl .bool)),(6,.reg,.cd SI)]⟩
def fr:=Yi4 sp (fun x s=>Xde.B x.1.1 x.1.2.2.2.1 x.1.2.2.2.2.1 x.2.1 s.1 s.2) (fun x=>(x.1.2.2.2.2.2.1,x.2.2.1)) fun x (bb0:List Int) _ kk0=>kk0 (.ex 2) ⟨[(0,.cs (.sl Xe) x.1.1),(5,.seg 5 []),(6,.seg 6 [])],[sr 5 (.cd (.sl .bool) x.2.1),sr 6 (.cd SI bb0)]⟩
theorem ok:Ya4 PR 69 2 (.loop c) fr:=
 Yw6 Xf Xg h0 [(2,([0,5,6],[5,6]))] (fun x s=>((x.1.1,x.1.2.1,x.1.2.2.1,x.1.2.2.2.1,x.1.2.2.2.2.1,s.1,x.1.2.2.2.2.2.2),(x.2.1,s.2,x.2.2.2)))
  (fun x s=>by simp only[B,mC,mB,mS,mO,mN];kernel_rfl)
end Xde
namespace Xbu
def c:=Yaq (Yah Proofs.Tryz.f185) [1,1,1,0,0,0]
def sp:SP:=⟨[(0,.cs (.sl Xe)),(5,.seg 5 []),(6,.seg 6 [])],[(5,.reg,.cd (.sl .bool)),(6,.reg,.cd SI)]⟩
def fr:=Yi4 sp (fun x s=>Xbu.B x.1.1 s.1 s.2) (fun x=>(x.2.1,x.2.2.1)) fun x (bb0:List Bool) _ kk0=>kk0 (.ex 0) ⟨[(5,.seg 5 [])],[sr 5 (.cd (.sl .bool) bb0)]⟩
theorem ok:Ya4 PR 69 2 (.loop c) fr:=
 Yxl Xf Xg h0 (.R (.one (.R (.R (.R (.R (.R (.one (.fr 1))))))))) (L:=mkL [(1,Xde.fr)]) (l:=[(1,.loop Xde.c)]) ⟨Lam.cons Xde.ok,trivial⟩ [(0,([5],[5]))] (fun x s=>(x.1,(s.1,s.2,x.2.2.2)))
  (fun x s=>by simp only[B,mC,mB,mS,mO,mN];kernel_rfl)
end Xbu
namespace Xei
def c:=Yaq (Yah Proofs.Tryz.f185) [1,1,1,1,1,0,1,0,0]
def sp:SP:=⟨[(10,.seg 10 []),(55,.seg 5 []),(56,.cs I64),(57,.cs I64)],[(5,.reg,.cd (.sl .bool)),(10,.reg,.cd SI)]⟩
def fr:=Yi4 sp (fun x s=>Xei.B x.1.2.2.1 x.2.1 s.1 s.2) (fun x=>(x.1.2.2.2.1,x.2.2.1)) fun x (bb0:List Int) _ kk0=>kk0 (.ex 4) ⟨[(10,.seg 10 [])],[sr 10 (.cd SI bb0)]⟩
theorem ok:Ya4 PR 69 2 (.loop c) fr:=
 Yw6 Xf Xg h0 [(4,([10],[10]))] (fun x s=>((x.1.1,x.1.2.1,x.1.2.2.1,s.1,x.1.2.2.2.2),(x.2.1,s.2,x.2.2.2)))
  (fun x s=>by simp only[B,mC,mB,mS,mO,mN];kernel_rfl)
end Xei
namespace Xg3
def pts:List PT:=[.cs (.sl Xe),.cs I64]
def FS:FS:=Ybr [.sh,.sh] pts (fun x=>Xg3 x.1 x.2.1) fun t=>⟨[.cd SI t],[]⟩
theorem ok:Yb5 PR 185 FS:=
 Yxj Xf Xg Proofs.Tryz.f185 h0 (.R (.R (.R (.two (.one (.fr 0)) (.R (.L (.R (.one (.fr 2))))))))) (G:=(mkG [])) .nil (L:=mkL [(1,Xde.fr),(0,Xbu.fr),(2,Xei.fr)]) (l:=[(0,.loop Xbu.c),(2,.loop Xei.c)]) ⟨Lam.skip rfl (Lam.cons Xbu.ok),Lam.skip rfl (Lam.skip rfl (Lam.cons Xei.ok)),trivial⟩
  (fun x=>by simp only[Xg3,mC,mB,mS,mO,mN];kernel_rfl)
end Xg3
def Xcz.B (v2:Int) (v:List Xb) (v4:Int) (v5:Int) (v8:List Xc) (v6:Int) (v7:Int) (v9:Int):Option ((Int×Int)⊕Int):=
 cond (decide (v9<v6)) (cond (inB v9 v8.length) (cond ((v8.getD v9.toNat Xk).2.1 == v2) (some (.inl (w64 (v7+1),w64 (v9+1)))) (some (.inl (v7,w64 (v9+1))))) none) (some (.inr v7))
def Xcz (v2:Int) (v:List Xb) (v4:Int) (v5:Int) (v8:List Xc) (v6:Int):(Int×Int)→Option Int:=
 Y9 fun s=>Xcz.B v2 v v4 v5 v8 v6 s.1 s.2
def Xew.B (v2:Int) (v:List Xb) (v4:Int) (v3:Int) (v5:Int):Option ((Int×Int)⊕Int):=
 cond (decide (v5<v4)) (cond (inB v5 v.length) ((some ((v.getD v5.toNat Xa).2.2.2.2.1.length:Int)).bind fun v6=>(Xcz v2 v v4 v5 (v.getD v5.toNat Xa).2.2.2.2.1 v6 (v3,0)).bind fun v10=>some (.inl (v10,w64 (v5+1)))) none) (some (.inr v3))
def Xew (v2:Int) (v:List Xb) (v4:Int):(Int×Int)→Option Int:=
 Y9 fun s=>Xew.B v2 v v4 s.1 s.2
def Xir (v:List Xb) (v2:Int):Option Int:=
 (Xew v2 v (v.length:Int) (0,0)).bind fun v11=>some v11
namespace Xcz
def c:=Yaq (Yah Proofs.Tryz.f186) [1,1,0,1,0,0,1,1,0,0,1,1,0,0]
def sp:SP:=⟨[(1,.cs I64),(5,.cs I64),(10,.cs (.sl Xe)),(11,.cs I64),(12,.cs I64),(17,.cs (.sl Xm)),(18,.cs I64),(19,.cs I64)],[]⟩
def fr:=Yi4 sp (fun x s=>Xcz.B x.1.1 x.1.2.2.1 x.1.2.2.2.1 x.1.2.2.2.2.1 x.1.2.2.2.2.2.1 x.1.2.2.2.2.2.2.1 s.1 s.2) (fun x=>(x.1.2.1,x.1.2.2.2.2.2.2.2.1)) fun x (bb0:Int) _ kk0=>kk0 (.ex 2) ⟨[(1,.cs I64 x.1.1),(5,.cs I64 bb0),(10,.cs (.sl Xe) x.1.2.2.1),(11,.cs I64 x.1.2.2.2.1),(12,.cs I64 x.1.2.2.2.2.1)],[]⟩
theorem ok:Ya4 PR 32 2 (.loop c) fr:=
 Yw6 Xf Xg h0 [(2,([1,5,10,11,12],[]))] (fun x s=>((x.1.1,s.1,x.1.2.2.1,x.1.2.2.2.1,x.1.2.2.2.2.1,x.1.2.2.2.2.2.1,x.1.2.2.2.2.2.2.1,s.2,x.1.2.2.2.2.2.2.2.2),x.2))
  (fun x s=>by simp only[B,mC,mB,mS,mO,mN];kernel_rfl)
end Xcz
namespace Xew
def c:=Yaq (Yah Proofs.Tryz.f186) [1,1,0,1,0,0]
def sp:SP:=⟨[(1,.cs I64),(5,.cs I64),(10,.cs (.sl Xe)),(11,.cs I64),(12,.cs I64)],[]⟩
def fr:=Yi4 sp (fun x s=>Xew.B x.1.1 x.1.2.2.1 x.1.2.2.2.1 s.1 s.2) (fun x=>(x.1.2.1,x.1.2.2.2.2.1)) fun x (bb0:Int) _ kk0=>kk0 (.ex 0) ⟨[(5,.cs I64 bb0)],[]⟩
theorem ok:Ya4 PR 32 2 (.loop c) fr:=
 Yxl Xf Xg h0 (.R (.R (.L (.one (.R (.R (.one (.fr 1)))))))) (L:=mkL [(1,Xcz.fr)]) (l:=[(1,.loop Xcz.c)]) ⟨Lam.cons Xcz.ok,trivial⟩ [(0,([5],[]))] (fun x s=>((x.1.1,s.1,x.1.2.2.1,x.1.2.2.2.1,s.2,x.1.2.2.2.2.2),x.2))
  (fun x s=>by simp only[B,mC,mB,mS,mO,mN];kernel_rfl)
end Xew
namespace Xir
def pts:List PT:=[.cs (.sl Xe),.cs I64]
def FS:FS:=Ybr [.sh,.sh] pts (fun x=>Xir x.1 x.2.1) fun t=>⟨[.cs I64 t],[]⟩
theorem ok:Yb5 PR 186 FS:=
 Yxj Xf Xg Proofs.Tryz.f186 h0 (.R (.R (.L (.R (.one (.fr 0)))))) (G:=(mkG [])) .nil (L:=mkL [(1,Xcz.fr),(0,Xew.fr)]) (l:=[(0,.loop Xew.c)]) ⟨Lam.skip rfl (Lam.cons Xew.ok),trivial⟩
  (fun x=>by simp only[Xir,mC,mB,mS,mO,mN];kernel_rfl)
end Xir
def Xfx.B (v:Fs_) (v3:List Xb) (v4:Int) (v2:List Int) (v5:Int):Option (Int⊕((Int⊕Unit))):=
 cond (decide (v5<v4)) (cond (inB v5 v3.length) ((Xir v.1 v5).bind fun v6=>(some (cond ((v3.getD v5.toNat Xa).1 == 1) ((v3.getD v5.toNat Xa).2.1 != v6) false)).bind fun v7=>cond v7 (some (.inr (.inl 1))) ((some (cond ((v3.getD v5.toNat Xa).1 == 2) (v5 == 0) false)).bind fun v8=>cond (cond v8 (v6 != 0) false) (some (.inr (.inl 1))) ((some (cond ((v3.getD v5.toNat Xa).1 == 2) (decide (v5>0)) false)).bind fun v9=>cond (cond v9 (v6 != 1) false) (some (.inr (.inl 1))) (cond ((v3.getD v5.toNat Xa).1 != 0) ((Xb6 v2 v5).bind fun v10=>cond (!v10) (some (.inr (.inl 1))) (some (.inl (w64 (v5+1))))) (some (.inl (w64 (v5+1)))))))) none) (some (.inr (.inr ())))
def Xfx (v:Fs_) (v3:List Xb) (v4:Int) (v2:List Int):Int→Option ((Int⊕Unit)):=
 Y9 fun s=>Xfx.B v v3 v4 v2 s
def Xdr (v:Fs_):Option Int:=
 (Xg3 v.1 0).bind fun v2=>(Xfx v v.1 (v.1.length:Int) v2 0).bind fun v11=>sel v11 (fun v12=>some v12) (fun v13=>some 0)
namespace Xdr
def G:Gam:=mkG [(185,Xg3.FS),(186,Xir.FS),(148,Xb6.FS)]
theorem Gok:GOk PR G:=.cons Xg3.ok (.cons Xir.ok (.cons Xb6.ok .nil))
end Xdr
namespace Xfx
def c:=Yaq (Yah Proofs.Tryz.f113) [1,1,0,1,0,0]
def sp:SP:=⟨[(1,.pt Xj),(3,.seg 3 []),(12,.cs (.sl Xe)),(13,.cs I64),(14,.cs I64)],[(3,.reg,.cd SI)]⟩
def fr:=Yi4 sp (fun x s=>Xfx.B x.1.1 x.1.2.2.1 x.1.2.2.2.1 x.2.1 s) (fun x=>x.1.2.2.2.2.1) fun x (oo0:(Int⊕Unit)) _ kk0=>sel oo0 (fun bb0=>kk0 (.rt) ⟨[(2,.cs I64 bb0)],[]⟩) (fun cc0=>kk0 (.ex 0) ⟨[],[]⟩)
theorem ok:Ya4 PR 66 1 (.loop c) fr:=
 Ytd Xf Xg ⟨[1],[],[],0⟩ .no (G:=Xdr.G) Xdr.Gok (L:=mkL []) (l:=[]) hT [(0,([],[]))] ([2],[]) (fun x s=>((x.1.1,x.1.2.1,x.1.2.2.1,x.1.2.2.2.1,s,x.1.2.2.2.2.2),x.2))
  (fun x s=>by simp only[B,mC,mB,mS,mO,mN];kernel_rfl)
end Xfx
namespace Xdr
def pts:List PT:=[.cs Xj]
def FS:FS:=Ybr [.sh] pts (fun x=>Xdr x.1) fun t=>⟨[.cs I64 t],[]⟩
theorem ok:Yb5 PR 113 FS:=
 Yxj Xf Xg Proofs.Tryz.f113 ⟨[1],[],[],0⟩ (.R (.R (.L (.R (.one (.fr 0)))))) (G:=G) Gok (L:=mkL [(0,Xfx.fr)]) (l:=[(0,.loop Xfx.c)]) ⟨Lam.cons Xfx.ok,trivial⟩
  (fun x=>by simp only[Xdr,mC,mB,mS,mO,mN];kernel_rfl)
end Xdr
def Xbn (v:List Int):Option Int:=
 some (v.length:Int)
namespace Xbn
def pts:List PT:=[.cs SB]
def FS:FS:=Ybr [.sh] pts (fun x=>Xbn x.1) fun t=>⟨[.cs I64 t],[]⟩
theorem ok:Yb5 PR 141 FS:=
 Yxj Xf Xg Proofs.Tryz.f141 h0 .no (G:=(mkG [])) .nil (L:=mkL []) (l:=[]) hT
  (fun x=>by simp only[Xbn,mC,mB,mS,mO,mN];kernel_rfl)
end Xbn
def Xgj.B (v:Fs_) (v2:List Int) (v3:Int):Option (Int⊕((Int⊕Unit))):=
 cond (decide (v3<20)) (cond (inB v3 20) (cond (inB v3 v.2.1.length) ((Xbn (v.2.1.getD v3.toNat [])).bind fun v4=>cond (v4 != (v2.getD v3.toNat 0)) (some (.inr (.inl 1))) (some (.inl (w64 (v3+1))))) none) none) (some (.inr (.inr ())))
def Xgj (v:Fs_) (v2:List Int):Int→Option ((Int⊕Unit)):=
 Y9 fun s=>Xgj.B v v2 s
def Xd3 (v:Fs_):Option Int:=
 (Xbl v.1).bind fun v2=>(Xgj v v2 0).bind fun v5=>sel v5 (fun v6=>some v6) (fun v7=>some 0)
namespace Xd3
def G:Gam:=mkG [(139,Xbl.FS),(141,Xbn.FS)]
theorem Gok:GOk PR G:=.cons Xbl.ok (.cons Xbn.ok .nil)
end Xd3
namespace Xgj
def c:=Yaq (Yah Proofs.Tryz.f114) [1,0,1,0,0]
def sp:SP:=⟨[(1,.pt Xj),(7,.cs (.arr 20 I64)),(8,.cs I64)],[]⟩
def fr:=Yi4 sp (fun x s=>Xgj.B x.1.1 x.1.2.1 s) (fun x=>x.1.2.2.1) fun x (oo0:(Int⊕Unit)) _ kk0=>sel oo0 (fun bb0=>kk0 (.rt) ⟨[(2,.cs I64 bb0)],[]⟩) (fun cc0=>kk0 (.ex 0) ⟨[],[]⟩)
theorem ok:Ya4 PR 21 1 (.loop c) fr:=
 Ytd Xf Xg ⟨[1],[],[],0⟩ .no (G:=Xd3.G) Xd3.Gok (L:=mkL []) (l:=[]) hT [(0,([],[]))] ([2],[]) (fun x s=>((x.1.1,x.1.2.1,s,x.1.2.2.2),x.2))
  (fun x s=>by simp only[B,mC,mB,mS,mO,mN];kernel_rfl)
end Xgj
namespace Xd3
def pts:List PT:=[.cs Xj]
def FS:FS:=Ybr [.sh] pts (fun x=>Xd3 x.1) fun t=>⟨[.cs I64 t],[]⟩
theorem ok:Yb5 PR 114 FS:=
 Yxj Xf Xg Proofs.Tryz.f114 ⟨[1],[],[],0⟩ (.R (.L (.R (.one (.fr 0))))) (G:=G) Gok (L:=mkL [(0,Xgj.fr)]) (l:=[(0,.loop Xgj.c)]) ⟨Lam.cons Xgj.ok,trivial⟩
  (fun x=>by simp only[Xd3,mC,mB,mS,mO,mN];kernel_rfl)
end Xd3
def Xio (v:Fs_):Option Int:=
 (Xbm v).bind fun v2=>cond (v2 != 0) (some v2) ((Xdr v).bind fun v3=>cond (v3 != 0) (some v3) ((Xd3 v).bind fun v4=>some v4))
namespace Xio
def G:Gam:=mkG [(112,Xbm.FS),(113,Xdr.FS),(114,Xd3.FS)]
def pts:List PT:=[.cs Xj]
def FS:FS:=Ybr [.sh] pts (fun x=>Xio x.1) fun t=>⟨[.cs I64 t],[]⟩
theorem ok:Yb5 PR 54 FS:=
 Yxj Xf Xg Proofs.Tryz.f54 ⟨[1],[],[],0⟩ .no (G:=G) (show GOk PR G from .cons Xbm.ok (.cons Xdr.ok (.cons Xd3.ok .nil))) (L:=mkL []) (l:=[]) hT
  (fun x=>by simp only[Xio,mC,mB,mS,mO,mN];kernel_rfl)
end Xio
def Xc7.B (v:Xd) (v4:Fs_) (v2:Int) (v3:Int) (v5:Fs_):Option ((Int×Int×Fs_)⊕(((Int×Fs_)⊕(Int×Fs_)))):=
 cond (decide (v3<10)) ((Xb8 v (w64 ((17:Int)+v3))).bind fun v6=>(Xh3 v6).bind fun v7=>cond (v7.2 != 0) (some (.inr (.inl (v7.2,([],[],()))))) ((some (v5.1++([(v7.1.1,v7.1.2.1,v7.1.2.2.1,v7.1.2.2.2.1,v7.1.2.2.2.2.1,v7.1.2.2.2.2.2)]))).bind fun v8=>cond (decide (v8.length≤2147483648)) (cond (decide ((v6.length:Int)>0)) (some (.inl (w64 (v3+1),w64 (v3+1),(v8,v5.2)))) (some (.inl (v2,w64 (v3+1),(v8,v5.2))))) none)) (some (.inr (.inr (v2,v5))))
def Xc7 (v:Xd) (v4:Fs_):(Int×Int×Fs_)→Option (((Int×Fs_)⊕(Int×Fs_))):=
 Y9 fun s=>Xc7.B v v4 s.1 s.2.1 s.2.2
def Xdi.B (v:Xd) (v14:Int) (v13:List Int) (v21:Int) (v17:List Int) (v22:Int) (v23:List Int) (v19:Bool) (v24:List Int) (v20:Int) (v15:Fs_) (v25:Int) (v26:Fs_):Option ((Int×Fs_)⊕Fs_):=
 cond (decide (v25<v20)) (cond (inB v25 v24.length) (cond (inB v14 v26.2.1.length) ((some ((v26.2.1.getD v14.toNat [])++([IntKind.u8.wrap (v24.getD v25.toNat 0)]))).bind fun v27=>cond (decide (v27.length≤2147483648)) (cond (inB v14 v26.2.1.length) (cond (Nat.beq v14.toNat v14.toNat&&true) (some (.inl (w64 (v25+1),(v26.1,v26.2.1.set v14.toNat v27,v26.2.2)))) none) none) none) none) none) (some (.inr v26))
def Xdi (v:Xd) (v14:Int) (v13:List Int) (v21:Int) (v17:List Int) (v22:Int) (v23:List Int) (v19:Bool) (v24:List Int) (v20:Int) (v15:Fs_):(Int×Fs_)→Option Fs_:=
 Y9 fun s=>Xdi.B v v14 v13 v21 v17 v22 v23 v19 v24 v20 v15 s.1 s.2
def Xdy.B (v:Xd) (v13:List Int) (v15:Fs_) (v14:Int) (v16:Fs_):Option ((Int×Fs_)⊕(((Int×Fs_)⊕Fs_))):=
 cond (decide (v14<20)) (cond (inB v14 20) ((Xb8 v (w64 ((27:Int)+v14))).bind fun v17=>(Xap v17).bind fun v18=>cond (decide (v18<(v13.getD v14.toNat 0))) (some (.inr (.inl (5,([],[],()))))) (cond (decide ((0:Int)≤(v13.getD v14.toNat 0))&&decide ((v13.getD v14.toNat 0)≤(v17.length:Int))) ((Xh1 ((v17.take ((v13.getD v14.toNat 0).toNat)).drop 0) ()).bind fun v19=>cond v19 (some (.inr (.inl (5,([],[],()))))) (cond (decide ((0:Int)≤(v13.getD v14.toNat 0))&&decide ((v13.getD v14.toNat 0)≤(v17.length:Int))) ((some (((v17.take ((v13.getD v14.toNat 0).toNat)).drop 0).length:Int)).bind fun v20=>(Xdi v v14 v13 v14 v17 (v13.getD v14.toNat 0) ((v17.take ((v13.getD v14.toNat 0).toNat)).drop 0) v19 ((v17.take ((v13.getD v14.toNat 0).toNat)).drop 0) v20 v15 (0,v16)).bind fun v28=>some (.inl (w64 (v14+1),v28))) none)) none)) none) (some (.inr (.inr v16)))
def Xdy (v:Xd) (v13:List Int) (v15:Fs_):(Int×Fs_)→Option (((Int×Fs_)⊕Fs_)):=
 Y9 fun s=>Xdy.B v v13 v15 s.1 s.2
def Xbo (v:Xd):Option (Fs_×Int):=
 cond (decide ((0:Int)≤(20:Int))&&(decide ((20:Int)≤(20:Int))&&decide ((20:Int)≤2147483648))) ((Xc7 v ([],[],()) (0,0,([],List.replicate (20:Int).toNat ([]:List Int),()))).bind fun v9=>sel v9 (fun v10=>some ((v10.2.1,v10.2.2.1,v10.2.2.2),v10.1)) (fun v11=>cond (decide ((0:Int)≤v11.1)&&decide (v11.1≤(v11.2.1.length:Int))) ((Xbm ((v11.2.1.drop 0).take (v11.1.toNat-0),v11.2.2.1,v11.2.2.2)).bind fun v12=>cond (v12 != 0) (some (([],[],()),v12)) ((Xbl ((v11.2.1.drop 0).take (v11.1.toNat-0))).bind fun v13=>(Xdy v v13 ([],[],()) (0,((v11.2.1.drop 0).take (v11.1.toNat-0),v11.2.2))).bind fun v29=>sel v29 (fun v30=>some ((v30.2.1,v30.2.2.1,v30.2.2.2),v30.1)) (fun v31=>(Xio (v31.1,v31.2.1,v31.2.2)).bind fun v32=>some ((v31.1,v31.2.1,v31.2.2),v32)))) none)) none
namespace Xbo
def G:Gam:=mkG [(110,Xb8.FS),(200,Xh3.FS),(112,Xbm.FS),(139,Xbl.FS),(138,Xap.FS),(201,Xh1.FS),(54,Xio.FS)]
theorem Gok:GOk PR G:=.cons Xb8.ok (.cons Xh3.ok (.cons Xbm.ok (.cons Xbl.ok (.cons Xap.ok (.cons Xh1.ok (.cons Xio.ok .nil))))))
end Xbo
namespace Xc7
def c:=Yaq (Yah Proofs.Tryz.f136) [1,1,1,0,1,0,0]
def sp:SP:=⟨[(1,.pt Xh),(2,.loc 2 []),(4,.loc 4 []),(5,.cs I64),(18,.cs I64)],[(2,.mem,.cd Xj),(4,.mem,.cd Xj)]⟩
def fr:=Yi4 sp (fun x s=>Xc7.B x.1.1 x.2.1 s.1 s.2.1 s.2.2) (fun x=>(x.1.2.2.2.1,x.1.2.2.2.2.1,x.2.2.1)) fun x (oo0:((Int×Fs_)⊕(Int×Fs_))) _ kk0=>sel oo0 (fun bb0=>kk0 (.rt) ⟨[(2,.loc 2 []),(3,.cs I64 bb0.1)],[(2,some ⟨.mem,.cd Xj bb0.2⟩)]⟩) (fun cc0=>kk0 (.ex 0) ⟨[(1,.pt Xh x.1.1),(2,.loc 2 []),(4,.loc 4 []),(5,.cs I64 cc0.1)],[(2,some ⟨.mem,.cd Xj x.2.1⟩),(4,some ⟨.mem,.cd Xj cc0.2⟩)]⟩)
theorem ok:Ya4 PR 103 1 (.loop c) fr:=
 Ytd Xf Xg ⟨[1],[],[],0⟩ .no (G:=Xbo.G) Xbo.Gok (L:=mkL []) (l:=[]) hT [(0,([1,2,4,5],[2,4]))] ([2,3],[2]) (fun x s=>((x.1.1,x.1.2.1,x.1.2.2.1,s.1,s.2.1,x.1.2.2.2.2.2),(x.2.1,s.2.2,x.2.2.2)))
  (fun x s=>by simp only[B,mC,mB,mS,mO,mN];kernel_rfl)
end Xc7
namespace Xdi
def c:=Yaq (Yah Proofs.Tryz.f136) [1,1,1,1,1,1,0,1,0,0,1,1,0,0,1,1,1,1,0,0]
def sp:SP:=⟨[(1,.pt Xh),(2,.loc 2 []),(4,.loc 4 []),(11,.cs I64),(58,.cs (.arr 20 I64)),(59,.cs I64),(71,.cs SI),(72,.cs I64),(73,.cs SI),(74,.cs .bool),(79,.cs SI),(80,.cs I64),(81,.cs I64)],[(2,.mem,.cd Xj),(4,.mem,.cd Xj)]⟩
def fr:=Yi4 sp (fun x s=>Xdi.B x.1.1 x.1.2.2.2.1 x.1.2.2.2.2.1 x.1.2.2.2.2.2.1 x.1.2.2.2.2.2.2.1 x.1.2.2.2.2.2.2.2.1 x.1.2.2.2.2.2.2.2.2.1 x.1.2.2.2.2.2.2.2.2.2.1 x.1.2.2.2.2.2.2.2.2.2.2.1 x.1.2.2.2.2.2.2.2.2.2.2.2.1 x.2.1 s.1 s.2) (fun x=>(x.1.2.2.2.2.2.2.2.2.2.2.2.2.1,x.2.2.1)) fun x (bb0:Fs_) _ kk0=>kk0 (.ex 4) ⟨[(1,.pt Xh x.1.1),(2,.loc 2 []),(4,.loc 4 []),(58,.cs (.arr 20 I64) x.1.2.2.2.2.1),(59,.cs I64 x.1.2.2.2.2.2.1),(71,.cs SI x.1.2.2.2.2.2.2.1),(72,.cs I64 x.1.2.2.2.2.2.2.2.1),(73,.cs SI x.1.2.2.2.2.2.2.2.2.1),(74,.cs .bool x.1.2.2.2.2.2.2.2.2.2.1)],[(2,some ⟨.mem,.cd Xj x.2.1⟩),(4,some ⟨.mem,.cd Xj bb0⟩)]⟩
theorem ok:Ya4 PR 103 1 (.loop c) fr:=
 Yxk Xf Xg ⟨[1],[],[],0⟩ (G:=Xbo.G) Xbo.Gok [(4,([1,2,4,58,59,71,72,73,74],[2,4]))] (fun x s=>((x.1.1,x.1.2.1,x.1.2.2.1,x.1.2.2.2.1,x.1.2.2.2.2.1,x.1.2.2.2.2.2.1,x.1.2.2.2.2.2.2.1,x.1.2.2.2.2.2.2.2.1,x.1.2.2.2.2.2.2.2.2.1,x.1.2.2.2.2.2.2.2.2.2.1,x.1.2.2.2.2.2.2.2.2.2.2.1,x.1.2.2.2.2.2.2.2.2.2.2.2.1,s.1,x.1.2.2.2.2.2.2.2.2.2.2.2.2.2),(x.2.1,s.2,x.2.2.2)))
  (fun x s=>by simp only[B,mC,mB,mS,mO,mN];kernel_rfl)
end Xdi
namespace Xdy
def c:=Yaq (Yah Proofs.Tryz.f136) [1,1,1,1,1,1,0,1,0,0]
def sp:SP:=⟨[(1,.pt Xh),(2,.loc 2 []),(4,.loc 4 []),(58,.cs (.arr 20 I64)),(59,.cs I64)],[(2,.mem,.cd Xj),(4,.mem,.cd Xj)]⟩
def fr:=Yi4 sp (fun x s=>Xdy.B x.1.1 x.1.2.2.2.1 x.2.1 s.1 s.2) (fun x=>(x.1.2.2.2.2.1,x.2.2.1)) fun x (oo0:((Int×Fs_)⊕Fs_)) _ kk0=>sel oo0 (fun bb0=>kk0 (.rt) ⟨[(2,.loc 2 []),(3,.cs I64 bb0.1)],[(2,some ⟨.mem,.cd Xj bb0.2⟩)]⟩) (fun cc0=>kk0 (.ex 2) ⟨[(2,.loc 2 []),(4,.loc 4 [])],[(2,some ⟨.mem,.cd Xj x.2.1⟩),(4,some ⟨.mem,.cd Xj cc0⟩)]⟩)
theorem ok:Ya4 PR 103 1 (.loop c) fr:=
 Ytd Xf Xg ⟨[1],[],[],0⟩ (.R (.R (.L (.one (.R (.R (.R (.R (.one (.fr 2)))))))))) (G:=Xbo.G) Xbo.Gok (L:=mkL [(2,Xdi.fr)]) (l:=[(2,.loop Xdi.c)]) ⟨Lam.cons Xdi.ok,trivial⟩ [(2,([2,4],[2,4]))] ([2,3],[2]) (fun x s=>((x.1.1,x.1.2.1,x.1.2.2.1,x.1.2.2.2.1,s.1,x.1.2.2.2.2.2),(x.2.1,s.2,x.2.2.2)))
  (fun x s=>by simp only[B,mC,mB,mS,mO,mN];kernel_rfl)
end Xdy
namespace Xbo
def pts:List PT:=[.cs Xh]
def FS:FS:=Ybr [.sh] pts (fun x=>Xbo x.1) fun t=>⟨[.cd Xj t.1,.cs I64 t.2],[]⟩
theorem ok:Yb5 PR 136 FS:=
 Yxj Xf Xg Proofs.Tryz.f136 ⟨[1],[],[],0⟩ (.R (.R (.R (.two (.R (.one (.fr 0))) (.R (.R (.L (.R (.one (.fr 1)))))))))) (G:=G) Gok (L:=mkL [(0,Xc7.fr),(2,Xdi.fr),(1,Xdy.fr)]) (l:=[(0,.loop Xc7.c),(1,.loop Xdy.c)]) ⟨Lam.cons Xc7.ok,Lam.skip rfl (Lam.skip rfl (Lam.cons Xdy.ok)),trivial⟩
  (fun x=>by simp only[Xbo,mC,mB,mS,mO,mN];kernel_rfl)
end Xbo
noncomputable def Xjw (s:List Int):Option (List Int):=Yle s
noncomputable def Xjw.FS:FS:=Ybr [.sh] [.cl .sh (.sl (.int .u8))] (fun x=>Xjw x.1) fun y=>⟨[.cl .deep (.sl (.int .u8)) y],[]⟩
theorem Xjw.ok:Yb5 Go.Proofs.Tryz.prog 216 Xjw.FS:=
 Yvn (hn:=⟨[],[],[],0⟩) Xf Xg (fn:=Go.Proofs.Tryz.f216) (by kernel_rfl) (Ygr (by kernel_rfl)) (by kernel_rfl) (by kernel_rfl) .deep (.int .u8) 76 76 5 (by kernel_rfl) (by kernel_rfl) (by kernel_rfl) (by kernel_rfl) (by kernel_rfl) (by kernel_rfl) (by kernel_rfl) (by kernel_rfl) (fun xs=>by kernel_rfl) (fun xs=>by kernel_rfl) (fun xs=>by kernel_rfl) (fun xs=>by kernel_rfl)
def Xeq.B (v:List (List Int)) (v2:Int) (v3:Int) (v4:List (List Int)):Option ((Int×List (List Int))⊕(List (List Int))):=
 cond (decide (v3<v2)) (cond (inB v3 v.length) ((Xjw (v.getD v3.toNat [])).bind fun v5=>cond (decide ((v4++([v5])).length≤2147483648)) (some (.inl (w64 (v3+1),v4++([v5])))) none) none) (some (.inr v4))
def Xeq (v:List (List Int)) (v2:Int):(Int×List (List Int))→Option (List (List Int)):=
 Y9 fun s=>Xeq.B v v2 s.1 s.2
def Xer (v:List (List Int)):Option (List (List Int)):=
 (Xeq v (v.length:Int) (0,[])).bind fun v6=>some v6
namespace Xer
def G:Gam:=mkG [(216,Xjw.FS)]
theorem Gok:GOk PR G:=.cons Xjw.ok .nil
end Xer
namespace Xeq
def c:=Yaq (Yah Proofs.Tryz.f160) [1,1,0,1,0,0]
def sp:SP:=⟨[(3,.seg 3 []),(6,.cs (.sl SB)),(7,.cs I64),(8,.cs I64)],[(3,.reg,.cd (.sl SB))]⟩
def fr:=Yi4 sp (fun x s=>Xeq.B x.1.2.1 x.1.2.2.1 s.1 s.2) (fun x=>(x.1.2.2.2.1,x.2.1)) fun x (bb0:List (List Int)) _ kk0=>kk0 (.ex 0) ⟨[(3,.seg 3 [])],[sr 3 (.cd (.sl SB) bb0)]⟩
theorem ok:Ya4 PR 19 1 (.loop c) fr:=
 Yxk Xf Xg h0 (G:=Xer.G) Xer.Gok [(0,([3],[3]))] (fun x s=>((x.1.1,x.1.2.1,x.1.2.2.1,s.1,x.1.2.2.2.2),(s.2,x.2.2)))
  (fun x s=>by simp only[B,mC,mB,mS,mO,mN];kernel_rfl)
end Xeq
namespace Xer
def pts:List PT:=[.cs (.sl SB)]
def FS:FS:=Ybr [.sh] pts (fun x=>Xer x.1) fun t=>⟨[.cd (.sl SB) t],[]⟩
theorem ok:Yb5 PR 160 FS:=
 Yxj Xf Xg Proofs.Tryz.f160 h0 (.R (.R (.L (.R (.one (.fr 0)))))) (G:=G) Gok (L:=mkL [(0,Xeq.fr)]) (l:=[(0,.loop Xeq.c)]) ⟨Lam.cons Xeq.ok,trivial⟩
  (fun x=>by simp only[Xer,mC,mB,mS,mO,mN];kernel_rfl)
end Xer
noncomputable def Xfr (s:List Xc):Option (List Xc):=Yle s
noncomputable def Xfr.FS:FS:=Ybr [.sh] [.cl .sh (.sl Xm)] (fun x=>Xfr x.1) fun y=>⟨[.cl .deep (.sl Xm) y],[]⟩
theorem Xfr.ok:Yb5 Go.Proofs.Tryz.prog 161 Xfr.FS:=
 Yvn (hn:=⟨[],[],[],0⟩) Xf Xg (fn:=Go.Proofs.Tryz.f161) (by kernel_rfl) (Ygr (by kernel_rfl)) (by kernel_rfl) (by kernel_rfl) .deep Xm 152 152 200 (by kernel_rfl) (by kernel_rfl) (by kernel_rfl) (by kernel_rfl) (by kernel_rfl) (by kernel_rfl) (by kernel_rfl) (by kernel_rfl) (fun xs=>by kernel_rfl) (fun xs=>by kernel_rfl) (fun xs=>by kernel_rfl) (fun xs=>by kernel_rfl)
def Xed.B (v3:List Xb) (v4:Int) (v6:Fs_) (v5:Int) (v7:Fs_):Option ((Int×Fs_)⊕Fs_):=
 cond (decide (v5<v4)) (cond (inB v5 v3.length) ((Xan (v3.getD v5.toNat Xa).2.2.2.1).bind fun v8=>(Xfr (v3.getD v5.toNat Xa).2.2.2.2.1).bind fun v9=>(some (v7.1++([((v3.getD v5.toNat Xa).1,(v3.getD v5.toNat Xa).2.1,(v3.getD v5.toNat Xa).2.2.1,v8,v9,(v3.getD v5.toNat Xa).2.2.2.2.2)]))).bind fun v10=>cond (decide (v10.length≤2147483648)) (some (.inl (w64 (v5+1),(v10,v7.2)))) none) none) (some (.inr v7))
def Xed (v3:List Xb) (v4:Int) (v6:Fs_):(Int×Fs_)→Option Fs_:=
 Y9 fun s=>Xed.B v3 v4 v6 s.1 s.2
def Xbz (v:Fs_):Option Fs_:=
 (Xer v.2.1).bind fun v2=>(Xed v.1 (v.1.length:Int) ([],[],()) (0,([],v2,()))).bind fun v11=>some (v11.1,v11.2.1,v11.2.2)
namespace Xbz
def G:Gam:=mkG [(160,Xer.FS),(118,Xan.FS),(161,Xfr.FS)]
theorem Gok:GOk PR G:=.cons Xer.ok (.cons Xan.ok (.cons Xfr.ok .nil))
end Xbz
namespace Xed
def c:=Yaq (Yah Proofs.Tryz.f84) [1,1,0,1,0,0]
def sp:SP:=⟨[(2,.loc 2 []),(3,.loc 3 []),(11,.cs (.sl Xe)),(12,.cs I64),(13,.cs I64)],[(2,.mem,.cd Xj),(3,.mem,.cd Xj)]⟩
def fr:=Yi4 sp (fun x s=>Xed.B x.1.2.2.1 x.1.2.2.2.1 x.2.1 s.1 s.2) (fun x=>(x.1.2.2.2.2.1,x.2.2.1)) fun x (bb0:Fs_) _ kk0=>kk0 (.ex 0) ⟨[(2,.loc 2 []),(3,.loc 3 [])],[(2,some ⟨.mem,.cd Xj x.2.1⟩),(3,some ⟨.mem,.cd Xj bb0⟩)]⟩
theorem ok:Ya4 PR 33 1 (.loop c) fr:=
 Yxk Xf Xg ⟨[1],[],[],0⟩ (G:=Xbz.G) Xbz.Gok [(0,([2,3],[2,3]))] (fun x s=>((x.1.1,x.1.2.1,x.1.2.2.1,x.1.2.2.2.1,s.1,x.1.2.2.2.2.2),(x.2.1,s.2,x.2.2.2)))
  (fun x s=>by simp only[B,mC,mB,mS,mO,mN];kernel_rfl)
end Xed
namespace Xbz
def pts:List PT:=[.cs Xj]
def FS:FS:=Ybr [.sh] pts (fun x=>Xbz x.1) fun t=>⟨[.cd Xj t],[]⟩
theorem ok:Yb5 PR 84 FS:=
 Yxj Xf Xg Proofs.Tryz.f84 ⟨[1],[],[],0⟩ (.R (.R (.L (.R (.one (.fr 0)))))) (G:=G) Gok (L:=mkL [(0,Xed.fr)]) (l:=[(0,.loop Xed.c)]) ⟨Lam.cons Xed.ok,trivial⟩
  (fun x=>by simp only[Xbz,mC,mB,mS,mO,mN];kernel_rfl)
end Xbz
def Xid (v:Xd):Option Xff:=
 (Xig v).bind fun v2=>cond (v2.2 != 0) (some (v2.2,(0,0,0,[],[],([],[],()),()),(([],[],()),([],[],()),([],[],()),()),())) ((Xh7 v v2.1).bind fun v3=>(Xep v).bind fun v4=>(Xf7 (v4.1,v4.2.1,v4.2.2)).bind fun v5=>(Xfv v5 v3).bind fun v6=>cond (v6.1 != 0) (some (v6.1,(0,0,0,[],[],([],[],()),()),(([],[],()),([],[],()),([],[],()),()),())) ((Xbo (v6.2.1,v6.2.2.1,v6.2.2.2)).bind fun v7=>cond (v7.2 != 0) (some (v7.2,(0,0,0,[],[],([],[],()),()),(([],[],()),([],[],()),([],[],()),()),())) ((Xbz (v7.1.1,v7.1.2.1,v7.1.2.2)).bind fun v8=>some (0,(0,0,0,[],[],([],[],()),()),((v6.2.1,v6.2.2.1,v6.2.2.2),(v7.1.1,v7.1.2.1,v7.1.2.2),(v8.1,v8.2.1,v8.2.2),()),()))))
namespace Xid
def G:Gam:=mkG [(53,Xig.FS),(134,Xh7.FS),(82,Xep.FS),(135,Xf7.FS),(83,Xfv.FS),(136,Xbo.FS),(84,Xbz.FS)]
def pts:List PT:=[.cs Xh]
def FS:FS:=Ybr [.sh] pts (fun x=>Xid x.1) fun t=>⟨[.cd Xal t],[]⟩
theorem ok:Yb5 PR 69 FS:=
 Yxj Xf Xg Proofs.Tryz.f69 ⟨[1],[],[],0⟩ .no (G:=G) (show GOk PR G from .cons Xig.ok (.cons Xh7.ok (.cons Xep.ok (.cons Xf7.ok (.cons Xfv.ok (.cons Xbo.ok (.cons Xbz.ok .nil))))))) (L:=mkL []) (l:=[]) hT
  (fun x=>by simp only[Xid,mC,mB,mS,mO,mN];kernel_rfl)
end Xid
def Xia (v:Xnm) (v2:Xc):Option Bool:=
 (Xfo v.1.1).bind fun v3=>cond (cond (decide (v2.2.1≥v3)) true (v2.2.1 == 0)) (some false) (cond (inB v2.2.1 v.1.1.length) (cond ((v.1.1.getD v2.2.1.toNat Xa).1 == 0) (some false) (cond ((v.1.1.getD v2.2.1.toNat Xa).1 == 2) (cond (inB v2.2.1 v.2.1.length) (some (!(v.2.1.getD v2.2.1.toNat false))) none) (some true))) none)
namespace Xia
def G:Gam:=mkG [(184,Xfo.FS)]
def pts:List PT:=[.pt Xkw,.cs Xm]
def FS:FS:=Ybr [.sh,.sh] pts (fun x=>Xia x.1 x.2.1) fun t=>⟨[.cs .bool t],[]⟩
theorem ok:Yb5 PR 203 FS:=
 Yxj Xf Xg Proofs.Tryz.f203 ⟨[3],[],[],0⟩ .no (G:=G) (show GOk PR G from .cons Xfo.ok .nil) (L:=mkL []) (l:=[]) hT
  (fun x=>by simp only[Xia,mC,mB,mS,mO,mN];kernel_rfl)
end Xia
def Xcy.B (v:Fs_) (v8:Int) (v7:List Xc) (v9:Int) (v5:Fs_) (v10:Int) (v11:List Int) (v12:(List Bool)×(List (List Xc))×Int×(List Int)×(List Int)×Unit):Option ((Int×(List Int)×(List Bool)×(List (List Xc))×Int×(List Int)×(List Int)×Unit)⊕((List Int)×(List Bool)×(List (List Xc))×Int×(List Int)×(List Int)×Unit)):=
 cond (decide (v10<v9)) (cond (inB v10 v7.length) ((Xia (v5,v12) (v7.getD v10.toNat Xk)).bind fun v13=>cond (!v13) (some (.inl (w64 (v10+1),v11,(v12.1,v12.2.1,w64 (v12.2.2.1+1),v12.2.2.2)))) (cond (inB v8 v12.2.1.length) ((some ((v12.2.1.getD v8.toNat [])++([v7.getD v10.toNat Xk]))).bind fun v14=>cond (decide (v14.length≤2147483648)) (cond (inB v8 v12.2.1.length) (cond (Nat.beq v8.toNat v8.toNat&&true) (cond (inB (v7.getD v10.toNat Xk).2.1 v12.2.2.2.1.length) ((some (v12.2.2.2.1.getD ((v7.getD v10.toNat Xk).2.1.toNat) 0)).bind fun v15=>cond (inB (v7.getD v10.toNat Xk).2.1 v12.2.2.2.1.length) ((some (v12.2.2.2.1.set ((v7.getD v10.toNat Xk).2.1.toNat) (w64 (v15+1)))).bind fun v16=>cond (inB (v7.getD v10.toNat Xk).2.1 v12.1.length) ((some (v12.1.getD ((v7.getD v10.toNat Xk).2.1.toNat) false)).bind fun v17=>cond (cond (!v17) (inB (v7.getD v10.toNat Xk).2.1 v.1.length) true) ((some (cond (!v17) ((v.1.getD (v7.getD v10.toNat Xk).2.1.toNat Xa).1 == 2) false)).bind fun v18=>cond v18 (cond (decide ((v11++([(v7.getD v10.toNat Xk).2.1])).length≤2147483648)) (cond (inB (v7.getD v10.toNat Xk).2.1 v12.1.length) ((some (v12.1.set ((v7.getD v10.toNat Xk).2.1.toNat) true)).bind fun v19=>some (.inl (w64 (v10+1),v11++([(v7.getD v10.toNat Xk).2.1]),(v19,v12.2.1.set v8.toNat v14,v12.2.2.1,v16,v12.2.2.2.2)))) none) none) (cond (inB (v7.getD v10.toNat Xk).2.1 v12.1.length) ((some (v12.1.set ((v7.getD v10.toNat Xk).2.1.toNat) true)).bind fun v20=>some (.inl (w64 (v10+1),v11,(v20,v12.2.1.set v8.toNat v14,v12.2.2.1,v16,v12.2.2.2.2)))) none)) none) none) none) none) none) none) none) none)) none) (some (.inr (v11,v12)))
def Xcy (v:Fs_) (v8:Int) (v7:List Xc) (v9:Int) (v5:Fs_):(Int×(List Int)×(List Bool)×(List (List Xc))×Int×(List Int)×(List Int)×Unit)→Option ((List Int)×(List Bool)×(List (List Xc))×Int×(List Int)×(List Int)×Unit):=
 Y9 fun s=>Xcy.B v v8 v7 v9 v5 s.1 s.2.1 s.2.2
def Xfz.B (v:Fs_) (v5:Fs_) (v4:List Int) (v6:(List Bool)×(List (List Xc))×Int×(List Int)×(List Int)×Unit):Option (((List Int)×(List Bool)×(List (List Xc))×Int×(List Int)×(List Int)×Unit)⊕((List Bool)×(List (List Xc))×Int×(List Int)×(List Int)×Unit)):=
 cond (decide ((v4.length:Int)>0)) (cond (inB 0 v4.length) (cond (inB (v4.getD ((0:Int).toNat) 0) v.1.length) ((some (v.1.getD (v4.getD ((0:Int).toNat) 0).toNat Xa).2.2.2.2.1).bind fun v7=>(Xcy v (v4.getD ((0:Int).toNat) 0) v7 (v7.length:Int) v5 (0,v4,v6)).bind fun v21=>cond (decide ((0:Int)≤(1:Int))&&decide ((1:Int)≤(v21.1.length:Int))) ((some ((v21.1.drop ((1:Int).toNat)).take (v21.1.length-((1:Int).toNat)))).bind fun v22=>some (.inl (v22,v21.2))) none) none) none) (some (.inr v6))
def Xfz (v:Fs_) (v5:Fs_):((List Int)×(List Bool)×(List (List Xc))×Int×(List Int)×(List Int)×Unit)→Option ((List Bool)×(List (List Xc))×Int×(List Int)×(List Int)×Unit):=
 Y9 fun s=>Xfz.B v v5 s.1 s.2
def Xdd.B (v26:Int) (v24:List Xb) (v25:Int) (v30:Int) (v31:List Int) (v29:Int) (v:Fs_) (v32:Int) (v33:List Int) (v34:(List Bool)×(List (List Xc))×Int×(List Int)×(List Int)×Unit):Option ((Int×(List Int)×(List Bool)×(List (List Xc))×Int×(List Int)×(List Int)×Unit)⊕((List Int)×(List Bool)×(List (List Xc))×Int×(List Int)×(List Int)×Unit)):=
 cond (decide (v32<v29)) (cond (inB v32 v31.length) ((Xb6 v33 (v31.getD v32.toNat 0)).bind fun v35=>cond v35 (some (.inr (v33,v34))) (cond (decide ((v33++([v31.getD v32.toNat 0])).length≤2147483648)) (cond (inB v26 v34.2.2.2.2.1.length) (cond (inB v26 v34.2.2.2.2.1.length) ((some (v34.2.2.2.2.1.set v26.toNat (w64 ((v34.2.2.2.2.1.getD v26.toNat 0)+1)))).bind fun v36=>some (.inl (w64 (v32+1),v33++([v31.getD v32.toNat 0]),(v34.1,v34.2.1,v34.2.2.1,v34.2.2.2.1,v36,v34.2.2.2.2.2)))) none) none) none)) none) (some (.inr (v33,v34)))
def Xdd (v26:Int) (v24:List Xb) (v25:Int) (v30:Int) (v31:List Int) (v29:Int) (v:Fs_):(Int×(List Int)×(List Bool)×(List (List Xc))×Int×(List Int)×(List Int)×Unit)→Option ((List Int)×(List Bool)×(List (List Xc))×Int×(List Int)×(List Int)×Unit):=
 Y9 fun s=>Xdd.B v26 v24 v25 v30 v31 v29 v s.1 s.2.1 s.2.2
def Xej.B (v24:List Xb) (v25:Int) (v:Fs_) (v26:Int) (v27:List Int) (v28:(List Bool)×(List (List Xc))×Int×(List Int)×(List Int)×Unit):Option ((Int×(List Int)×(List Bool)×(List (List Xc))×Int×(List Int)×(List Int)×Unit)⊕((List Bool)×(List (List Xc))×Int×(List Int)×(List Int)×Unit)):=
 cond (decide (v26<v25)) (cond (inB v26 v24.length) (cond (inB v26 v28.1.length) (cond (!(v28.1.getD v26.toNat false)) (some (.inl (w64 (v26+1),v27,v28))) ((some ((v24.getD v26.toNat Xa).2.2.2.1.length:Int)).bind fun v29=>(Xdd v26 v24 v25 v26 (v24.getD v26.toNat Xa).2.2.2.1 v29 v (0,v27,v28)).bind fun v37=>some (.inl (w64 (v26+1),v37.1,v37.2)))) none) none) (some (.inr v28))
def Xej (v24:List Xb) (v25:Int) (v:Fs_):(Int×(List Int)×(List Bool)×(List (List Xc))×Int×(List Int)×(List Int)×Unit)→Option ((List Bool)×(List (List Xc))×Int×(List Int)×(List Int)×Unit):=
 Y9 fun s=>Xej.B v24 v25 v s.1 s.2.1 s.2.2
def Xbh (v:Fs_):Option (Fs_×(List Bool)×(List (List Xc))×Int×(List Int)×(List Int)×Unit):=
 cond (decide ((0:Int)≤(v.1.length:Int))&&(decide ((v.1.length:Int)≤(v.1.length:Int))&&decide ((v.1.length:Int)≤2147483648))) (cond (decide ((0:Int)≤(v.1.length:Int))&&(decide ((v.1.length:Int)≤(v.1.length:Int))&&decide ((v.1.length:Int)≤2147483648))) ((some (List.replicate (v.1.length:Int).toNat ([]:List Xc))).bind fun v2=>cond (decide ((0:Int)≤(v.1.length:Int))&&(decide ((v.1.length:Int)≤(v.1.length:Int))&&decide ((v.1.length:Int)≤2147483648))) (cond (decide ((0:Int)≤(v.1.length:Int))&&(decide ((v.1.length:Int)≤(v.1.length:Int))&&decide ((v.1.length:Int)≤2147483648))) (cond (inB 0 ((List.replicate (v.1.length:Int).toNat false).length)) ((some ((List.replicate (v.1.length:Int).toNat false).set ((0:Int).toNat) true)).bind fun v3=>(Xfz v v ([0],(v3,v2,0,List.replicate (v.1.length:Int).toNat 0,List.replicate (v.1.length:Int).toNat 0,()))).bind fun v23=>(Xej v.1 (v.1.length:Int) v (0,[],v23)).bind fun v38=>some (v,v38)) none) none) none) none) none
namespace Xbh
def G:Gam:=mkG [(203,Xia.FS),(148,Xb6.FS)]
theorem Gok:GOk PR G:=.cons Xia.ok (.cons Xb6.ok .nil)
end Xbh
namespace Xcy
def c:=Yaq (Yah Proofs.Tryz.f137) [1,1,1,1,0,1,0,0,1,0,0,1,1,0,0]
def sp:SP:=⟨[(1,.pt Xj),(4,.loc 27 []),(5,.seg 5 []),(6,.cs I64),(47,.cs (.sl Xm)),(48,.cs I64),(49,.cs I64)],[(5,.reg,.cd SI),(27,.mem,.pr (.cs Xj) (.cd (.pair (.sl .bool) (.pair (.sl (.sl Xm)) (.pair I64 (.pair SI (.pair SI .unit)))))))]⟩
def fr:=Yi4 sp (fun x s=>Xcy.B x.1.1 x.1.2.2.2.1 x.1.2.2.2.2.1 x.1.2.2.2.2.2.1 x.2.2.1.1 s.1 s.2.1 s.2.2) (fun x=>(x.1.2.2.2.2.2.2.1,x.2.1,x.2.2.1.2)) fun x (bb0:(List Int)×(List Bool)×(List (List Xc))×Int×(List Int)×(List Int)×Unit) _ kk0=>kk0 (.ex 2) ⟨[(1,.pt Xj x.1.1),(4,.loc 27 []),(5,.seg 5 [])],[sr 5 (.cd SI bb0.1),(27,some ⟨.mem,.pr (.cs Xj x.2.2.1.1) (.cd (.pair (.sl .bool) (.pair (.sl (.sl Xm)) (.pair I64 (.pair SI (.pair SI .unit))))) bb0.2)⟩)]⟩
theorem ok:Ya4 PR 164 1 (.loop c) fr:=
 Yxk Xf Xg ⟨[1],[],[],0⟩ (G:=Xbh.G) Xbh.Gok [(2,([1,4,5],[5,27]))] (fun x s=>((x.1.1,x.1.2.1,x.1.2.2.1,x.1.2.2.2.1,x.1.2.2.2.2.1,x.1.2.2.2.2.2.1,s.1,x.1.2.2.2.2.2.2.2),(s.2.1,(x.2.2.1.1,s.2.2),x.2.2.2)))
  (fun x s=>by simp only[B,mC,mB,mS,mO,mN];kernel_rfl)
end Xcy
namespace Xfz
def c:=Yaq (Yah Proofs.Tryz.f137) [1,1,1,1,0,1,0,0]
def sp:SP:=⟨[(1,.pt Xj),(4,.loc 27 []),(5,.seg 5 [])],[(5,.reg,.cd SI),(27,.mem,.pr (.cs Xj) (.cd (.pair (.sl .bool) (.pair (.sl (.sl Xm)) (.pair I64 (.pair SI (.pair SI .unit)))))))]⟩
def fr:=Yi4 sp (fun x s=>Xfz.B x.1.1 x.2.2.1.1 s.1 s.2) (fun x=>(x.2.1,x.2.2.1.2)) fun x (bb0:(List Bool)×(List (List Xc))×Int×(List Int)×(List Int)×Unit) _ kk0=>kk0 (.ex 0) ⟨[(1,.pt Xj x.1.1),(4,.loc 27 [])],[(27,some ⟨.mem,.pr (.cs Xj x.2.2.1.1) (.cd (.pair (.sl .bool) (.pair (.sl (.sl Xm)) (.pair I64 (.pair SI (.pair SI .unit))))) bb0)⟩)]⟩
theorem ok:Ya4 PR 164 1 (.loop c) fr:=
 Yxp Xf Xg ⟨[1],[],[],0⟩ (.R (.L (.one (.R (.R (.one (.fr 1))))))) (G:=Xbh.G) Xbh.Gok (L:=mkL [(1,Xcy.fr)]) (l:=[(1,.loop Xcy.c)]) ⟨Lam.cons Xcy.ok,trivial⟩ [(0,([1,4],[27]))] (fun x s=>(x.1,(s.1,(x.2.2.1.1,s.2),x.2.2.2)))
  (fun x s=>by simp only[B,mC,mB,mS,mO,mN];kernel_rfl)
end Xfz
namespace Xdd
def c:=Yaq (Yah Proofs.Tryz.f137) [1,1,1,1,1,1,0,1,0,0,1,1,0,0,1,1,1,0,0]
def sp:SP:=⟨[(4,.loc 27 []),(9,.seg 9 []),(10,.cs I64),(123,.cs (.sl Xe)),(124,.cs I64),(125,.cs I64),(139,.cs SI),(140,.cs I64),(141,.cs I64)],[(9,.reg,.cd SI),(27,.mem,.pr (.cs Xj) (.cd (.pair (.sl .bool) (.pair (.sl (.sl Xm)) (.pair I64 (.pair SI (.pair SI .unit)))))))]⟩
def fr:=Yi4 sp (fun x s=>Xdd.B x.1.2.2.1 x.1.2.2.2.1 x.1.2.2.2.2.1 x.1.2.2.2.2.2.1 x.1.2.2.2.2.2.2.1 x.1.2.2.2.2.2.2.2.1 x.2.2.1.1 s.1 s.2.1 s.2.2) (fun x=>(x.1.2.2.2.2.2.2.2.2.1,x.2.1,x.2.2.1.2)) fun x (bb0:(List Int)×(List Bool)×(List (List Xc))×Int×(List Int)×(List Int)×Unit) _ kk0=>kk0 (.ex 6) ⟨[(4,.loc 27 []),(9,.seg 9 []),(123,.cs (.sl Xe) x.1.2.2.2.1),(124,.cs I64 x.1.2.2.2.2.1),(125,.cs I64 x.1.2.2.2.2.2.1)],[sr 9 (.cd SI bb0.1),(27,some ⟨.mem,.pr (.cs Xj x.2.2.1.1) (.cd (.pair (.sl .bool) (.pair (.sl (.sl Xm)) (.pair I64 (.pair SI (.pair SI .unit))))) bb0.2)⟩)]⟩
theorem ok:Ya4 PR 164 1 (.loop c) fr:=
 Yxk Xf Xg ⟨[1],[],[],0⟩ (G:=Xbh.G) Xbh.Gok [(6,([4,9,123,124,125],[9,27]))] (fun x s=>((x.1.1,x.1.2.1,x.1.2.2.1,x.1.2.2.2.1,x.1.2.2.2.2.1,x.1.2.2.2.2.2.1,x.1.2.2.2.2.2.2.1,x.1.2.2.2.2.2.2.2.1,s.1,x.1.2.2.2.2.2.2.2.2.2),(s.2.1,(x.2.2.1.1,s.2.2),x.2.2.2)))
  (fun x s=>by simp only[B,mC,mB,mS,mO,mN];kernel_rfl)
end Xdd
namespace Xej
def c:=Yaq (Yah Proofs.Tryz.f137) [1,1,1,1,1,1,0,1,0,0]
def sp:SP:=⟨[(4,.loc 27 []),(9,.seg 9 []),(123,.cs (.sl Xe)),(124,.cs I64),(125,.cs I64)],[(9,.reg,.cd SI),(27,.mem,.pr (.cs Xj) (.cd (.pair (.sl .bool) (.pair (.sl (.sl Xm)) (.pair I64 (.pair SI (.pair SI .unit)))))))]⟩
def fr:=Yi4 sp (fun x s=>Xej.B x.1.2.2.1 x.1.2.2.2.1 x.2.2.1.1 s.1 s.2.1 s.2.2) (fun x=>(x.1.2.2.2.2.1,x.2.1,x.2.2.1.2)) fun x (bb0:(List Bool)×(List (List Xc))×Int×(List Int)×(List Int)×Unit) _ kk0=>kk0 (.ex 4) ⟨[(4,.loc 27 [])],[(27,some ⟨.mem,.pr (.cs Xj x.2.2.1.1) (.cd (.pair (.sl .bool) (.pair (.sl (.sl Xm)) (.pair I64 (.pair SI (.pair SI .unit))))) bb0)⟩)]⟩
theorem ok:Ya4 PR 164 1 (.loop c) fr:=
 Yxp Xf Xg ⟨[1],[],[],0⟩ (.R (.R (.L (.one (.R (.R (.R (.one (.fr 3))))))))) (G:=Xbh.G) Xbh.Gok (L:=mkL [(3,Xdd.fr)]) (l:=[(3,.loop Xdd.c)]) ⟨Lam.cons Xdd.ok,trivial⟩ [(4,([4],[27]))] (fun x s=>((x.1.1,x.1.2.1,x.1.2.2.1,x.1.2.2.2.1,s.1,x.1.2.2.2.2.2),(s.2.1,(x.2.2.1.1,s.2.2),x.2.2.2)))
  (fun x s=>by simp only[B,mC,mB,mS,mO,mN];kernel_rfl)
end Xej
namespace Xbh
def pts:List PT:=[.cs Xj]
def FS:FS:=Ybr [.sh] pts (fun x=>Xbh x.1) fun t=>⟨[.op (.pr (.cs Xj t.1) (.cd (.pair (.sl .bool) (.pair (.sl (.sl Xm)) (.pair I64 (.pair SI (.pair SI .unit))))) t.2))],[]⟩
theorem ok:Yb5 PR 137 FS:=
 Yxj Xf Xg Proofs.Tryz.f137 ⟨[1],[],[],0⟩ (.R (.R (.R (.R (.two (.R (.one (.fr 0))) (.R (.L (.R (.one (.fr 2)))))))))) (G:=G) Gok (L:=mkL [(1,Xcy.fr),(0,Xfz.fr),(3,Xdd.fr),(2,Xej.fr)]) (l:=[(0,.loop Xfz.c),(2,.loop Xej.c)]) ⟨Lam.skip rfl (Lam.cons Xfz.ok),Lam.skip rfl (Lam.skip rfl (Lam.skip rfl (Lam.cons Xej.ok))),trivial⟩
  (fun x=>by simp only[Xbh,mC,mB,mS,mO,mN];kernel_rfl)
end Xbh
def Xca.B (v2:Int) (v3:List Int):Option ((List Int)⊕(List Int)):=
 (Xbn v3).bind fun v4=>cond (decide (v4<v2)) (cond (decide ((v3++([0])).length≤2147483648)) (some (.inl (v3++([0])))) none) (some (.inr v3))
def Xca (v2:Int):(List Int)→Option (List Int):=
 Y9 fun s=>Xca.B v2 s
def Xcu (v:List Int) (v2:Int):Option (List Int):=
 (Xca v2 v).bind fun v5=>some v5
namespace Xcu
def G:Gam:=mkG [(141,Xbn.FS)]
theorem Gok:GOk PR G:=.cons Xbn.ok .nil
end Xcu
namespace Xca
def c:=Yaq (Yah Proofs.Tryz.f204) [1,0,0,0]
def sp:SP:=⟨[(0,.seg 0 []),(1,.cs I64)],[(0,.reg,.cd SB)]⟩
def fr:=Yi4 sp (fun x s=>Xca.B x.1.2.1 s) (fun x=>x.2.1) fun x (bb0:List Int) _ kk0=>kk0 (.ex 0) ⟨[(0,.seg 0 [])],[sr 0 (.cd SB bb0)]⟩
theorem ok:Ya4 PR 13 0 (.loop c) fr:=
 Yxk Xf Xg h0 (G:=Xcu.G) Xcu.Gok [(0,([0],[0]))] (fun x s=>(x.1,(s,x.2.2)))
  (fun x s=>by simp only[B,mC,mB,mS,mO,mN];kernel_rfl)
end Xca
namespace Xcu
def pts:List PT:=[.cd SB,.cs I64]
def FS:FS:=Ybr [.mu,.sh] pts (fun x=>Xcu x.1 x.2.1) fun t=>⟨[.cd SB t],[.dead 1]⟩
theorem ok:Yb5 PR 204 FS:=
 Yxf Xf Xg Proofs.Tryz.f204 h0 (.R (.L (.one (.fr 0)))) (G:=G) Gok (L:=mkL [(0,Xca.fr)]) (l:=[(0,.loop Xca.c)]) ⟨Lam.cons Xca.ok,trivial⟩
  (fun x=>by simp only[Xcu,mC,mB,mS,mO,mN];kernel_rfl)
end Xcu
def Xd0.B (v:Xnm) (v3:Int) (v5:Fs_) (v4:Int) (v6:Fs_):Option ((Int×Fs_)⊕Fs_):=
 cond (decide (v4<v3)) (cond (inB v4 v6.1.length) (cond (inB v4 v.2.1.length) (cond (!(v.2.1.getD v4.toNat false)) (some (.inl (w64 (v4+1),(v6.1.set v4.toNat (0,0,0,[],[],()),v6.2)))) (cond ((v6.1.getD v4.toNat Xa).1 == 2) (cond (inB v4 v.2.2.1.length) ((Xfr (v.2.2.1.getD v4.toNat [])).bind fun v7=>(some (v6.1.set v4.toNat ((v6.1.getD v4.toNat Xa).1,(v6.1.getD v4.toNat Xa).2.1,(v6.1.getD v4.toNat Xa).2.2.1,(v6.1.getD v4.toNat Xa).2.2.2.1,v7,(v6.1.getD v4.toNat Xa).2.2.2.2.2))).bind fun v8=>some (.inl (w64 (v4+1),(v8,v6.2)))) none) (cond (inB v4 v.2.2.2.2.2.1.length) (cond (decide ((0:Int)≤(v.2.2.2.2.2.1.getD v4.toNat 0))&&decide ((v.2.2.2.2.2.1.getD v4.toNat 0)≤((v6.1.getD v4.toNat Xa).2.2.2.1.length:Int))) (cond (Nat.beq v4.toNat v4.toNat&&true) ((some (((v6.1.getD v4.toNat Xa).2.2.2.1.drop 0).take (((v.2.2.2.2.2.1.getD v4.toNat 0).toNat)-0))).bind fun v9=>(some (v6.1.set v4.toNat ((v6.1.getD v4.toNat Xa).1,(v6.1.getD v4.toNat Xa).2.1,(v6.1.getD v4.toNat Xa).2.2.1,v9,(v6.1.getD v4.toNat Xa).2.2.2.2))).bind fun v10=>cond (inB v4 v.2.2.2.2.2.1.length) ((some (cond (decide ((w64 ((v.2.2.2.2.2.1.getD v4.toNat 0)*8))<(v10.getD v4.toNat Xa).2.2.1)) (w64 ((v.2.2.2.2.2.1.getD v4.toNat 0)*8)) (v10.getD v4.toNat Xa).2.2.1)).bind fun v11=>(some (v10.set v4.toNat ((v10.getD v4.toNat Xa).1,(v10.getD v4.toNat Xa).2.1,v11,(v10.getD v4.toNat Xa).2.2.2))).bind fun v12=>cond (inB v4 v.2.2.2.2.1.length) ((some (v12.set v4.toNat ((v12.getD v4.toNat Xa).1,v.2.2.2.2.1.getD v4.toNat 0,(v12.getD v4.toNat Xa).2.2))).bind fun v13=>some (.inl (w64 (v4+1),(v13,v6.2)))) none) none) none) none) none))) none) none) (some (.inr v6))
def Xd0 (v:Xnm) (v3:Int) (v5:Fs_):(Int×Fs_)→Option Fs_:=
 Y9 fun s=>Xd0.B v v3 v5 s.1 s.2
def Xet.B (v15:List Int) (v17:Fs_) (v16:Int) (v18:Fs_):Option ((Int×Fs_)⊕Fs_):=
 cond (decide (v16<20)) (cond (inB v16 20) (cond (inB v16 v18.2.1.length) ((Xcu (v18.2.1.getD v16.toNat []) (v15.getD v16.toNat 0)).bind fun v19=>cond (decide ((0:Int)≤(v15.getD v16.toNat 0))&&decide ((v15.getD v16.toNat 0)≤(v19.length:Int))) (cond (inB v16 v18.2.1.length) (cond (Nat.beq v16.toNat v16.toNat&&true) ((some ((v19.drop 0).take (((v15.getD v16.toNat 0).toNat)-0))).bind fun v20=>some (.inl (w64 (v16+1),(v18.1,v18.2.1.set v16.toNat v20,v18.2.2)))) none) none) none) none) none) (some (.inr v18))
def Xet (v15:List Int) (v17:Fs_):(Int×Fs_)→Option Fs_:=
 Y9 fun s=>Xet.B v15 v17 s.1 s.2
def Xcn (v:Xnm):Option Fs_:=
 (Xbz v.1).bind fun v2=>(Xd0 v (v2.1.length:Int) ([],[],()) (0,(v2.1,v2.2.1,v2.2.2))).bind fun v14=>(Xbl v14.1).bind fun v15=>(Xet v15 ([],[],()) (0,v14)).bind fun v21=>some (v21.1,v21.2.1,v21.2.2)
namespace Xcn
def G:Gam:=mkG [(84,Xbz.FS),(161,Xfr.FS),(139,Xbl.FS),(204,Xcu.FS)]
theorem Gok:GOk PR G:=.cons Xbz.ok (.cons Xfr.ok (.cons Xbl.ok (.cons Xcu.ok .nil)))
end Xcn
namespace Xd0
def c:=Yaq (Yah Proofs.Tryz.f140) [1,1,0,1,0,0]
def sp:SP:=⟨[(0,.pt Xkw),(2,.loc 2 []),(3,.loc 3 []),(15,.cs I64),(16,.cs I64)],[(2,.mem,.cd Xj),(3,.mem,.cd Xj)]⟩
def fr:=Yi4 sp (fun x s=>Xd0.B x.1.1 x.1.2.2.2.1 x.2.1 s.1 s.2) (fun x=>(x.1.2.2.2.2.1,x.2.2.1)) fun x (bb0:Fs_) _ kk0=>kk0 (.ex 0) ⟨[(2,.loc 2 []),(3,.loc 3 [])],[(2,some ⟨.mem,.cd Xj x.2.1⟩),(3,some ⟨.mem,.cd Xj bb0⟩)]⟩
theorem ok:Ya4 PR 116 1 (.loop c) fr:=
 Yxk Xf Xg h0 (G:=Xcn.G) Xcn.Gok [(0,([2,3],[2,3]))] (fun x s=>((x.1.1,x.1.2.1,x.1.2.2.1,x.1.2.2.2.1,s.1,x.1.2.2.2.2.2),(x.2.1,s.2,x.2.2.2)))
  (fun x s=>by simp only[B,mC,mB,mS,mO,mN];kernel_rfl)
end Xd0
namespace Xet
def c:=Yaq (Yah Proofs.Tryz.f140) [1,1,1,0,1,0,0]
def sp:SP:=⟨[(2,.loc 2 []),(3,.loc 3 []),(96,.cs (.arr 20 I64)),(97,.cs I64)],[(2,.mem,.cd Xj),(3,.mem,.cd Xj)]⟩
def fr:=Yi4 sp (fun x s=>Xet.B x.1.2.2.1 x.2.1 s.1 s.2) (fun x=>(x.1.2.2.2.1,x.2.2.1)) fun x (bb0:Fs_) _ kk0=>kk0 (.ex 3) ⟨[(2,.loc 2 []),(3,.loc 3 [])],[(2,some ⟨.mem,.cd Xj x.2.1⟩),(3,some ⟨.mem,.cd Xj bb0⟩)]⟩
theorem ok:Ya4 PR 116 1 (.loop c) fr:=
 Yxk Xf Xg h0 (G:=Xcn.G) Xcn.Gok [(3,([2,3],[2,3]))] (fun x s=>((x.1.1,x.1.2.1,x.1.2.2.1,s.1,x.1.2.2.2.2),(x.2.1,s.2,x.2.2.2)))
  (fun x s=>by simp only[B,mC,mB,mS,mO,mN];kernel_rfl)
end Xet
namespace Xcn
def pts:List PT:=[.pt Xkw]
def FS:FS:=Ybr [.sh] pts (fun x=>Xcn x.1) fun t=>⟨[.cd Xj t],[]⟩
theorem ok:Yb5 PR 140 FS:=
 Yxj Xf Xg Proofs.Tryz.f140 h0 (.R (.R (.two (.R (.one (.fr 0))) (.L (.R (.one (.fr 1))))))) (G:=G) Gok (L:=mkL [(0,Xd0.fr),(1,Xet.fr)]) (l:=[(0,.loop Xd0.c),(1,.loop Xet.c)]) ⟨Lam.cons Xd0.ok,Lam.skip rfl (Lam.cons Xet.ok),trivial⟩
  (fun x=>by simp only[Xcn,mC,mB,mS,mO,mN];kernel_rfl)
end Xcn
def Xeb.B (v:Fs_) (v3:List Xb) (v4:Int) (v7:Fs_) (v8:(List Bool)×(List (List Xc))×Int×(List Int)×(List Int)×Unit) (v5:Int) (v6:List Int):Option ((Int×List Int)⊕(List Int)):=
 cond (decide (v5<v4)) (cond (inB v5 v3.length) (cond (cond ((v3.getD v5.toNat Xa).1 != 0) (inB v5 v8.1.length) true) ((some (cond ((v3.getD v5.toNat Xa).1 != 0) (!(v8.1.getD v5.toNat false)) false)).bind fun v9=>cond v9 (cond (inB 1 v6.length) (cond (inB 1 v6.length) ((some (v6.set ((1:Int).toNat) (w64 ((v6.getD ((1:Int).toNat) 0)+1)))).bind fun v10=>some (.inl (w64 (v5+1),v10))) none) none) (cond ((v3.getD v5.toNat Xa).1 == 1) (cond (inB 2 v6.length) ((Xap (v3.getD v5.toNat Xa).2.2.2.1).bind fun v11=>cond (inB v5 v8.2.2.2.2.1.length) ((some (w64 ((v6.getD ((2:Int).toNat) 0)+(w64 (v11-(v8.2.2.2.2.1.getD v5.toNat 0)))))).bind fun v12=>cond (inB 2 v6.length) (cond (inB v5 v8.2.2.2.1.length) ((some ((v3.getD v5.toNat Xa).2.1 != (v8.2.2.2.1.getD v5.toNat 0))).bind fun v13=>cond v13 (cond (inB 3 ((v6.set ((2:Int).toNat) v12).length)) ((some ((v6.set ((2:Int).toNat) v12).getD ((3:Int).toNat) 0)).bind fun v14=>cond (inB 3 ((v6.set ((2:Int).toNat) v12).length)) ((some ((v6.set ((2:Int).toNat) v12).set ((3:Int).toNat) (w64 (v14+1)))).bind fun v15=>some (.inl (w64 (v5+1),v15))) none) none) (some (.inl (w64 (v5+1),v6.set ((2:Int).toNat) v12)))) none) none) none) none) (some (.inl (w64 (v5+1),v6))))) none) none) (some (.inr v6))
def Xeb (v:Fs_) (v3:List Xb) (v4:Int) (v7:Fs_) (v8:(List Bool)×(List (List Xc))×Int×(List Int)×(List Int)×Unit):(Int×List Int)→Option (List Int):=
 Y9 fun s=>Xeb.B v v3 v4 v7 v8 s.1 s.2
def Xfw.B (v:Fs_) (v18:List Int) (v19:Int) (v20:List Int):Option ((Int×List Int)⊕(List Int)):=
 cond (decide (v19<20)) (cond (inB v19 20) (cond (inB v19 v.2.1.length) ((Xbn (v.2.1.getD v19.toNat [])).bind fun v21=>cond (v21 != (v18.getD v19.toNat 0)) (cond (inB 4 v20.length) (cond (inB 4 v20.length) ((some (v20.set ((4:Int).toNat) (w64 ((v20.getD ((4:Int).toNat) 0)+1)))).bind fun v22=>some (.inl (w64 (v19+1),v22))) none) none) (some (.inl (w64 (v19+1),v20)))) none) none) (some (.inr v20))
def Xfw (v:Fs_) (v18:List Int):(Int×List Int)→Option (List Int):=
 Y9 fun s=>Xfw.B v v18 s.1 s.2
def Xb5 (v:Fs_):Option (List Int):=
 (Xbh v).bind fun v2=>(Xeb v v.1 (v.1.length:Int) v2.1 v2.2 (0,[v2.2.2.2.1,0,0,0,0])).bind fun v16=>(Xcn (v2.1,v2.2)).bind fun v17=>(Xbl v17.1).bind fun v18=>(Xfw v v18 (0,v16)).bind fun v23=>some v23
namespace Xb5
def G:Gam:=mkG [(137,Xbh.FS),(138,Xap.FS),(140,Xcn.FS),(139,Xbl.FS),(141,Xbn.FS)]
theorem Gok:GOk PR G:=.cons Xbh.ok (.cons Xap.ok (.cons Xcn.ok (.cons Xbl.ok (.cons Xbn.ok .nil))))
end Xb5
namespace Xeb
def c:=Yaq (Yah Proofs.Tryz.f70) [1,1,1,0,1,0,0]
def sp:SP:=⟨[(1,.pt Xj),(3,.loc 10 []),(4,.seg 4 []),(17,.cs (.sl Xe)),(18,.cs I64),(19,.cs I64)],[(4,.reg,.cd SI),(10,.mem,.pr (.cs Xj) (.cd (.pair (.sl .bool) (.pair (.sl (.sl Xm)) (.pair I64 (.pair SI (.pair SI .unit)))))))]⟩
def fr:=Yi4 sp (fun x s=>Xeb.B x.1.1 x.1.2.2.2.1 x.1.2.2.2.2.1 x.2.2.1.1 x.2.2.1.2 s.1 s.2) (fun x=>(x.1.2.2.2.2.2.1,x.2.1)) fun x (bb0:List Int) _ kk0=>kk0 (.ex 0) ⟨[(1,.pt Xj x.1.1),(3,.loc 10 []),(4,.seg 4 [])],[sr 4 (.cd SI bb0),(10,some ⟨.mem,.pr (.cs Xj x.2.2.1.1) (.cd (.pair (.sl .bool) (.pair (.sl (.sl Xm)) (.pair I64 (.pair SI (.pair SI .unit))))) x.2.2.1.2)⟩)]⟩
theorem ok:Ya4 PR 102 1 (.loop c) fr:=
 Yxk Xf Xg ⟨[1],[],[],0⟩ (G:=Xb5.G) Xb5.Gok [(0,([1,3,4],[4,10]))] (fun x s=>((x.1.1,x.1.2.1,x.1.2.2.1,x.1.2.2.2.1,x.1.2.2.2.2.1,s.1,x.1.2.2.2.2.2.2),(s.2,x.2.2)))
  (fun x s=>by simp only[B,mC,mB,mS,mO,mN];kernel_rfl)
end Xeb
namespace Xfw
def c:=Yaq (Yah Proofs.Tryz.f70) [1,1,1,1,0,1,0,0]
def sp:SP:=⟨[(1,.pt Xj),(4,.seg 4 []),(82,.cs (.arr 20 I64)),(83,.cs I64)],[(4,.reg,.cd SI)]⟩
def fr:=Yi4 sp (fun x s=>Xfw.B x.1.1 x.1.2.2.1 s.1 s.2) (fun x=>(x.1.2.2.2.1,x.2.1)) fun x (bb0:List Int) _ kk0=>kk0 (.ex 3) ⟨[(4,.seg 4 [])],[sr 4 (.cd SI bb0)]⟩
theorem ok:Ya4 PR 102 1 (.loop c) fr:=
 Yxk Xf Xg ⟨[1],[],[],0⟩ (G:=Xb5.G) Xb5.Gok [(3,([4],[4]))] (fun x s=>((x.1.1,x.1.2.1,x.1.2.2.1,s.1,x.1.2.2.2.2),(s.2,x.2.2)))
  (fun x s=>by simp only[B,mC,mB,mS,mO,mN];kernel_rfl)
end Xfw
namespace Xb5
def pts:List PT:=[.cs Xj]
def FS:FS:=Ybr [.sh] pts (fun x=>Xb5 x.1) fun t=>⟨[.cd SI t],[]⟩
theorem ok:Yb5 PR 70 FS:=
 Yxj Xf Xg Proofs.Tryz.f70 ⟨[1],[],[],0⟩ (.R (.R (.R (.two (.R (.one (.fr 0))) (.L (.R (.one (.fr 1)))))))) (G:=G) Gok (L:=mkL [(0,Xeb.fr),(1,Xfw.fr)]) (l:=[(0,.loop Xeb.c),(1,.loop Xfw.c)]) ⟨Lam.cons Xeb.ok,Lam.skip rfl (Lam.cons Xfw.ok),trivial⟩
  (fun x=>by simp only[Xb5,mC,mB,mS,mO,mN];kernel_rfl)
end Xb5
def Xgf (v:Xd):Option Xo:=
 (Xid v).bind fun v2=>cond (v2.1 != 0) (some (v2.1,[],())) ((Xb5 (v2.2.2.1.2.1.1,v2.2.2.1.2.1.2.1,v2.2.2.1.2.1.2.2)).bind fun v3=>some (0,v3,()))
namespace Xgf
def G:Gam:=mkG [(69,Xid.FS),(70,Xb5.FS)]
def pts:List PT:=[.cs Xh]
def FS:FS:=Ybr [.sh] pts (fun x=>Xgf x.1) fun t=>⟨[.cd Xl t],[]⟩
theorem ok:Yb5 PR 21 FS:=
 Yxj Xf Xg Proofs.Tryz.f21 ⟨[1],[],[],0⟩ .no (G:=G) (show GOk PR G from .cons Xid.ok (.cons Xb5.ok .nil)) (L:=mkL []) (l:=[]) hT
  (fun x=>by simp only[Xgf,mC,mB,mS,mO,mN];kernel_rfl)
end Xgf
def Xea.B (a:List Int) (b:List Int) (i_:Int):Option (Int⊕((Bool⊕Unit))):=
 cond (decide (i_<(a.length:Int))) (cond (inB i_ a.length) (cond (inB i_ b.length) (cond ((a.getD i_.toNat 0) != (b.getD i_.toNat 0)) (some (.inr (.inl false))) (some (.inl (w64 (i_+1))))) none) none) (some (.inr (.inr ())))
def Xea (a:List Int) (b:List Int):Int→Option ((Bool⊕Unit)):=
 Y9 fun s=>Xea.B a b s
def Xcm (a:List Int) (b:List Int):Option Bool:=
 cond ((a.length:Int) != (b.length:Int)) (some false) ((Xea a b 0).bind fun o=>sel o (fun b2=>some b2) (fun c=>some true))
namespace Xea
def c:=Yaq (Yah Proofs.Tryz.f71) [1,1,0,1,0,0]
def sp:SP:=⟨[(0,.cs SI),(1,.cs SI),(5,.cs I64)],[]⟩
def fr:=Yi4 sp (fun x s=>Xea.B x.1.1 x.1.2.1 s) (fun x=>x.1.2.2.1) fun x (oo0:(Bool⊕Unit)) _ kk0=>sel oo0 (fun bb0=>kk0 (.rt) ⟨[(4,.cs .bool bb0)],[]⟩) (fun cc0=>kk0 (.ex 0) ⟨[],[]⟩)
theorem ok:Ya4 PR 26 2 (.loop c) fr:=
 Ytd Xf Xg h0 .no (G:=(mkG [])) .nil (L:=mkL []) (l:=[]) hT [(0,([],[]))] ([4],[]) (fun x s=>((x.1.1,x.1.2.1,s,x.1.2.2.2),x.2))
  (fun x s=>by simp only[B,mC,mB,mS,mO,mN];kernel_rfl)
end Xea
namespace Xcm
def pts:List PT:=[.cs SI,.cs SI]
def FS:FS:=Ybr [.sh,.sh] pts (fun x=>Xcm x.1 x.2.1) fun t=>⟨[.cs .bool t],[]⟩
theorem ok:Yb5 PR 71 FS:=
 Yxj Xf Xg Proofs.Tryz.f71 h0 (.R (.R (.L (.R (.one (.fr 0)))))) (G:=(mkG [])) .nil (L:=mkL [(0,Xea.fr)]) (l:=[(0,.loop Xea.c)]) ⟨Lam.cons Xea.ok,trivial⟩
  (fun x=>by simp only[Xcm,mC,mB,mS,mO,mN];kernel_rfl)
end Xcm
def Xgh (a:Xo) (b:Xo):Option Bool:=
 cond (a.1 != b.1) (some false) ((Xcm a.2.1 b.2.1).bind fun r=>cond (!r) (some false) (some true))
namespace Xgh
def G:Gam:=mkG [(71,Xcm.FS)]
def pts:List PT:=[.cs Xl,.cs Xl]
def FS:FS:=Ybr [.sh,.sh] pts (fun x=>Xgh x.1 x.2.1) fun t=>⟨[.cs .bool t],[]⟩
theorem ok:Yb5 PR 22 FS:=
 Yxj Xf Xg Proofs.Tryz.f22 ⟨[2,3],[],[],0⟩ .no (G:=G) (show GOk PR G from .cons Xcm.ok .nil) (L:=mkL []) (l:=[]) hT
  (fun x=>by simp only[Xgh,mC,mB,mS,mO,mN];kernel_rfl)
end Xgh
def Xd5.B (a:List (List Int)) (b:List (List Int)) (i_:Int):Option (Int⊕((Bool⊕Unit))):=
 cond (decide (i_<(a.length:Int))) (cond (inB i_ a.length) (cond (inB i_ b.length) ((Xcm (a.getD i_.toNat []) (b.getD i_.toNat [])).bind fun r=>cond (!r) (some (.inr (.inl false))) (some (.inl (w64 (i_+1))))) none) none) (some (.inr (.inr ())))
def Xd5 (a:List (List Int)) (b:List (List Int)):Int→Option ((Bool⊕Unit)):=
 Y9 fun s=>Xd5.B a b s
def Xe1 (a:List (List Int)) (b:List (List Int)):Option Bool:=
 cond ((a.length:Int) != (b.length:Int)) (some false) ((Xd5 a b 0).bind fun o=>sel o (fun b2=>some b2) (fun c=>some true))
namespace Xe1
def G:Gam:=mkG [(71,Xcm.FS)]
theorem Gok:GOk PR G:=.cons Xcm.ok .nil
end Xe1
namespace Xd5
def c:=Yaq (Yah Proofs.Tryz.f57) [1,1,0,1,0,0]
def sp:SP:=⟨[(0,.cs (.sl SI)),(1,.cs (.sl SI)),(5,.cs I64)],[]⟩
def fr:=Yi4 sp (fun x s=>Xd5.B x.1.1 x.1.2.1 s) (fun x=>x.1.2.2.1) fun x (oo0:(Bool⊕Unit)) _ kk0=>sel oo0 (fun bb0=>kk0 (.rt) ⟨[(4,.cs .bool bb0)],[]⟩) (fun cc0=>kk0 (.ex 0) ⟨[],[]⟩)
theorem ok:Ya4 PR 27 2 (.loop c) fr:=
 Ytd Xf Xg h0 .no (G:=Xe1.G) Xe1.Gok (L:=mkL []) (l:=[]) hT [(0,([],[]))] ([4],[]) (fun x s=>((x.1.1,x.1.2.1,s,x.1.2.2.2),x.2))
  (fun x s=>by simp only[B,mC,mB,mS,mO,mN];kernel_rfl)
end Xd5
namespace Xe1
def pts:List PT:=[.cs (.sl SI),.cs (.sl SI)]
def FS:FS:=Ybr [.sh,.sh] pts (fun x=>Xe1 x.1 x.2.1) fun t=>⟨[.cs .bool t],[]⟩
theorem ok:Yb5 PR 57 FS:=
 Yxj Xf Xg Proofs.Tryz.f57 h0 (.R (.R (.L (.R (.one (.fr 0)))))) (G:=G) Gok (L:=mkL [(0,Xd5.fr)]) (l:=[(0,.loop Xd5.c)]) ⟨Lam.cons Xd5.ok,trivial⟩
  (fun x=>by simp only[Xe1,mC,mB,mS,mO,mN];kernel_rfl)
end Xe1
def Xh0 (a:Xo) (b:Xo):Option Bool:=
 cond (a.1 != b.1) (some false) ((Xcm a.2.1 b.2.1).bind fun r=>cond (!r) (some false) (some true))
namespace Xh0
def G:Gam:=mkG [(71,Xcm.FS)]
def pts:List PT:=[.cs Xl,.cs Xl]
def FS:FS:=Ybr [.sh,.sh] pts (fun x=>Xh0 x.1 x.2.1) fun t=>⟨[.cs .bool t],[]⟩
theorem ok:Yb5 PR 124 FS:=
 Yxj Xf Xg Proofs.Tryz.f124 ⟨[2,3],[],[],0⟩ .no (G:=G) (show GOk PR G from .cons Xcm.ok .nil) (L:=mkL []) (l:=[]) hT
  (fun x=>by simp only[Xh0,mC,mB,mS,mO,mN];kernel_rfl)
end Xh0
def Xd4.B (a:List Xo) (b:List Xo) (i_:Int):Option (Int⊕((Bool⊕Unit))):=
 cond (decide (i_<(a.length:Int))) (cond (inB i_ a.length) (cond (inB i_ b.length) ((Xh0 (a.getD i_.toNat Xab) (b.getD i_.toNat Xab)).bind fun r=>cond (!r) (some (.inr (.inl false))) (some (.inl (w64 (i_+1))))) none) none) (some (.inr (.inr ())))
def Xd4 (a:List Xo) (b:List Xo):Int→Option ((Bool⊕Unit)):=
 Y9 fun s=>Xd4.B a b s
def Xdx (a:List Xo) (b:List Xo):Option Bool:=
 cond ((a.length:Int) != (b.length:Int)) (some false) ((Xd4 a b 0).bind fun o=>sel o (fun b2=>some b2) (fun c=>some true))
namespace Xdx
def G:Gam:=mkG [(124,Xh0.FS)]
theorem Gok:GOk PR G:=.cons Xh0.ok .nil
end Xdx
namespace Xd4
def c:=Yaq (Yah Proofs.Tryz.f58) [1,1,0,1,0,0]
def sp:SP:=⟨[(0,.cs (.sl Xl)),(1,.cs (.sl Xl)),(5,.cs I64)],[]⟩
def fr:=Yi4 sp (fun x s=>Xd4.B x.1.1 x.1.2.1 s) (fun x=>x.1.2.2.1) fun x (oo0:(Bool⊕Unit)) _ kk0=>sel oo0 (fun bb0=>kk0 (.rt) ⟨[(4,.cs .bool bb0)],[]⟩) (fun cc0=>kk0 (.ex 0) ⟨[],[]⟩)
theorem ok:Ya4 PR 27 2 (.loop c) fr:=
 Ytd Xf Xg h0 .no (G:=Xdx.G) Xdx.Gok (L:=mkL []) (l:=[]) hT [(0,([],[]))] ([4],[]) (fun x s=>((x.1.1,x.1.2.1,s,x.1.2.2.2),x.2))
  (fun x s=>by simp only[B,mC,mB,mS,mO,mN];kernel_rfl)
end Xd4
namespace Xdx
def pts:List PT:=[.cs (.sl Xl),.cs (.sl Xl)]
def FS:FS:=Ybr [.sh,.sh] pts (fun x=>Xdx x.1 x.2.1) fun t=>⟨[.cs .bool t],[]⟩
theorem ok:Yb5 PR 58 FS:=
 Yxj Xf Xg Proofs.Tryz.f58 h0 (.R (.R (.L (.R (.one (.fr 0)))))) (G:=G) Gok (L:=mkL [(0,Xd4.fr)]) (l:=[(0,.loop Xd4.c)]) ⟨Lam.cons Xd4.ok,trivial⟩
  (fun x=>by simp only[Xdx,mC,mB,mS,mO,mN];kernel_rfl)
end Xdx
def Xho (a:Xd) (b:Xd):Option Bool:=
 (Xe1 a.1 b.1).bind fun r=>cond (!r) (some false) ((Xdx a.2.1 b.2.1).bind fun r2=>cond (!r2) (some false) (some true))
namespace Xho
def G:Gam:=mkG [(57,Xe1.FS),(58,Xdx.FS)]
def pts:List PT:=[.cs Xh,.cs Xh]
def FS:FS:=Ybr [.sh,.sh] pts (fun x=>Xho x.1 x.2.1) fun t=>⟨[.cs .bool t],[]⟩
theorem ok:Yb5 PR 14 FS:=
 Yxj Xf Xg Proofs.Tryz.f14 ⟨[2,3],[],[],0⟩ .no (G:=G) (show GOk PR G from .cons Xe1.ok (.cons Xdx.ok .nil)) (L:=mkL []) (l:=[]) hT
  (fun x=>by simp only[Xho,mC,mB,mS,mO,mN];kernel_rfl)
end Xho
def Xda.B (k_:Int) (i_:Int) (a_:List Int):Option ((Int×Int×List Int)⊕(Int×List Int)):=
 cond (decide (i_<(a_.length:Int))) (cond (inB i_ a_.length) (some (.inl (w64 (k_+1),w64 (i_+1),a_.set i_.toNat k_))) none) (some (.inr (k_,a_)))
def Xda :(Int×Int×List Int)→Option (Int×List Int):=
 Y9 fun s=>Xda.B s.1 s.2.1 s.2.2
def Xcs (a:List Int) (k:Int):Option (Int×List Int):=
 (Xda (k,0,a)).bind fun o=>some (o.1,o.2)
namespace Xda
def c:=Yaq (Yah Proofs.Tryz.f72) [1,0,1,0,0]
def sp:SP:=⟨[(0,.seg 0 []),(1,.cs I64),(5,.cs I64)],[(0,.reg,.cd SI)]⟩
def fr:=Yi4 sp (fun x s=>Xda.B  s.1 s.2.1 s.2.2) (fun x=>(x.1.2.1,x.1.2.2.1,x.2.1)) fun x (bb0:Int×List Int) _ kk0=>kk0 (.ex 0) ⟨[(1,.cs I64 bb0.1)],[sr 0 (.cd SI bb0.2)]⟩
theorem ok:Ya4 PR 19 2 (.loop c) fr:=
 Yw6 Xf Xg h0 [(0,([1],[0]))] (fun x s=>((x.1.1,s.1,s.2.1,x.1.2.2.2),(s.2.2,x.2.2)))
  (fun x s=>by simp only[B,mC,mB,mS,mO,mN];kernel_rfl)
end Xda
namespace Xcs
def pts:List PT:=[.cd SI,.cs I64]
def FS:FS:=Ybr [.mu,.sh] pts (fun x=>Xcs x.1 x.2.1) fun t=>⟨[.cs I64 t.1],[.cd SI t.2]⟩
theorem ok:Yb5 PR 72 FS:=
 Yxj Xf Xg Proofs.Tryz.f72 h0 (.R (.L (.R (.one (.fr 0))))) (G:=(mkG [])) .nil (L:=mkL [(0,Xda.fr)]) (l:=[(0,.loop Xda.c)]) ⟨Lam.cons Xda.ok,trivial⟩
  (fun x=>by simp only[Xcs,mC,mB,mS,mO,mN];kernel_rfl)
end Xcs
def Xc1.B (k_:Int) (i_:Int) (a_:List (List Int)):Option ((Int×Int×List (List Int))⊕(Int×List (List Int))):=
 cond (decide (i_<(a_.length:Int))) (cond (inB i_ a_.length) ((Xcs (a_.getD i_.toNat []) k_).bind fun r=>some (.inl (r.1,w64 (i_+1),a_.set i_.toNat r.2))) none) (some (.inr (k_,a_)))
def Xc1 :(Int×Int×List (List Int))→Option (Int×List (List Int)):=
 Y9 fun s=>Xc1.B s.1 s.2.1 s.2.2
def Xeu (a:List (List Int)) (k:Int):Option (Int×List (List Int)):=
 (Xc1 (k,0,a)).bind fun o=>some (o.1,o.2)
namespace Xeu
def G:Gam:=mkG [(72,Xcs.FS)]
theorem Gok:GOk PR G:=.cons Xcs.ok .nil
end Xeu
namespace Xc1
def c:=Yaq (Yah Proofs.Tryz.f61) [1,0,1,0,0]
def sp:SP:=⟨[(0,.seg 0 []),(1,.cs I64),(5,.cs I64)],[(0,.reg,.cd (.sl SI))]⟩
def fr:=Yi4 sp (fun x s=>Xc1.B  s.1 s.2.1 s.2.2) (fun x=>(x.1.2.1,x.1.2.2.1,x.2.1)) fun x (bb0:Int×List (List Int)) _ kk0=>kk0 (.ex 0) ⟨[(1,.cs I64 bb0.1)],[sr 0 (.cd (.sl SI) bb0.2)]⟩
theorem ok:Ya4 PR 19 2 (.loop c) fr:=
 Yxk Xf Xg h0 (G:=Xeu.G) Xeu.Gok [(0,([1],[0]))] (fun x s=>((x.1.1,s.1,s.2.1,x.1.2.2.2),(s.2.2,x.2.2)))
  (fun x s=>by simp only[B,mC,mB,mS,mO,mN];kernel_rfl)
end Xc1
namespace Xeu
def pts:List PT:=[.cd (.sl SI),.cs I64]
def FS:FS:=Ybr [.mu,.sh] pts (fun x=>Xeu x.1 x.2.1) fun t=>⟨[.cs I64 t.1],[.cd (.sl SI) t.2]⟩
theorem ok:Yb5 PR 61 FS:=
 Yxj Xf Xg Proofs.Tryz.f61 h0 (.R (.L (.R (.one (.fr 0))))) (G:=G) Gok (L:=mkL [(0,Xc1.fr)]) (l:=[(0,.loop Xc1.c)]) ⟨Lam.cons Xc1.ok,trivial⟩
  (fun x=>by simp only[Xeu,mC,mB,mS,mO,mN];kernel_rfl)
end Xeu
def Xcx.B (k_:Int) (i_:Int) (a_:List Xo):Option ((Int×Int×List Xo)⊕(Int×List Xo)):=
 cond (decide (i_<(a_.length:Int))) (cond (inB i_ a_.length) (cond (inB i_ ((a_.set i_.toNat (k_,(a_.getD i_.toNat Xab).2)).length)) ((Xcs ((a_.set i_.toNat (k_,(a_.getD i_.toNat Xab).2)).getD i_.toNat Xab).2.1 (w64 (k_+1))).bind fun r=>some (.inl (r.1,w64 (i_+1),(a_.set i_.toNat (k_,(a_.getD i_.toNat Xab).2)).set i_.toNat (((a_.set i_.toNat (k_,(a_.getD i_.toNat Xab).2)).getD i_.toNat Xab).1,r.2,((a_.set i_.toNat (k_,(a_.getD i_.toNat Xab).2)).getD i_.toNat Xab).2.2)))) none) none) (some (.inr (k_,a_)))
def Xcx :(Int×Int×List Xo)→Option (Int×List Xo):=
 Y9 fun s=>Xcx.B s.1 s.2.1 s.2.2
def Xek (a:List Xo) (k:Int):Option (Int×List Xo):=
 (Xcx (k,0,a)).bind fun o=>some (o.1,o.2)
namespace Xek
def G:Gam:=mkG [(72,Xcs.FS)]
theorem Gok:GOk PR G:=.cons Xcs.ok .nil
end Xek
namespace Xcx
def c:=Yaq (Yah Proofs.Tryz.f62) [1,0,1,0,0]
def sp:SP:=⟨[(0,.seg 0 []),(1,.cs I64),(5,.cs I64)],[(0,.reg,.cd (.sl Xl))]⟩
def fr:=Yi4 sp (fun x s=>Xcx.B  s.1 s.2.1 s.2.2) (fun x=>(x.1.2.1,x.1.2.2.1,x.2.1)) fun x (bb0:Int×List Xo) _ kk0=>kk0 (.ex 0) ⟨[(1,.cs I64 bb0.1)],[sr 0 (.cd (.sl Xl) bb0.2)]⟩
theorem ok:Ya4 PR 27 2 (.loop c) fr:=
 Yxk Xf Xg h0 (G:=Xek.G) Xek.Gok [(0,([1],[0]))] (fun x s=>((x.1.1,s.1,s.2.1,x.1.2.2.2),(s.2.2,x.2.2)))
  (fun x s=>by simp only[B,mC,mB,mS,mO,mN];kernel_rfl)
end Xcx
namespace Xek
def pts:List PT:=[.cd (.sl Xl),.cs I64]
def FS:FS:=Ybr [.mu,.sh] pts (fun x=>Xek x.1 x.2.1) fun t=>⟨[.cs I64 t.1],[.cd (.sl Xl) t.2]⟩
theorem ok:Yb5 PR 62 FS:=
 Yxj Xf Xg Proofs.Tryz.f62 h0 (.R (.L (.R (.one (.fr 0))))) (G:=G) Gok (L:=mkL [(0,Xcx.fr)]) (l:=[(0,.loop Xcx.c)]) ⟨Lam.cons Xcx.ok,trivial⟩
  (fun x=>by simp only[Xek,mC,mB,mS,mO,mN];kernel_rfl)
end Xek
def Xhu (a:Xd) (k:Int):Option (Int×Xd):=
 (Xeu a.1 k).bind fun r=>(Xek a.2.1 r.1).bind fun r2=>some (r2.1,(r.2,r2.2,a.2.2))
namespace Xhu
def G:Gam:=mkG [(61,Xeu.FS),(62,Xek.FS)]
def pts:List PT:=[.cd Xh,.cs I64]
def FS:FS:=Ybr [.mu,.sh] pts (fun x=>Xhu x.1 x.2.1) fun t=>⟨[.cs I64 t.1],[.cd Xh t.2]⟩
theorem ok:Yb5 PR 16 FS:=
 Yxj Xf Xg Proofs.Tryz.f16 ⟨[2],[],[],0⟩ .no (G:=G) (show GOk PR G from .cons Xeu.ok (.cons Xek.ok .nil)) (L:=mkL []) (l:=[]) hT
  (fun x=>by simp only[Xhu,mC,mB,mS,mO,mN];kernel_rfl)
end Xhu
def Xic (a:Xo) (k:Int):Option (Int×Xo):=
 (Xcs a.2.1 k).bind fun r=>some (r.1,(a.1,r.2,a.2.2))
namespace Xic
def G:Gam:=mkG [(72,Xcs.FS)]
def pts:List PT:=[.cd Xl,.cs I64]
def FS:FS:=Ybr [.mu,.sh] pts (fun x=>Xic x.1 x.2.1) fun t=>⟨[.cs I64 t.1],[.cd Xl t.2]⟩
theorem ok:Yb5 PR 23 FS:=
 Yxj Xf Xg Proofs.Tryz.f23 ⟨[2],[],[],0⟩ .no (G:=G) (show GOk PR G from .cons Xcs.ok .nil) (L:=mkL []) (l:=[]) hT
  (fun x=>by simp only[Xic,mC,mB,mS,mO,mN];kernel_rfl)
end Xic
def Xdh.B (a:List Int) (k_:Int) (i_:Int):Option ((Int×Int)⊕((Int⊕Int))):=
 cond (decide (i_<(a.length:Int))) (cond (inB i_ a.length) (cond ((a.getD i_.toNat 0) != k_) (some (.inr (.inl (-1)))) (some (.inl (w64 (k_+1),w64 (i_+1))))) none) (some (.inr (.inr k_)))
def Xdh (a:List Int):(Int×Int)→Option ((Int⊕Int)):=
 Y9 fun s=>Xdh.B a s.1 s.2
def Xhh (a:List Int) (k:Int):Option Int:=
 (Xdh a (k,0)).bind fun o=>sel o (fun b=>some b) (fun c=>some c)
namespace Xdh
def c:=Yaq (Yah Proofs.Tryz.f73) [1,0,1,0,0]
def sp:SP:=⟨[(0,.cs SI),(1,.cs I64),(5,.cs I64)],[]⟩
def fr:=Yi4 sp (fun x s=>Xdh.B x.1.1 s.1 s.2) (fun x=>(x.1.2.1,x.1.2.2.1)) fun x (oo0:(Int⊕Int)) _ kk0=>sel oo0 (fun bb0=>kk0 (.rt) ⟨[(4,.cs I64 bb0)],[]⟩) (fun cc0=>kk0 (.ex 0) ⟨[(1,.cs I64 cc0)],[]⟩)
theorem ok:Ya4 PR 21 2 (.loop c) fr:=
 Ytd Xf Xg h0 .no (G:=(mkG [])) .nil (L:=mkL []) (l:=[]) hT [(0,([1],[]))] ([4],[]) (fun x s=>((x.1.1,s.1,s.2,x.1.2.2.2),x.2))
  (fun x s=>by simp only[B,mC,mB,mS,mO,mN];kernel_rfl)
end Xdh
namespace Xhh
def pts:List PT:=[.cs SI,.cs I64]
def FS:FS:=Ybr [.sh,.sh] pts (fun x=>Xhh x.1 x.2.1) fun t=>⟨[.cs I64 t],[]⟩
theorem ok:Yb5 PR 73 FS:=
 Yxj Xf Xg Proofs.Tryz.f73 h0 (.R (.L (.R (.one (.fr 0))))) (G:=(mkG [])) .nil (L:=mkL [(0,Xdh.fr)]) (l:=[(0,.loop Xdh.c)]) ⟨Lam.cons Xdh.ok,trivial⟩
  (fun x=>by simp only[Xhh,mC,mB,mS,mO,mN];kernel_rfl)
end Xhh
def Xgy (a:Xo) (k:Int):Option Int:=
 (Xhh a.2.1 k).bind fun r=>cond (decide (r<0)) (some (-1)) (some r)
namespace Xgy
def G:Gam:=mkG [(73,Xhh.FS)]
def pts:List PT:=[.cs Xl,.cs I64]
def FS:FS:=Ybr [.sh,.sh] pts (fun x=>Xgy x.1 x.2.1) fun t=>⟨[.cs I64 t],[]⟩
theorem ok:Yb5 PR 24 FS:=
 Yxj Xf Xg Proofs.Tryz.f24 ⟨[2],[],[],0⟩ .no (G:=G) (show GOk PR G from .cons Xhh.ok .nil) (L:=mkL []) (l:=[]) hT
  (fun x=>by simp only[Xgy,mC,mB,mS,mO,mN];kernel_rfl)
end Xgy
def Xj7 (aD:Xd):Option Bool:=
 (Zq6 aD 1048576).bind fun r=>cond (decide (r<0)) (some true) ((Xkc aD).bind fun r2=>(Xg1 (r2.1,r2.2.1,r2.2.2)).bind fun r3=>(Xkc aD).bind fun r4=>(Xgf (r4.1,r4.2.1,r4.2.2)).bind fun r5=>(Xgh (r5.1,r5.2.1,r5.2.2) (r3.1,r3.2.1,r3.2.2)).bind fun r6=>cond (!r6) (some false) ((Xkc aD).bind fun r7=>(Xho (r4.1,r4.2.1,r4.2.2) (r7.1,r7.2.1,r7.2.2)).bind fun r8=>cond (!r8) (some false) ((Xhu (r4.1,r4.2.1,r4.2.2) 1).bind fun r9=>cond (decide (r9.1<0)) (some false) ((Xgh (r5.1,r5.2.1,r5.2.2) (r3.1,r3.2.1,r3.2.2)).bind fun r10=>cond (!r10) (some false) ((Xic (r5.1,r5.2.1,r5.2.2) 1).bind fun r11=>(Xgy (r5.1,r11.2.2.1,r5.2.2) 1).bind fun r12=>cond (decide (r12<0)) (some false) (cond (r12 != r11.1) (some false) ((Xkc aD).bind fun r13=>(Xgf (r13.1,r13.2.1,r13.2.2)).bind fun r14=>(Xgh (r14.1,r14.2.1,r14.2.2) (r3.1,r3.2.1,r3.2.2)).bind fun r15=>cond (!r15) (some false) ((Xgy (r5.1,r11.2.2.1,r5.2.2) 1).bind fun r16=>cond (decide (r16<0)) (some false) (cond (r16 != r11.1) (some false) (some true))))))))))
namespace Xj7
def G:Gam:=mkG [(7,Zq6.FS),(10,Xkc.FS),(20,Xg1.FS),(21,Xgf.FS),(22,Xgh.FS),(14,Xho.FS),(16,Xhu.FS),(23,Xic.FS),(24,Xgy.FS)]
def pts:List PT:=[.cs Xh]
def FS:FS:=Ybr [.sh] pts (fun x=>Xj7 x.1) fun t=>⟨[.cs .bool t],[]⟩
theorem ok:Yb5 PR 4 FS:=
 Yxj Xf Xg Proofs.Tryz.f4 ⟨[1],[],[],0⟩ .no (G:=G) (show GOk PR G from .cons Zq6.ok (.cons Xkc.ok (.cons Xg1.ok (.cons Xgf.ok (.cons Xgh.ok (.cons Xho.ok (.cons Xhu.ok (.cons Xic.ok (.cons Xgy.ok .nil))))))))) (L:=mkL []) (l:=[]) hT
  (fun x=>by simp only[Xj7,mC,mB,mS,mO,mN];kernel_rfl)
end Xj7
end Mf
