import Derived.Test.YthaonimonnheeaaGreatCrashSyncA1
noncomputable section
namespace Mf
open Go
set_option linter.unusedVariables false
set_option linter.unusedSimpArgs false
set_option maxRecDepth 100000
def Xcx.B (v5:List Int) (v11:Int) (v12:List Int) (v13:Int) (v14:Int) (v15:List Int) (v8:Int) (v16:Int) (v9:Bool) (v10:List Int) (v17:Int) (v6:Xa) (v7:Xa) (v18:Int) (v19:Xg):Option ((Int×Xg)⊕(((Bool×Xa)⊕Xg))):=
 cond (decide (v18<v17)) (cond (inB v18 v10.length) (cond (decide ((v10.getD v18.toNat 0)>255)) (some (.inr (.inl (false,(0,0,0,[],[],()))))) ((some (([IntKind.u8.wrap (v10.getD v18.toNat 0)]).map fun n=>UInt8.ofNat n.toNat)).bind fun v20=>cond (decide (v19.1.length+v20.length≤2147483648)) (some (.inl (w64 (v18+1),(v19.1++v20,v19.2)))) none)) none) (some (.inr (.inr v19)))
def Xcx (v5:List Int) (v11:Int) (v12:List Int) (v13:Int) (v14:Int) (v15:List Int) (v8:Int) (v16:Int) (v9:Bool) (v10:List Int) (v17:Int) (v6:Xa) (v7:Xa):(Int×Xg)→Option (((Bool×Xa)⊕Xg)):=
 Y9 fun s=>Xcx.B v5 v11 v12 v13 v14 v15 v8 v16 v9 v10 v17 v6 v7 s.1 s.2
def Xbe.B (v6:Xa) (v5:List Int) (v7:Xa):Option (((List Int)×Xa)⊕(((Bool×Xa)⊕Xa))):=
 cond (decide ((v5.length:Int)>0)) (cond (decide ((v5.length:Int)<2)) (some (.inr (.inl (false,(0,0,0,[],[],()))))) (cond (inB 1 v5.length) ((Xbs v5).bind fun v8=>(some (decide ((v5.getD (1:Int).toNat 0)>(w64 (v8-2))))).bind fun v9=>cond v9 (some (.inr (.inl (false,(0,0,0,[],[],()))))) (cond (inB 1 v5.length) (cond (inB 0 v5.length) (cond (decide ((0:Int)≤(w64 ((2:Int)+(v5.getD (1:Int).toNat 0))))&&decide ((w64 ((2:Int)+(v5.getD (1:Int).toNat 0)))≤(v5.length:Int))&&(decide ((0:Int)≤(2:Int))&&decide ((2:Int)≤(w64 ((2:Int)+(v5.getD (1:Int).toNat 0)))))) ((some ((v5.take ((w64 ((2:Int)+(v5.getD (1:Int).toNat 0))).toNat)).drop ((2:Int).toNat))).bind fun v10=>(Xcx v5 (w64 ((2:Int)+(v5.getD (1:Int).toNat 0))) v5 (v5.getD (1:Int).toNat 0) (v5.getD (1:Int).toNat 0) v5 v8 (w64 (v8-2)) v9 v10 (v10.length:Int) v6 v7 (0,([],v5.getD (0:Int).toNat 0,()))).bind fun v21=>sel v21 (fun v22=>some (.inr (.inl (v22.1,v22.2)))) (fun v23=>cond (decide ((v7.2.2.2.2.1++([v23])).length≤2147483648)) (cond (decide ((0:Int)≤(w64 ((2:Int)+(v5.getD (1:Int).toNat 0))))&&decide ((w64 ((2:Int)+(v5.getD (1:Int).toNat 0)))≤(v5.length:Int))) ((some ((v5.take v5.length).drop ((w64 ((2:Int)+(v5.getD (1:Int).toNat 0))).toNat))).bind fun v24=>some (.inl (v24,(v7.1,v7.2.1,v7.2.2.1,v7.2.2.2.1,v7.2.2.2.2.1++([v23]),v7.2.2.2.2.2)))) none) none)) none) none) none)) none)) (some (.inr (.inr v7)))
def Xbe (v6:Xa):((List Int)×Xa)→Option (((Bool×Xa)⊕Xa)):=
 Y9 fun s=>Xbe.B v6 s.1 s.2
def Xbw (v:List Int):Option (Xa×Bool):=
 cond (decide ((v.length:Int)<3)) (some ((0,0,0,[],[],()),false)) (cond (inB 0 v.length) (cond (inB 1 v.length) (cond (inB 2 v.length) (cond (decide ((0:Int)≤(3:Int))&&decide ((3:Int)≤(v.length:Int))) (cond ((v.getD (0:Int).toNat 0) != 2) ((Xal ((v.take v.length).drop ((3:Int).toNat))).bind fun v2=>some ((v.getD (0:Int).toNat 0,v.getD (1:Int).toNat 0,v.getD (2:Int).toNat 0,v2,[],()),true)) ((some (((v.take v.length).drop ((3:Int).toNat)).length:Int)).bind fun v3=>cond (v3 == 0) (some ((0,0,0,[],[],()),false)) (cond (decide ((0:Int)≤(1:Int))&&decide ((1:Int)≤(((v.take v.length).drop ((3:Int).toNat)).length:Int))) ((some ((((v.take v.length).drop ((3:Int).toNat)).take (((v.take v.length).drop ((3:Int).toNat)).length)).drop ((1:Int).toNat))).bind fun v4=>(Xbe (0,0,0,[],[],()) (v4,(v.getD (0:Int).toNat 0,v.getD (1:Int).toNat 0,v.getD (2:Int).toNat 0,[],[],()))).bind fun v25=>sel v25 (fun v26=>some ((v26.2.1,v26.2.2.1,v26.2.2.2.1,v26.2.2.2.2.1,v26.2.2.2.2.2.1,v26.2.2.2.2.2.2),v26.1)) (fun v27=>some ((v27.1,v27.2.1,v27.2.2.1,v27.2.2.2.1,v27.2.2.2.2.1,v27.2.2.2.2.2),true))) none))) none) none) none) none)
namespace Xbw
def G:Gam:=mkG [(118,Xal.FS),(138,Xbs.FS)]
theorem Gok:GOk PR G:=.cons Xal.ok (.cons Xbs.ok .nil)
end Xbw
namespace Xcx
def c:=Yap (Yaf Proofs.Tryz.f231) [1,1,1,1,1,1,0,1,0,0,1,0,1,1,1,0,1,0,0]
def sp:SP:=⟨[(0,.cs SI),(2,.loc 2 []),(4,.loc 4 []),(5,.cs I64),(6,.loc 6 []),(45,.cs SI),(46,.pt I64),(47,.cs I64),(48,.cs SI),(49,.cs I64),(50,.cs I64),(51,.cs .bool),(64,.cs SI),(65,.cs I64),(66,.cs I64)],[(2,.mem,.cd Xb),(4,.mem,.cd Xb),(6,.mem,.cd Xi)]⟩
def fr:=Yja sp (fun x s=>Xcx.B x.1.1 x.1.2.2.2.1 x.1.2.2.2.2.2.1 x.1.2.2.2.2.2.2.1 x.1.2.2.2.2.2.2.2.1 x.1.2.2.2.2.2.2.2.2.1 x.1.2.2.2.2.2.2.2.2.2.1 x.1.2.2.2.2.2.2.2.2.2.2.1 x.1.2.2.2.2.2.2.2.2.2.2.2.1 x.1.2.2.2.2.2.2.2.2.2.2.2.2.1 x.1.2.2.2.2.2.2.2.2.2.2.2.2.2.1 x.2.1 x.2.2.1 s.1 s.2) (fun x=>(x.1.2.2.2.2.2.2.2.2.2.2.2.2.2.2.1,x.2.2.2.1)) fun x (oo0:((Bool×Xa)⊕Xg)) _ kk0=>sel oo0 (fun bb0=>kk0 (.rt) ⟨[(2,.loc 2 []),(3,.cs .bool bb0.1)],[(2,some ⟨.mem,.cd Xb bb0.2⟩)]⟩) (fun cc0=>kk0 (.ex 2) ⟨[(0,.cs SI x.1.1),(2,.loc 2 []),(4,.loc 4 []),(5,.cs I64 x.1.2.2.2.1),(6,.loc 6 []),(45,.cs SI x.1.2.2.2.2.2.1),(46,.pt I64 x.1.2.2.2.2.2.2.1),(47,.cs I64 x.1.2.2.2.2.2.2.2.1),(48,.cs SI x.1.2.2.2.2.2.2.2.2.1),(49,.cs I64 x.1.2.2.2.2.2.2.2.2.2.1),(50,.cs I64 x.1.2.2.2.2.2.2.2.2.2.2.1),(51,.cs .bool x.1.2.2.2.2.2.2.2.2.2.2.2.1)],[(2,some ⟨.mem,.cd Xb x.2.1⟩),(4,some ⟨.mem,.cd Xb x.2.2.1⟩),(6,some ⟨.mem,.cd Xi cc0⟩)]⟩)
theorem ok:Ya7 PR 92 1 (.loop c) fr:=
 Yvu Xe Xf h0 .no (G:=Xbw.G) Xbw.Gok (L:=mkL []) (l:=[]) hT [0,2,4,5,6,45,46,47,48,49,50,51,64,65,66] [2,4,6] [(2,([0,2,4,5,6,45,46,47,48,49,50,51],[2,4,6]))] ([2,3],[2]) (fun x s=>B x.1.1 x.1.2.2.2.1 x.1.2.2.2.2.2.1 x.1.2.2.2.2.2.2.1 x.1.2.2.2.2.2.2.2.1 x.1.2.2.2.2.2.2.2.2.1 x.1.2.2.2.2.2.2.2.2.2.1 x.1.2.2.2.2.2.2.2.2.2.2.1 x.1.2.2.2.2.2.2.2.2.2.2.2.1 x.1.2.2.2.2.2.2.2.2.2.2.2.2.1 x.1.2.2.2.2.2.2.2.2.2.2.2.2.2.1 x.2.1 x.2.2.1 s.1 s.2) (fun x s=>⟨[(0,.cs SI x.1.1),(2,.loc 2 []),(4,.loc 4 []),(5,.cs I64 x.1.2.2.2.1),(6,.loc 6 []),(45,.cs SI x.1.2.2.2.2.2.1),(46,.pt I64 x.1.2.2.2.2.2.2.1),(47,.cs I64 x.1.2.2.2.2.2.2.2.1),(48,.cs SI x.1.2.2.2.2.2.2.2.2.1),(49,.cs I64 x.1.2.2.2.2.2.2.2.2.2.1),(50,.cs I64 x.1.2.2.2.2.2.2.2.2.2.2.1),(51,.cs .bool x.1.2.2.2.2.2.2.2.2.2.2.2.1),(64,.cs SI x.1.2.2.2.2.2.2.2.2.2.2.2.2.1),(65,.cs I64 x.1.2.2.2.2.2.2.2.2.2.2.2.2.2.1),(66,.cs I64 s.1)],[(2,some ⟨.mem,.cd Xb x.2.1⟩),(4,some ⟨.mem,.cd Xb x.2.2.1⟩),(6,some ⟨.mem,.cd Xi s.2⟩)]⟩) (fun x=>(x.1.2.2.2.2.2.2.2.2.2.2.2.2.2.2.1,x.2.2.2.1))
  (fun x s=>by simp only[B,mC,mB,mS,mO,mN];kernel_rfl)
end Xcx
namespace Xbe
def c:=Yap (Yaf Proofs.Tryz.f231) [1,1,1,1,1,1,0,1,0,0]
def sp:SP:=⟨[(0,.cs SI),(2,.loc 2 []),(4,.loc 4 [])],[(2,.mem,.cd Xb),(4,.mem,.cd Xb)]⟩
def fr:=Yja sp (fun x s=>Xbe.B x.2.1 s.1 s.2) (fun x=>(x.1.1,x.2.2.1)) fun x (oo0:((Bool×Xa)⊕Xa)) _ kk0=>sel oo0 (fun bb0=>kk0 (.rt) ⟨[(2,.loc 2 []),(3,.cs .bool bb0.1)],[(2,some ⟨.mem,.cd Xb bb0.2⟩)]⟩) (fun cc0=>kk0 (.ex 0) ⟨[(2,.loc 2 []),(4,.loc 4 [])],[(2,some ⟨.mem,.cd Xb x.2.1⟩),(4,some ⟨.mem,.cd Xb cc0⟩)]⟩)
theorem ok:Ya7 PR 92 1 (.loop c) fr:=
 Yt2 Xe Xf h0 (.R (.one (.R (.R (.R (.L (.R (.one (.fr 1))))))))) (G:=Xbw.G) Xbw.Gok (L:=mkL [(1,Xcx.fr)]) (l:=[(1,.loop Xcx.c)]) ⟨Lam.cons Xcx.ok,trivial⟩ [(0,([2,4],[2,4]))] ([2,3],[2]) (fun x s=>((s.1,x.1.2),(x.2.1,s.2,x.2.2.2)))
  (fun x s=>by simp only[B,mC,mB,mS,mO,mN];kernel_rfl)
end Xbe
namespace Xbw
def pts:List PT:=[.cs SI]
def FS:FS:=Ybk [.sh] pts (fun x=>Xbw x.1) fun t=>⟨[.cd Xb t.1,.cs .bool t.2],[]⟩
theorem ok:Yb2 PR 231 FS:=
 Yxn Xe Xf Proofs.Tryz.f231 h0 (.R (.R (.R (.R (.R (.R (.L (.R (.one (.fr 0)))))))))) (G:=G) Gok (L:=mkL [(1,Xcx.fr),(0,Xbe.fr)]) (l:=[(0,.loop Xbe.c)]) ⟨Lam.skip rfl (Lam.cons Xbe.ok),trivial⟩
  (fun x=>by simp only[Xbw,mC,mB,mS,mO,mN];kernel_rfl)
end Xbw
def Xki (v:List Xg):Option Int:=
 some (v.length:Int)
namespace Xki
def pts:List PT:=[.cs (.sl Xi)]
def FS:FS:=Ybk [.sh] pts (fun x=>Xki x.1) fun t=>⟨[.cs I64 t],[]⟩
theorem ok:Yb2 PR 226 FS:=
 Yxn Xe Xf Proofs.Tryz.f226 h0 .no (G:=(mkG [])) .nil (L:=mkL []) (l:=[]) hT
  (fun x=>by simp only[Xki,mC,mB,mS,mO,mN];kernel_rfl)
end Xki
def Xc0.B (v3:List Xg) (v4:Int) (v5:Int) (v8:Int) (v11:Xg) (v9:Int) (v10:List Int):Option ((Int×List Int)⊕(List Int)):=
 cond (decide (v9<v8)) (cond (inB v9 v11.1.length) ((some (v10++([w64 (((v11.1.getD v9.toNat 0).toNat:Int))]))).bind fun v12=>cond (decide (v12.length≤2147483648)) (some (.inl (w64 (v9+1),v12))) none) none) (some (.inr v10))
def Xc0 (v3:List Xg) (v4:Int) (v5:Int) (v8:Int) (v11:Xg):(Int×List Int)→Option (List Int):=
 Y9 fun s=>Xc0.B v3 v4 v5 v8 v11 s.1 s.2
def Xec.B (v3:List Xg) (v4:Int) (v5:Int) (v6:List Int):Option ((Int×List Int)⊕(List Int)):=
 cond (decide (v5<v4)) (cond (inB v5 v3.length) ((some (v6++([(v3.getD v5.toNat Xm).2.1,((v3.getD v5.toNat Xm).1.length:Int)]))).bind fun v7=>cond (decide (v7.length≤2147483648)) ((Xc0 v3 v4 v5 ((v3.getD v5.toNat Xm).1.length:Int) (v3.getD v5.toNat Xm) (0,v7)).bind fun v13=>some (.inl (w64 (v5+1),v13))) none) none) (some (.inr v6))
def Xec (v3:List Xg) (v4:Int):(Int×List Int)→Option (List Int):=
 Y9 fun s=>Xec.B v3 v4 s.1 s.2
def Xa9 (v:Xa):Option (List Int):=
 cond (decide ((([v.1,v.2.1,v.2.2.1])++v.2.2.2.1).length≤2147483648)) (cond (v.1 != 2) (some (([v.1,v.2.1,v.2.2.1])++v.2.2.2.1)) ((Xki v.2.2.2.2.1).bind fun v2=>cond (decide (((([v.1,v.2.1,v.2.2.1])++v.2.2.2.1)++([v2])).length≤2147483648)) ((Xec v.2.2.2.2.1 (v.2.2.2.2.1.length:Int) (0,(([v.1,v.2.1,v.2.2.1])++v.2.2.2.1)++([v2]))).bind fun v14=>some v14) none)) none
namespace Xa9
def G:Gam:=mkG [(226,Xki.FS)]
theorem Gok:GOk PR G:=.cons Xki.ok .nil
end Xa9
namespace Xc0
def c:=Yap (Yaf Proofs.Tryz.f188) [1,1,1,1,0,1,0,0,1,1,0,0,1,1,1,0,0]
def sp:SP:=⟨[(3,.seg 3 []),(5,.loc 5 []),(28,.cs (.sl Xi)),(29,.cs I64),(30,.cs I64),(44,.cs I64),(45,.cs I64)],[(3,.reg,.cd SI),(5,.mem,.cd Xi)]⟩
def fr:=Yja sp (fun x s=>Xc0.B x.1.2.2.1 x.1.2.2.2.1 x.1.2.2.2.2.1 x.1.2.2.2.2.2.1 x.2.2.1 s.1 s.2) (fun x=>(x.1.2.2.2.2.2.2.1,x.2.1)) fun x (bb0:List Int) _ kk0=>kk0 (.ex 2) ⟨[(3,.seg 3 []),(28,.cs (.sl Xi) x.1.2.2.1),(29,.cs I64 x.1.2.2.2.1),(30,.cs I64 x.1.2.2.2.2.1)],[sr 3 (.cd SI bb0)]⟩
theorem ok:Ya7 PR 59 1 (.loop c) fr:=
 Yxo Xe Xf ⟨[1],[],[],0⟩ (G:=Xa9.G) Xa9.Gok [(2,([3,28,29,30],[3]))] (fun x s=>((x.1.1,x.1.2.1,x.1.2.2.1,x.1.2.2.2.1,x.1.2.2.2.2.1,x.1.2.2.2.2.2.1,s.1,x.1.2.2.2.2.2.2.2),(s.2,x.2.2)))
  (fun x s=>by simp only[B,mC,mB,mS,mO,mN];kernel_rfl)
end Xc0
namespace Xec
def c:=Yap (Yaf Proofs.Tryz.f188) [1,1,1,1,0,1,0,0]
def sp:SP:=⟨[(3,.seg 3 []),(28,.cs (.sl Xi)),(29,.cs I64),(30,.cs I64)],[(3,.reg,.cd SI)]⟩
def fr:=Yja sp (fun x s=>Xec.B x.1.2.1 x.1.2.2.1 s.1 s.2) (fun x=>(x.1.2.2.2.1,x.2.1)) fun x (bb0:List Int) _ kk0=>kk0 (.ex 0) ⟨[(3,.seg 3 [])],[sr 3 (.cd SI bb0)]⟩
theorem ok:Ya7 PR 59 1 (.loop c) fr:=
 Yxs Xe Xf ⟨[1],[],[],0⟩ (.R (.R (.L (.one (.R (.R (.R (.one (.fr 1))))))))) (G:=Xa9.G) Xa9.Gok (L:=mkL [(1,Xc0.fr)]) (l:=[(1,.loop Xc0.c)]) ⟨Lam.cons Xc0.ok,trivial⟩ [(0,([3],[3]))] (fun x s=>((x.1.1,x.1.2.1,x.1.2.2.1,s.1,x.1.2.2.2.2),(s.2,x.2.2)))
  (fun x s=>by simp only[B,mC,mB,mS,mO,mN];kernel_rfl)
end Xec
namespace Xa9
def pts:List PT:=[.cs Xb]
def FS:FS:=Ybk [.sh] pts (fun x=>Xa9 x.1) fun t=>⟨[.cd SI t],[]⟩
theorem ok:Yb2 PR 188 FS:=
 Yxn Xe Xf Proofs.Tryz.f188 ⟨[1],[],[],0⟩ (.R (.R (.R (.R (.L (.R (.one (.fr 0)))))))) (G:=G) Gok (L:=mkL [(1,Xc0.fr),(0,Xec.fr)]) (l:=[(0,.loop Xec.c)]) ⟨Lam.skip rfl (Lam.cons Xec.ok),trivial⟩
  (fun x=>by simp only[Xa9,mC,mB,mS,mO,mN];kernel_rfl)
end Xa9
def Xdi.B (v:List Int) (v2:List Int) (v3:Int) (v4:Int):Option (Int⊕((Bool⊕Unit))):=
 cond (decide (v4<v3)) (cond (inB v4 v.length) (cond (inB v4 v2.length) (cond ((v.getD v4.toNat 0) != (v2.getD v4.toNat 0)) (some (.inr (.inl false))) (some (.inl (w64 (v4+1))))) none) none) (some (.inr (.inr ())))
def Xdi (v:List Int) (v2:List Int) (v3:Int):Int→Option ((Bool⊕Unit)):=
 Y9 fun s=>Xdi.B v v2 v3 s
def Xcf (v:List Int) (v2:List Int):Option Bool:=
 cond ((v.length:Int) != (v2.length:Int)) (some false) ((Xdi v v2 (v.length:Int) 0).bind fun v5=>sel v5 (fun v6=>some v6) (fun v7=>some true))
namespace Xdi
def c:=Yap (Yaf Proofs.Tryz.f187) [1,1,0,1,0,0]
def sp:SP:=⟨[(0,.cs SI),(1,.cs SI),(12,.cs I64),(13,.cs I64)],[]⟩
def fr:=Yja sp (fun x s=>Xdi.B x.1.1 x.1.2.1 x.1.2.2.1 s) (fun x=>x.1.2.2.2.1) fun x (oo0:(Bool⊕Unit)) _ kk0=>sel oo0 (fun bb0=>kk0 (.rt) ⟨[(4,.cs .bool bb0)],[]⟩) (fun cc0=>kk0 (.ex 0) ⟨[],[]⟩)
theorem ok:Ya7 PR 26 2 (.loop c) fr:=
 Yt2 Xe Xf h0 .no (G:=(mkG [])) .nil (L:=mkL []) (l:=[]) hT [(0,([],[]))] ([4],[]) (fun x s=>((x.1.1,x.1.2.1,x.1.2.2.1,s,x.1.2.2.2.2),x.2))
  (fun x s=>by simp only[B,mC,mB,mS,mO,mN];kernel_rfl)
end Xdi
namespace Xcf
def pts:List PT:=[.cs SI,.cs SI]
def FS:FS:=Ybk [.sh,.sh] pts (fun x=>Xcf x.1 x.2.1) fun t=>⟨[.cs .bool t],[]⟩
theorem ok:Yb2 PR 187 FS:=
 Yxn Xe Xf Proofs.Tryz.f187 h0 (.R (.R (.L (.R (.one (.fr 0)))))) (G:=(mkG [])) .nil (L:=mkL [(0,Xdi.fr)]) (l:=[(0,.loop Xdi.c)]) ⟨Lam.cons Xdi.ok,trivial⟩
  (fun x=>by simp only[Xcf,mC,mB,mS,mO,mN];kernel_rfl)
end Xcf
def Xjb (v:List Int):Option (Xa×Int):=
 (Xd2 v).bind fun v2=>cond (cond (v2 != 0) true ((v.length:Int) == 0)) (some ((0,0,0,[],[],()),v2)) ((Xbw v).bind fun v3=>cond (!v3.2) (some ((0,0,0,[],[],()),5)) ((Xem (v3.1.1,v3.1.2.1,v3.1.2.2.1,v3.1.2.2.2.1,v3.1.2.2.2.2.1,v3.1.2.2.2.2.2)).bind fun v4=>cond (v4 != 0) (some ((0,0,0,[],[],()),5)) ((Xa9 (v3.1.1,v3.1.2.1,v3.1.2.2.1,v3.1.2.2.2.1,v3.1.2.2.2.2.1,v3.1.2.2.2.2.2)).bind fun v5=>(Xcf v5 v).bind fun v6=>cond (!v6) (some ((0,0,0,[],[],()),5)) (some ((v3.1.1,v3.1.2.1,v3.1.2.2.1,v3.1.2.2.2.1,v3.1.2.2.2.2.1,v3.1.2.2.2.2.2),0)))))
namespace Xjb
def G:Gam:=mkG [(178,Xd2.FS),(231,Xbw.FS),(232,Xem.FS),(188,Xa9.FS),(187,Xcf.FS)]
def pts:List PT:=[.cs SI]
def FS:FS:=Ybk [.sh] pts (fun x=>Xjb x.1) fun t=>⟨[.cd Xb t.1,.cs I64 t.2],[]⟩
theorem ok:Yb2 PR 200 FS:=
 Yxn Xe Xf Proofs.Tryz.f200 h0 .no (G:=G) (show GOk PR G from .cons Xd2.ok (.cons Xbw.ok (.cons Xem.ok (.cons Xa9.ok (.cons Xcf.ok .nil))))) (L:=mkL []) (l:=[]) hT
  (fun x=>by simp only[Xjb,mC,mB,mS,mO,mN];kernel_rfl)
end Xjb
def Xko (v:Int):Option Bool:=
 some (decide (v>255))
namespace Xko
def pts:List PT:=[.cs I64]
def FS:FS:=Ybk [.sh] pts (fun x=>Xko x.1) fun t=>⟨[.cs .bool t],[]⟩
theorem ok:Yb2 PR 202 FS:=
 Yxn Xe Xf Proofs.Tryz.f202 h0 .no (G:=(mkG [])) .nil (L:=mkL []) (l:=[]) hT
  (fun x=>by simp only[Xko,mC,mB,mS,mO,mN];kernel_rfl)
end Xko
def Xch.B (v:List Int) (v2:Unit) (v3:Int) (v4:Int):Option (Int⊕((Int⊕Unit))):=
 cond (decide (v4<v3)) (cond (inB v4 v.length) ((Xko (v.getD v4.toNat 0)).bind fun v5=>cond v5 (some (.inr (.inl v4))) (some (.inl (w64 (v4+1))))) none) (some (.inr (.inr ())))
def Xch (v:List Int) (v2:Unit) (v3:Int):Int→Option ((Int⊕Unit)):=
 Y9 fun s=>Xch.B v v2 v3 s
def Xfx (v:List Int) (v2:Unit):Option Int:=
 (Xch v v2 (v.length:Int) 0).bind fun v6=>sel v6 (fun v7=>some v7) (fun v8=>some (-1))
namespace Xfx
def G:Gam:=mkG [(202,Xko.FS)]
theorem Gok:GOk PR G:=.cons Xko.ok .nil
end Xfx
namespace Xch
def c:=Yap (Yaf Proofs.Tryz.f233) [1,0,1,0,0]
def sp:SP:=⟨[(0,.cs SI),(1,.clo 202 (.cs .unit)),(7,.cs I64),(8,.cs I64)],[]⟩
def fr:=Yja sp (fun x s=>Xch.B x.1.1 x.1.2.1 x.1.2.2.1 s) (fun x=>x.1.2.2.2.1) fun x (oo0:(Int⊕Unit)) _ kk0=>sel oo0 (fun bb0=>kk0 (.rt) ⟨[(4,.cs I64 bb0)],[]⟩) (fun cc0=>kk0 (.ex 0) ⟨[],[]⟩)
theorem ok:Ya7 PR 19 2 (.loop c) fr:=
 Yt2 Xe Xf h0 .no (G:=Xfx.G) Xfx.Gok (L:=mkL []) (l:=[]) hT [(0,([],[]))] ([4],[]) (fun x s=>((x.1.1,x.1.2.1,x.1.2.2.1,s,x.1.2.2.2.2),x.2))
  (fun x s=>by simp only[B,mC,mB,mS,mO,mN];kernel_rfl)
end Xch
namespace Xfx
def pts:List PT:=[.cs SI,.clo 202 (.cs .unit)]
def FS:FS:=Ybk [.sh,.sh] pts (fun x=>Xfx x.1 x.2.1) fun t=>⟨[.cs I64 t],[]⟩
theorem ok:Yb2 PR 233 FS:=
 Yxn Xe Xf Proofs.Tryz.f233 h0 (.R (.L (.R (.one (.fr 0))))) (G:=G) Gok (L:=mkL [(0,Xch.fr)]) (l:=[(0,.loop Xch.c)]) ⟨Lam.cons Xch.ok,trivial⟩
  (fun x=>by simp only[Xfx,mC,mB,mS,mO,mN];kernel_rfl)
end Xfx
def Xi4 (v:List Int) (v2:Unit):Option Bool:=
 (Xfx v v2).bind fun v3=>some (decide (v3≥0))
namespace Xi4
def G:Gam:=mkG [(233,Xfx.FS)]
def pts:List PT:=[.cs SI,.clo 202 (.cs .unit)]
def FS:FS:=Ybk [.sh,.sh] pts (fun x=>Xi4 x.1 x.2.1) fun t=>⟨[.cs .bool t],[]⟩
theorem ok:Yb2 PR 201 FS:=
 Yxn Xe Xf Proofs.Tryz.f201 h0 .no (G:=G) (show GOk PR G from .cons Xfx.ok .nil) (L:=mkL []) (l:=[]) hT
  (fun x=>by simp only[Xi4,mC,mB,mS,mO,mN];kernel_rfl)
end Xi4
def Xcp.B (v:Xd) (v4:Fs_) (v2:Int) (v3:Int) (v5:Fs_):Option ((Int×Int×Fs_)⊕(((Int×Fs_)⊕(Int×Fs_)))):=
 cond (decide (v3<10)) ((Xck v (w64 ((17:Int)+v3))).bind fun v6=>(Xjb v6).bind fun v7=>cond (v7.2 != 0) (some (.inr (.inl (v7.2,([],[],()))))) ((some (v5.1++([(v7.1.1,v7.1.2.1,v7.1.2.2.1,v7.1.2.2.2.1,v7.1.2.2.2.2.1,v7.1.2.2.2.2.2)]))).bind fun v8=>cond (decide (v8.length≤2147483648)) (cond (decide ((v6.length:Int)>0)) (some (.inl (w64 (v3+1),w64 (v3+1),(v8,v5.2)))) (some (.inl (v2,w64 (v3+1),(v8,v5.2))))) none)) (some (.inr (.inr (v2,v5))))
def Xcp (v:Xd) (v4:Fs_):(Int×Int×Fs_)→Option (((Int×Fs_)⊕(Int×Fs_))):=
 Y9 fun s=>Xcp.B v v4 s.1 s.2.1 s.2.2
def Xcn.B (v:Xd) (v14:Int) (v13:List Int) (v21:Int) (v17:List Int) (v22:Int) (v23:List Int) (v19:Bool) (v24:List Int) (v20:Int) (v15:Fs_) (v25:Int) (v26:Fs_):Option ((Int×Fs_)⊕Fs_):=
 cond (decide (v25<v20)) (cond (inB v25 v24.length) (cond (inB v14 v26.2.1.length) ((some ((v26.2.1.getD v14.toNat [])++([IntKind.u8.wrap (v24.getD v25.toNat 0)]))).bind fun v27=>cond (decide (v27.length≤2147483648)) (cond (inB v14 v26.2.1.length) (cond (Nat.beq v14.toNat v14.toNat&&true) (some (.inl (w64 (v25+1),(v26.1,v26.2.1.set v14.toNat v27,v26.2.2)))) none) none) none) none) none) (some (.inr v26))
def Xcn (v:Xd) (v14:Int) (v13:List Int) (v21:Int) (v17:List Int) (v22:Int) (v23:List Int) (v19:Bool) (v24:List Int) (v20:Int) (v15:Fs_):(Int×Fs_)→Option Fs_:=
 Y9 fun s=>Xcn.B v v14 v13 v21 v17 v22 v23 v19 v24 v20 v15 s.1 s.2
def Xfh.B (v:Xd) (v13:List Int) (v15:Fs_) (v14:Int) (v16:Fs_):Option ((Int×Fs_)⊕(((Int×Fs_)⊕Fs_))):=
 cond (decide (v14<20)) (cond (inB v14 20) ((Xck v (w64 ((27:Int)+v14))).bind fun v17=>(Xbs v17).bind fun v18=>cond (decide (v18<(v13.getD v14.toNat 0))) (some (.inr (.inl (5,([],[],()))))) (cond (decide ((0:Int)≤(v13.getD v14.toNat 0))&&decide ((v13.getD v14.toNat 0)≤(v17.length:Int))) ((Xi4 ((v17.take ((v13.getD v14.toNat 0).toNat)).drop 0) ()).bind fun v19=>cond v19 (some (.inr (.inl (5,([],[],()))))) (cond (decide ((0:Int)≤(v13.getD v14.toNat 0))&&decide ((v13.getD v14.toNat 0)≤(v17.length:Int))) ((some (((v17.take ((v13.getD v14.toNat 0).toNat)).drop 0).length:Int)).bind fun v20=>(Xcn v v14 v13 v14 v17 (v13.getD v14.toNat 0) ((v17.take ((v13.getD v14.toNat 0).toNat)).drop 0) v19 ((v17.take ((v13.getD v14.toNat 0).toNat)).drop 0) v20 v15 (0,v16)).bind fun v28=>some (.inl (w64 (v14+1),v28))) none)) none)) none) (some (.inr (.inr v16)))
def Xfh (v:Xd) (v13:List Int) (v15:Fs_):(Int×Fs_)→Option (((Int×Fs_)⊕Fs_)):=
 Y9 fun s=>Xfh.B v v13 v15 s.1 s.2
def Xa7 (v:Xd):Option (Fs_×Int):=
 cond (decide ((0:Int)≤(20:Int))&&(decide ((20:Int)≤(20:Int))&&decide ((20:Int)≤2147483648))) ((Xcp v ([],[],()) (0,0,([],List.replicate (20:Int).toNat ([]:List Int),()))).bind fun v9=>sel v9 (fun v10=>some ((v10.2.1,v10.2.2.1,v10.2.2.2),v10.1)) (fun v11=>cond (decide ((0:Int)≤v11.1)&&decide (v11.1≤(v11.2.1.length:Int))) ((Xbd ((v11.2.1.drop 0).take (v11.1.toNat-0),v11.2.2.1,v11.2.2.2)).bind fun v12=>cond (v12 != 0) (some (([],[],()),v12)) ((Xf1 ((v11.2.1.drop 0).take (v11.1.toNat-0))).bind fun v13=>(Xfh v v13 ([],[],()) (0,((v11.2.1.drop 0).take (v11.1.toNat-0),v11.2.2))).bind fun v29=>sel v29 (fun v30=>some ((v30.2.1,v30.2.2.1,v30.2.2.2),v30.1)) (fun v31=>(Xc7 (v31.1,v31.2.1,v31.2.2)).bind fun v32=>some ((v31.1,v31.2.1,v31.2.2),v32)))) none)) none
namespace Xa7
def G:Gam:=mkG [(110,Xck.FS),(200,Xjb.FS),(112,Xbd.FS),(139,Xf1.FS),(138,Xbs.FS),(201,Xi4.FS),(54,Xc7.FS)]
theorem Gok:GOk PR G:=.cons Xck.ok (.cons Xjb.ok (.cons Xbd.ok (.cons Xf1.ok (.cons Xbs.ok (.cons Xi4.ok (.cons Xc7.ok .nil))))))
end Xa7
namespace Xcp
def c:=Yap (Yaf Proofs.Tryz.f136) [1,1,1,0,1,0,0]
def sp:SP:=⟨[(1,.pt Xh),(2,.loc 2 []),(4,.loc 4 []),(5,.cs I64),(18,.cs I64)],[(2,.mem,.cd Xo),(4,.mem,.cd Xo)]⟩
def fr:=Yja sp (fun x s=>Xcp.B x.1.1 x.2.1 s.1 s.2.1 s.2.2) (fun x=>(x.1.2.2.2.1,x.1.2.2.2.2.1,x.2.2.1)) fun x (oo0:((Int×Fs_)⊕(Int×Fs_))) _ kk0=>sel oo0 (fun bb0=>kk0 (.rt) ⟨[(2,.loc 2 []),(3,.cs I64 bb0.1)],[(2,some ⟨.mem,.cd Xo bb0.2⟩)]⟩) (fun cc0=>kk0 (.ex 0) ⟨[(1,.pt Xh x.1.1),(2,.loc 2 []),(4,.loc 4 []),(5,.cs I64 cc0.1)],[(2,some ⟨.mem,.cd Xo x.2.1⟩),(4,some ⟨.mem,.cd Xo cc0.2⟩)]⟩)
theorem ok:Ya7 PR 103 1 (.loop c) fr:=
 Yt2 Xe Xf ⟨[1],[],[],0⟩ .no (G:=Xa7.G) Xa7.Gok (L:=mkL []) (l:=[]) hT [(0,([1,2,4,5],[2,4]))] ([2,3],[2]) (fun x s=>((x.1.1,x.1.2.1,x.1.2.2.1,s.1,s.2.1,x.1.2.2.2.2.2),(x.2.1,s.2.2,x.2.2.2)))
  (fun x s=>by simp only[B,mC,mB,mS,mO,mN];kernel_rfl)
end Xcp
namespace Xcn
def c:=Yap (Yaf Proofs.Tryz.f136) [1,1,1,1,1,1,0,1,0,0,1,1,0,0,1,1,1,1,0,0]
def sp:SP:=⟨[(1,.pt Xh),(2,.loc 2 []),(4,.loc 4 []),(11,.cs I64),(58,.cs (.arr 20 I64)),(59,.cs I64),(71,.cs SI),(72,.cs I64),(73,.cs SI),(74,.cs .bool),(79,.cs SI),(80,.cs I64),(81,.cs I64)],[(2,.mem,.cd Xo),(4,.mem,.cd Xo)]⟩
def fr:=Yja sp (fun x s=>Xcn.B x.1.1 x.1.2.2.2.1 x.1.2.2.2.2.1 x.1.2.2.2.2.2.1 x.1.2.2.2.2.2.2.1 x.1.2.2.2.2.2.2.2.1 x.1.2.2.2.2.2.2.2.2.1 x.1.2.2.2.2.2.2.2.2.2.1 x.1.2.2.2.2.2.2.2.2.2.2.1 x.1.2.2.2.2.2.2.2.2.2.2.2.1 x.2.1 s.1 s.2) (fun x=>(x.1.2.2.2.2.2.2.2.2.2.2.2.2.1,x.2.2.1)) fun x (bb0:Fs_) _ kk0=>kk0 (.ex 4) ⟨[(1,.pt Xh x.1.1),(2,.loc 2 []),(4,.loc 4 []),(58,.cs (.arr 20 I64) x.1.2.2.2.2.1),(59,.cs I64 x.1.2.2.2.2.2.1),(71,.cs SI x.1.2.2.2.2.2.2.1),(72,.cs I64 x.1.2.2.2.2.2.2.2.1),(73,.cs SI x.1.2.2.2.2.2.2.2.2.1),(74,.cs .bool x.1.2.2.2.2.2.2.2.2.2.1)],[(2,some ⟨.mem,.cd Xo x.2.1⟩),(4,some ⟨.mem,.cd Xo bb0⟩)]⟩
theorem ok:Ya7 PR 103 1 (.loop c) fr:=
 Yxo Xe Xf ⟨[1],[],[],0⟩ (G:=Xa7.G) Xa7.Gok [(4,([1,2,4,58,59,71,72,73,74],[2,4]))] (fun x s=>((x.1.1,x.1.2.1,x.1.2.2.1,x.1.2.2.2.1,x.1.2.2.2.2.1,x.1.2.2.2.2.2.1,x.1.2.2.2.2.2.2.1,x.1.2.2.2.2.2.2.2.1,x.1.2.2.2.2.2.2.2.2.1,x.1.2.2.2.2.2.2.2.2.2.1,x.1.2.2.2.2.2.2.2.2.2.2.1,x.1.2.2.2.2.2.2.2.2.2.2.2.1,s.1,x.1.2.2.2.2.2.2.2.2.2.2.2.2.2),(x.2.1,s.2,x.2.2.2)))
  (fun x s=>by simp only[B,mC,mB,mS,mO,mN];kernel_rfl)
end Xcn
namespace Xfh
def c:=Yap (Yaf Proofs.Tryz.f136) [1,1,1,1,1,1,0,1,0,0]
def sp:SP:=⟨[(1,.pt Xh),(2,.loc 2 []),(4,.loc 4 []),(58,.cs (.arr 20 I64)),(59,.cs I64)],[(2,.mem,.cd Xo),(4,.mem,.cd Xo)]⟩
def fr:=Yja sp (fun x s=>Xfh.B x.1.1 x.1.2.2.2.1 x.2.1 s.1 s.2) (fun x=>(x.1.2.2.2.2.1,x.2.2.1)) fun x (oo0:((Int×Fs_)⊕Fs_)) _ kk0=>sel oo0 (fun bb0=>kk0 (.rt) ⟨[(2,.loc 2 []),(3,.cs I64 bb0.1)],[(2,some ⟨.mem,.cd Xo bb0.2⟩)]⟩) (fun cc0=>kk0 (.ex 2) ⟨[(2,.loc 2 []),(4,.loc 4 [])],[(2,some ⟨.mem,.cd Xo x.2.1⟩),(4,some ⟨.mem,.cd Xo cc0⟩)]⟩)
theorem ok:Ya7 PR 103 1 (.loop c) fr:=
 Yt2 Xe Xf ⟨[1],[],[],0⟩ (.R (.R (.L (.one (.R (.R (.R (.R (.one (.fr 2)))))))))) (G:=Xa7.G) Xa7.Gok (L:=mkL [(2,Xcn.fr)]) (l:=[(2,.loop Xcn.c)]) ⟨Lam.cons Xcn.ok,trivial⟩ [(2,([2,4],[2,4]))] ([2,3],[2]) (fun x s=>((x.1.1,x.1.2.1,x.1.2.2.1,x.1.2.2.2.1,s.1,x.1.2.2.2.2.2),(x.2.1,s.2,x.2.2.2)))
  (fun x s=>by simp only[B,mC,mB,mS,mO,mN];kernel_rfl)
end Xfh
namespace Xa7
def pts:List PT:=[.cs Xh]
def FS:FS:=Ybk [.sh] pts (fun x=>Xa7 x.1) fun t=>⟨[.cd Xo t.1,.cs I64 t.2],[]⟩
theorem ok:Yb2 PR 136 FS:=
 Yxn Xe Xf Proofs.Tryz.f136 ⟨[1],[],[],0⟩ (.R (.R (.R (.two (.R (.one (.fr 0))) (.R (.R (.L (.R (.one (.fr 1)))))))))) (G:=G) Gok (L:=mkL [(0,Xcp.fr),(2,Xcn.fr),(1,Xfh.fr)]) (l:=[(0,.loop Xcp.c),(1,.loop Xfh.c)]) ⟨Lam.cons Xcp.ok,Lam.skip rfl (Lam.skip rfl (Lam.cons Xfh.ok)),trivial⟩
  (fun x=>by simp only[Xa7,mC,mB,mS,mO,mN];kernel_rfl)
end Xa7
def Xd4.B (v:List Xg) (v2:List Xg) (v3:Int) (v4:Int):Option (Int⊕((Bool⊕Unit))):=
 cond (decide (v4<v3)) (cond (inB v4 v.length) (cond (inB v4 v2.length) ((some (!(((v.getD v4.toNat Xm).1 == (v2.getD v4.toNat Xm).1)&&(((v.getD v4.toNat Xm).2.1 == (v2.getD v4.toNat Xm).2.1)&&true)))).bind fun v5=>cond v5 (some (.inr (.inl false))) (some (.inl (w64 (v4+1))))) none) none) (some (.inr (.inr ())))
def Xd4 (v:List Xg) (v2:List Xg) (v3:Int):Int→Option ((Bool⊕Unit)):=
 Y9 fun s=>Xd4.B v v2 v3 s
def Xit (v:List Xg) (v2:List Xg):Option Bool:=
 cond ((v.length:Int) != (v2.length:Int)) (some false) ((Xd4 v v2 (v.length:Int) 0).bind fun v6=>sel v6 (fun v7=>some v7) (fun v8=>some true))
namespace Xd4
def c:=Yap (Yaf Proofs.Tryz.f234) [1,1,0,1,0,0]
def sp:SP:=⟨[(0,.cs (.sl Xi)),(1,.cs (.sl Xi)),(12,.cs I64),(13,.cs I64)],[]⟩
def fr:=Yja sp (fun x s=>Xd4.B x.1.1 x.1.2.1 x.1.2.2.1 s) (fun x=>x.1.2.2.2.1) fun x (oo0:(Bool⊕Unit)) _ kk0=>sel oo0 (fun bb0=>kk0 (.rt) ⟨[(4,.cs .bool bb0)],[]⟩) (fun cc0=>kk0 (.ex 0) ⟨[],[]⟩)
theorem ok:Ya7 PR 26 2 (.loop c) fr:=
 Yt2 Xe Xf h0 .no (G:=(mkG [])) .nil (L:=mkL []) (l:=[]) hT [(0,([],[]))] ([4],[]) (fun x s=>((x.1.1,x.1.2.1,x.1.2.2.1,s,x.1.2.2.2.2),x.2))
  (fun x s=>by simp only[B,mC,mB,mS,mO,mN];kernel_rfl)
end Xd4
namespace Xit
def pts:List PT:=[.cs (.sl Xi),.cs (.sl Xi)]
def FS:FS:=Ybk [.sh,.sh] pts (fun x=>Xit x.1 x.2.1) fun t=>⟨[.cs .bool t],[]⟩
theorem ok:Yb2 PR 234 FS:=
 Yxn Xe Xf Proofs.Tryz.f234 h0 (.R (.R (.L (.R (.one (.fr 0)))))) (G:=(mkG [])) .nil (L:=mkL [(0,Xd4.fr)]) (l:=[(0,.loop Xd4.c)]) ⟨Lam.cons Xd4.ok,trivial⟩
  (fun x=>by simp only[Xit,mC,mB,mS,mO,mN];kernel_rfl)
end Xit
def Xip (v:Xa) (v2:Xa):Option Bool:=
 (some (cond (cond (v.1 == v2.1) (v.2.1 == v2.2.1) false) (v.2.2.1 == v2.2.2.1) false)).bind fun v3=>cond v3 ((Xcf v.2.2.2.1 v2.2.2.2.1).bind fun v4=>cond v4 ((Xit v.2.2.2.2.1 v2.2.2.2.2.1).bind fun v5=>some v5) (some false)) (some false)
namespace Xip
def G:Gam:=mkG [(187,Xcf.FS),(234,Xit.FS)]
def pts:List PT:=[.cs Xb,.cs Xb]
def FS:FS:=Ybk [.sh,.sh] pts (fun x=>Xip x.1 x.2.1) fun t=>⟨[.cs .bool t],[]⟩
theorem ok:Yb2 PR 208 FS:=
 Yxn Xe Xf Proofs.Tryz.f208 ⟨[2,3],[],[],0⟩ .no (G:=G) (show GOk PR G from .cons Xcf.ok (.cons Xit.ok .nil)) (L:=mkL []) (l:=[]) hT
  (fun x=>by simp only[Xip,mC,mB,mS,mO,mN];kernel_rfl)
end Xip
def Xdq.B (v2:List Xa) (v3:Unit) (v:List Xa) (v4:Int) (v5:Int):Option (Int⊕((Bool⊕Unit))):=
 cond (decide (v5<v4)) (cond (inB v5 v.length) (cond (inB v5 v2.length) ((Xip (v.getD v5.toNat Xc) (v2.getD v5.toNat Xc)).bind fun v6=>cond (!v6) (some (.inr (.inl false))) (some (.inl (w64 (v5+1))))) none) none) (some (.inr (.inr ())))
def Xdq (v2:List Xa) (v3:Unit) (v:List Xa) (v4:Int):Int→Option ((Bool⊕Unit)):=
 Y9 fun s=>Xdq.B v2 v3 v v4 s
def Xd7 (v:List Xa) (v2:List Xa) (v3:Unit):Option Bool:=
 cond ((v.length:Int) != (v2.length:Int)) (some false) ((Xdq v2 v3 v (v.length:Int) 0).bind fun v7=>sel v7 (fun v8=>some v8) (fun v9=>some true))
namespace Xd7
def G:Gam:=mkG [(208,Xip.FS)]
theorem Gok:GOk PR G:=.cons Xip.ok .nil
end Xd7
namespace Xdq
def c:=Yap (Yaf Proofs.Tryz.f207) [1,1,0,1,0,0]
def sp:SP:=⟨[(1,.cs (.sl Xb)),(2,.clo 208 (.cs .unit)),(15,.cs (.sl Xb)),(16,.cs I64),(17,.cs I64)],[]⟩
def fr:=Yja sp (fun x s=>Xdq.B x.1.1 x.1.2.1 x.1.2.2.1 x.1.2.2.2.1 s) (fun x=>x.1.2.2.2.2.1) fun x (oo0:(Bool⊕Unit)) _ kk0=>sel oo0 (fun bb0=>kk0 (.rt) ⟨[(6,.cs .bool bb0)],[]⟩) (fun cc0=>kk0 (.ex 0) ⟨[],[]⟩)
theorem ok:Ya7 PR 32 3 (.loop c) fr:=
 Yt2 Xe Xf h0 .no (G:=Xd7.G) Xd7.Gok (L:=mkL []) (l:=[]) hT [(0,([],[]))] ([6],[]) (fun x s=>((x.1.1,x.1.2.1,x.1.2.2.1,x.1.2.2.2.1,s,x.1.2.2.2.2.2),x.2))
  (fun x s=>by simp only[B,mC,mB,mS,mO,mN];kernel_rfl)
end Xdq
namespace Xd7
def pts:List PT:=[.cs (.sl Xb),.cs (.sl Xb),.clo 208 (.cs .unit)]
def FS:FS:=Ybk [.sh,.sh,.sh] pts (fun x=>Xd7 x.1 x.2.1 x.2.2.1) fun t=>⟨[.cs .bool t],[]⟩
theorem ok:Yb2 PR 207 FS:=
 Yxn Xe Xf Proofs.Tryz.f207 h0 (.R (.R (.L (.R (.one (.fr 0)))))) (G:=G) Gok (L:=mkL [(0,Xdq.fr)]) (l:=[(0,.loop Xdq.c)]) ⟨Lam.cons Xdq.ok,trivial⟩
  (fun x=>by simp only[Xd7,mC,mB,mS,mO,mN];kernel_rfl)
end Xd7
def Xgh (v:List Int) (v2:List Int):Option Bool:=
 (some ((v.map fun n=>UInt8.ofNat n.toNat) == (v2.map fun n=>UInt8.ofNat n.toNat))).bind fun v3=>some v3
namespace Xgh
def pts:List PT:=[.cs SB,.cs SB]
def FS:FS:=Ybk [.sh,.sh] pts (fun x=>Xgh x.1 x.2.1) fun t=>⟨[.cs .bool t],[]⟩
theorem ok:Yb2 PR 149 FS:=
 Yxn Xe Xf Proofs.Tryz.f149 h0 .no (G:=(mkG [])) .nil (L:=mkL []) (l:=[]) hT
  (fun x=>by simp only[Xgh,mC,mB,mS,mO,mN];kernel_rfl)
end Xgh
def Xeb.B (v2:List (List Int)) (v3:Unit) (v:List (List Int)) (v4:Int) (v5:Int):Option (Int⊕((Bool⊕Unit))):=
 cond (decide (v5<v4)) (cond (inB v5 v.length) (cond (inB v5 v2.length) ((Xgh (v.getD v5.toNat []) (v2.getD v5.toNat [])).bind fun v6=>cond (!v6) (some (.inr (.inl false))) (some (.inl (w64 (v5+1))))) none) none) (some (.inr (.inr ())))
def Xeb (v2:List (List Int)) (v3:Unit) (v:List (List Int)) (v4:Int):Int→Option ((Bool⊕Unit)):=
 Y9 fun s=>Xeb.B v2 v3 v v4 s
def Xes (v:List (List Int)) (v2:List (List Int)) (v3:Unit):Option Bool:=
 cond ((v.length:Int) != (v2.length:Int)) (some false) ((Xeb v2 v3 v (v.length:Int) 0).bind fun v7=>sel v7 (fun v8=>some v8) (fun v9=>some true))
namespace Xes
def G:Gam:=mkG [(149,Xgh.FS)]
theorem Gok:GOk PR G:=.cons Xgh.ok .nil
end Xes
namespace Xeb
def c:=Yap (Yaf Proofs.Tryz.f209) [1,1,0,1,0,0]
def sp:SP:=⟨[(1,.cs (.sl SB)),(2,.clo 149 (.cs .unit)),(15,.cs (.sl SB)),(16,.cs I64),(17,.cs I64)],[]⟩
def fr:=Yja sp (fun x s=>Xeb.B x.1.1 x.1.2.1 x.1.2.2.1 x.1.2.2.2.1 s) (fun x=>x.1.2.2.2.2.1) fun x (oo0:(Bool⊕Unit)) _ kk0=>sel oo0 (fun bb0=>kk0 (.rt) ⟨[(6,.cs .bool bb0)],[]⟩) (fun cc0=>kk0 (.ex 0) ⟨[],[]⟩)
theorem ok:Ya7 PR 32 3 (.loop c) fr:=
 Yt2 Xe Xf h0 .no (G:=Xes.G) Xes.Gok (L:=mkL []) (l:=[]) hT [(0,([],[]))] ([6],[]) (fun x s=>((x.1.1,x.1.2.1,x.1.2.2.1,x.1.2.2.2.1,s,x.1.2.2.2.2.2),x.2))
  (fun x s=>by simp only[B,mC,mB,mS,mO,mN];kernel_rfl)
end Xeb
namespace Xes
def pts:List PT:=[.cs (.sl SB),.cs (.sl SB),.clo 149 (.cs .unit)]
def FS:FS:=Ybk [.sh,.sh,.sh] pts (fun x=>Xes x.1 x.2.1 x.2.2.1) fun t=>⟨[.cs .bool t],[]⟩
theorem ok:Yb2 PR 209 FS:=
 Yxn Xe Xf Proofs.Tryz.f209 h0 (.R (.R (.L (.R (.one (.fr 0)))))) (G:=G) Gok (L:=mkL [(0,Xeb.fr)]) (l:=[(0,.loop Xeb.c)]) ⟨Lam.cons Xeb.ok,trivial⟩
  (fun x=>by simp only[Xes,mC,mB,mS,mO,mN];kernel_rfl)
end Xes
def Xdw (v:Fs_) (v2:Fs_):Option Bool:=
 (Xd7 v.1 v2.1 ()).bind fun v3=>cond v3 ((Xes v.2.1 v2.2.1 ()).bind fun v4=>some v4) (some false)
namespace Xdw
def G:Gam:=mkG [(207,Xd7.FS),(209,Xes.FS)]
def pts:List PT:=[.cs Xo,.cs Xo]
def FS:FS:=Ybk [.sh,.sh] pts (fun x=>Xdw x.1 x.2.1) fun t=>⟨[.cs .bool t],[]⟩
theorem ok:Yb2 PR 146 FS:=
 Yxn Xe Xf Proofs.Tryz.f146 ⟨[2,3],[],[],0⟩ .no (G:=G) (show GOk PR G from .cons Xd7.ok (.cons Xes.ok .nil)) (L:=mkL []) (l:=[]) hT
  (fun x=>by simp only[Xdw,mC,mB,mS,mO,mN];kernel_rfl)
end Xdw
def Xbu.B (v:Xz) (v9:Int) (v11:List Int) (v12:Bool) (v13:Unit) (v14:List Int) (v15:Bool) (v16:Unit) (v10:Int):Option (Int⊕((Int⊕Unit))):=
 cond (decide (v10<v9)) (cond (inB v10 v11.length) ((Xcd v14 (v11.getD v10.toNat 0)).bind fun v17=>cond v17 (cond (inB (v11.getD v10.toNat 0) v.2.1.2.1.length) (cond (inB (v11.getD v10.toNat 0) v.2.2.1.2.1.length) ((Xgh (v.2.1.2.1.getD (v11.getD v10.toNat 0).toNat []) (v.2.2.1.2.1.getD (v11.getD v10.toNat 0).toNat [])).bind fun v18=>cond (!v18) (some (.inr (.inl 10))) (some (.inl (w64 (v10+1))))) none) none) (some (.inl (w64 (v10+1))))) none) (some (.inr (.inr ())))
def Xbu (v:Xz) (v9:Int) (v11:List Int) (v12:Bool) (v13:Unit) (v14:List Int) (v15:Bool) (v16:Unit):Int→Option ((Int⊕Unit)):=
 Y9 fun s=>Xbu.B v v9 v11 v12 v13 v14 v15 v16 s
def Xd1 (v:Xz):Option Int:=
 (Xdt v.1).bind fun v2=>cond (v2.2 == 0) ((Xc7 v.2.1).bind fun v3=>cond (v3 == 0) ((Xc7 v.2.2.1).bind fun v4=>cond (v4 != 0) (some v4) (cond (decide ((v.1.2.1.length:Int)>0)) (some 1) ((Xa7 v.1).bind fun v5=>cond (v5.2 != 0) (some 10) ((Xdw (v5.1.1,v5.1.2.1,v5.1.2.2) v.2.2.1).bind fun v6=>cond (!v6) (some 10) ((Xaj v.2.1.1).bind fun v7=>(Xaj v.2.2.1.1).bind fun v8=>(Xbu v (v7.1.length:Int) v7.1 v7.2 () v8.1 v8.2 () 0).bind fun v19=>sel v19 (fun v20=>some v20) (fun v21=>some 0)))))) (cond (v3 != 0) (some v3) (cond (decide ((v.1.2.1.length:Int)>0)) (some 1) ((Xa7 v.1).bind fun v22=>cond (v22.2 != 0) (some 10) ((Xdw (v22.1.1,v22.1.2.1,v22.1.2.2) v.2.2.1).bind fun v23=>cond (!v23) (some 10) ((Xaj v.2.1.1).bind fun v24=>(Xaj v.2.2.1.1).bind fun v25=>(Xbu v (v24.1.length:Int) v24.1 v24.2 () v25.1 v25.2 () 0).bind fun v26=>sel v26 (fun v27=>some v27) (fun v28=>some 0))))))) (cond (v2.2 == 0) ((Xc7 v.2.2.1).bind fun v29=>cond (v29 != 0) (some v29) (cond (decide ((v.1.2.1.length:Int)>0)) (some 1) ((Xa7 v.1).bind fun v30=>cond (v30.2 != 0) (some 10) ((Xdw (v30.1.1,v30.1.2.1,v30.1.2.2) v.2.2.1).bind fun v31=>cond (!v31) (some 10) ((Xaj v.2.1.1).bind fun v32=>(Xaj v.2.2.1.1).bind fun v33=>(Xbu v (v32.1.length:Int) v32.1 v32.2 () v33.1 v33.2 () 0).bind fun v34=>sel v34 (fun v35=>some v35) (fun v36=>some 0)))))) (cond (v2.2 != 0) (some v2.2) (cond (decide ((v.1.2.1.length:Int)>0)) (some 1) ((Xa7 v.1).bind fun v37=>cond (v37.2 != 0) (some 10) ((Xdw (v37.1.1,v37.1.2.1,v37.1.2.2) v.2.2.1).bind fun v38=>cond (!v38) (some 10) ((Xaj v.2.1.1).bind fun v39=>(Xaj v.2.2.1.1).bind fun v40=>(Xbu v (v39.1.length:Int) v39.1 v39.2 () v40.1 v40.2 () 0).bind fun v41=>sel v41 (fun v42=>some v42) (fun v43=>some 0)))))))
namespace Xd1
def G:Gam:=mkG [(53,Xdt.FS),(54,Xc7.FS),(136,Xa7.FS),(146,Xdw.FS),(147,Xaj.FS),(148,Xcd.FS),(149,Xgh.FS)]
theorem Gok:GOk PR G:=.cons Xdt.ok (.cons Xc7.ok (.cons Xa7.ok (.cons Xdw.ok (.cons Xaj.ok (.cons Xcd.ok (.cons Xgh.ok .nil))))))
end Xd1
namespace Xbu
def c:=Yap (Yaf Proofs.Tryz.f76) [1,1,1,1,1,1,1,1,1,1,0,1,0,0]
def sp:SP:=⟨[(1,.pt Xp),(8,.seg 62 [.f1]),(65,.seg 55 [.f1]),(66,.cs I64),(67,.cs I64)],[(55,.reg,.pr (.cd SI) (.pr (.cs .bool) (.cs .unit))),(62,.reg,.pr (.cd SI) (.pr (.cs .bool) (.cs .unit)))]⟩
def fr:=Yja sp (fun x s=>Xbu.B x.1.1 x.1.2.2.2.1 x.2.1.1 x.2.1.2.1 x.2.1.2.2 x.2.2.1.1 x.2.2.1.2.1 x.2.2.1.2.2 s) (fun x=>x.1.2.2.2.2.1) fun x (oo0:(Int⊕Unit)) _ kk0=>sel oo0 (fun bb0=>kk0 (.rt) ⟨[(2,.cs I64 bb0)],[]⟩) (fun cc0=>kk0 (.ex 0) ⟨[],[]⟩)
theorem ok:Ya7 PR 91 1 (.loop c) fr:=
 Yt2 Xe Xf ⟨[1],[],[],0⟩ .no (G:=Xd1.G) Xd1.Gok (L:=mkL []) (l:=[]) hT [(0,([],[]))] ([2],[]) (fun x s=>((x.1.1,x.1.2.1,x.1.2.2.1,x.1.2.2.2.1,s,x.1.2.2.2.2.2),x.2))
  (fun x s=>by simp only[B,mC,mB,mS,mO,mN];kernel_rfl)
end Xbu
namespace Xd1
def pts:List PT:=[.cs Xp]
def FS:FS:=Ybk [.sh] pts (fun x=>Xd1 x.1) fun t=>⟨[.cs I64 t],[]⟩
theorem ok:Yb2 PR 76 FS:=
 Yxn Xe Xf Proofs.Tryz.f76 ⟨[1],[],[],0⟩ (.R (.R (.R (.R (.R (.R (.R (.R (.R (.R (.L (.R (.one (.fr 0)))))))))))))) (G:=G) Gok (L:=mkL [(0,Xbu.fr)]) (l:=[(0,.loop Xbu.c)]) ⟨Lam.cons Xbu.ok,trivial⟩
  (fun x=>by simp only[Xd1,mC,mB,mS,mO,mN];kernel_rfl)
end Xd1
def Xf3.B (v:Fs_) (v2:Int) (v3:List Xj):Option ((Int×List Xj)⊕(List Xj)):=
 cond (decide (v2<10)) ((Xf7 v.1).bind fun v4=>cond (decide (v2<v4)) (cond (inB v2 v.1.length) ((Xa9 (v.1.getD v2.toNat Xc)).bind fun v5=>cond (decide ((v3++([(w64 ((17:Int)+v2),v5,())])).length≤2147483648)) (some (.inl (w64 (v2+1),v3++([(w64 ((17:Int)+v2),v5,())])))) none) none) (cond (decide ((v3++([(w64 ((17:Int)+v2),[],())])).length≤2147483648)) (some (.inl (w64 (v2+1),v3++([(w64 ((17:Int)+v2),[],())])))) none)) (some (.inr v3))
def Xf3 (v:Fs_):(Int×List Xj)→Option (List Xj):=
 Y9 fun s=>Xf3.B v s.1 s.2
def Xff (v:Fs_):Option (List Xj):=
 (Xf3 v (0,[])).bind fun v6=>some v6
namespace Xff
def G:Gam:=mkG [(184,Xf7.FS),(188,Xa9.FS)]
theorem Gok:GOk PR G:=.cons Xf7.ok (.cons Xa9.ok .nil)
end Xff
namespace Xf3
def c:=Yap (Yaf Proofs.Tryz.f116) [1,1,0,1,0,0]
def sp:SP:=⟨[(0,.pt Xo),(3,.seg 3 []),(6,.cs I64)],[(3,.reg,.cd (.sl Xl))]⟩
def fr:=Yja sp (fun x s=>Xf3.B x.1.1 s.1 s.2) (fun x=>(x.1.2.2.1,x.2.1)) fun x (bb0:List Xj) _ kk0=>kk0 (.ex 0) ⟨[(3,.seg 3 [])],[sr 3 (.cd (.sl Xl) bb0)]⟩
theorem ok:Ya7 PR 34 1 (.loop c) fr:=
 Yxo Xe Xf h0 (G:=Xff.G) Xff.Gok [(0,([3],[3]))] (fun x s=>((x.1.1,x.1.2.1,s.1,x.1.2.2.2),(s.2,x.2.2)))
  (fun x s=>by simp only[B,mC,mB,mS,mO,mN];kernel_rfl)
end Xf3
namespace Xff
def pts:List PT:=[.pt Xo]
def FS:FS:=Ybk [.sh] pts (fun x=>Xff x.1) fun t=>⟨[.cd (.sl Xl) t],[]⟩
theorem ok:Yb2 PR 116 FS:=
 Yxn Xe Xf Proofs.Tryz.f116 h0 (.R (.R (.L (.R (.one (.fr 0)))))) (G:=G) Gok (L:=mkL [(0,Xf3.fr)]) (l:=[(0,.loop Xf3.c)]) ⟨Lam.cons Xf3.ok,trivial⟩
  (fun x=>by simp only[Xff,mC,mB,mS,mO,mN];kernel_rfl)
end Xff
def Xdx.B (v:Xd) (v2:List Xj) (v3:Int) (v4:Int) (v5:List Xj):Option ((Int×List Xj)⊕(List Xj)):=
 cond (decide (v4<v3)) (cond (inB v4 v2.length) ((Xck v (v2.getD v4.toNat Xt).1).bind fun v6=>(Xcf (v2.getD v4.toNat Xt).2.1 v6).bind fun v7=>cond (!v7) (cond (decide ((v5++([v2.getD v4.toNat Xt])).length≤2147483648)) (some (.inl (w64 (v4+1),v5++([v2.getD v4.toNat Xt])))) none) (some (.inl (w64 (v4+1),v5)))) none) (some (.inr v5))
def Xdx (v:Xd) (v2:List Xj) (v3:Int):(Int×List Xj)→Option (List Xj):=
 Y9 fun s=>Xdx.B v v2 v3 s.1 s.2
def Xci (v:Xd) (v2:List Xj):Option (List Xj):=
 (Xdx v v2 (v2.length:Int) (0,[])).bind fun v8=>some v8
namespace Xci
def G:Gam:=mkG [(110,Xck.FS),(187,Xcf.FS)]
theorem Gok:GOk PR G:=.cons Xck.ok (.cons Xcf.ok .nil)
end Xci
namespace Xdx
def c:=Yap (Yaf Proofs.Tryz.f115) [1,1,0,1,0,0]
def sp:SP:=⟨[(0,.pt Xh),(5,.seg 5 []),(8,.cs (.sl Xl)),(9,.cs I64),(10,.cs I64)],[(5,.reg,.cl .top (.sl Xl))]⟩
def fr:=Yja sp (fun x s=>Xdx.B x.1.1 x.1.2.2.1 x.1.2.2.2.1 s.1 s.2) (fun x=>(x.1.2.2.2.2.1,x.2.1)) fun x (bb0:List Xj) _ kk0=>kk0 (.ex 0) ⟨[(5,.seg 5 [])],[(5,some ⟨.reg,.cl .top (.sl Xl) bb0⟩)]⟩
theorem ok:Ya7 PR 28 2 (.loop c) fr:=
 Yxo Xe Xf ⟨[],[5],[],0⟩ (G:=Xci.G) Xci.Gok [(0,([5],[5]))] (fun x s=>((x.1.1,x.1.2.1,x.1.2.2.1,x.1.2.2.2.1,s.1,x.1.2.2.2.2.2),(s.2,x.2.2)))
  (fun x s=>by simp only[B,mC,mB,mS,mO,mN];kernel_rfl)
end Xdx
namespace Xci
def pts:List PT:=[.pt Xh,.cs (.sl Xl)]
def FS:FS:=Ybk [.sh,.sh] pts (fun x=>Xci x.1 x.2.1) fun t=>⟨[.cl .top (.sl Xl) t],[]⟩
theorem ok:Yb2 PR 115 FS:=
 Yxn Xe Xf Proofs.Tryz.f115 ⟨[],[5],[],0⟩ (.R (.R (.L (.R (.one (.fr 0)))))) (G:=G) Gok (L:=mkL [(0,Xdx.fr)]) (l:=[(0,.loop Xdx.c)]) ⟨Lam.cons Xdx.ok,trivial⟩
  (fun x=>by simp only[Xci,mC,mB,mS,mO,mN];kernel_rfl)
end Xci
def Xhe (v:List Xj):Option Int:=
 some (v.length:Int)
namespace Xhe
def pts:List PT:=[.cs (.sl Xl)]
def FS:FS:=Ybk [.sh] pts (fun x=>Xhe x.1) fun t=>⟨[.cs I64 t],[]⟩
theorem ok:Yb2 PR 117 FS:=
 Yxn Xe Xf Proofs.Tryz.f117 h0 .no (G:=(mkG [])) .nil (L:=mkL []) (l:=[]) hT
  (fun x=>by simp only[Xhe,mC,mB,mS,mO,mN];kernel_rfl)
end Xhe
def Xkh (v:Int):Option (List Int):=
 some ([7,v])
namespace Xkh
def pts:List PT:=[.cs I64]
def FS:FS:=Ybk [.sh] pts (fun x=>Xkh x.1) fun t=>⟨[.cd SI t],[]⟩
theorem ok:Yb2 PR 119 FS:=
 Yxn Xe Xf Proofs.Tryz.f119 h0 .no (G:=(mkG [])) .nil (L:=mkL []) (l:=[]) hT
  (fun x=>by simp only[Xkh,mC,mB,mS,mO,mN];kernel_rfl)
end Xkh
def Xda.B (v:Fs_) (v3:Int) (v4:Int) (v10:List Int) (v9:Int) (v5:List Xj) (v6:List Int) (v7:Bool) (v8:Unit) (v11:Int) (v12:Xj):Option ((Int×Xj)⊕Xj):=
 cond (decide (v11<v9)) (cond (inB v11 v10.length) (cond (decide ((v12.2.1++([w64 (v10.getD v11.toNat 0)])).length≤2147483648)) (some (.inl (w64 (v11+1),(v12.1,v12.2.1++([w64 (v10.getD v11.toNat 0)]),v12.2.2)))) none) none) (some (.inr v12))
def Xda (v:Fs_) (v3:Int) (v4:Int) (v10:List Int) (v9:Int) (v5:List Xj) (v6:List Int) (v7:Bool) (v8:Unit):(Int×Xj)→Option Xj:=
 Y9 fun s=>Xda.B v v3 v4 v10 v9 v5 v6 v7 v8 s.1 s.2
def Xe5.B (v:Fs_) (v3:Int) (v6:List Int) (v7:Bool) (v8:Unit) (v4:Int) (v5:List Xj):Option ((Int×List Xj)⊕(List Xj)):=
 cond (decide (v4<v3)) (cond (inB v4 v6.length) (cond (inB (v6.getD v4.toNat 0) v.2.1.length) ((some ((v.2.1.getD (v6.getD v4.toNat 0).toNat []).length:Int)).bind fun v9=>(Xda v v3 v4 (v.2.1.getD (v6.getD v4.toNat 0).toNat []) v9 v5 v6 v7 v8 (0,(w64 ((27:Int)+(v6.getD v4.toNat 0)),[],()))).bind fun v13=>cond (decide ((v5++([(v13.1,v13.2.1,v13.2.2)])).length≤2147483648)) (some (.inl (w64 (v4+1),v5++([(v13.1,v13.2.1,v13.2.2)])))) none) none) none) (some (.inr v5))
def Xe5 (v:Fs_) (v3:Int) (v6:List Int) (v7:Bool) (v8:Unit):(Int×List Xj)→Option (List Xj):=
 Y9 fun s=>Xe5.B v v3 v6 v7 v8 s.1 s.2
def Xb6 (v:Fs_):Option (List Xj):=
 (Xaj v.1).bind fun v2=>(Xe5 v (v2.1.length:Int) v2.1 v2.2 () (0,[])).bind fun v14=>some v14
namespace Xb6
def G:Gam:=mkG [(147,Xaj.FS)]
theorem Gok:GOk PR G:=.cons Xaj.ok .nil
end Xb6
namespace Xda
def c:=Yap (Yaf Proofs.Tryz.f122) [1,1,1,0,1,0,0,1,1,0,0,1,1,0,1,0,0]
def sp:SP:=⟨[(0,.pt Xo),(5,.seg 5 []),(8,.loc 8 []),(19,.seg 16 [.f1]),(20,.cs I64),(21,.cs I64),(34,.cs SB),(35,.cs I64),(36,.cs I64)],[(5,.reg,.cd (.sl Xl)),(8,.mem,.cd Xl),(16,.reg,.pr (.cd SI) (.pr (.cs .bool) (.cs .unit)))]⟩
def fr:=Yja sp (fun x s=>Xda.B x.1.1 x.1.2.2.2.2.1 x.1.2.2.2.2.2.1 x.1.2.2.2.2.2.2.1 x.1.2.2.2.2.2.2.2.1 x.2.1 x.2.2.2.1.1 x.2.2.2.1.2.1 x.2.2.2.1.2.2 s.1 s.2) (fun x=>(x.1.2.2.2.2.2.2.2.2.1,x.2.2.1)) fun x (bb0:Xj) _ kk0=>kk0 (.ex 2) ⟨[(0,.pt Xo x.1.1),(5,.seg 5 []),(8,.loc 8 []),(19,.seg 16 [.f1]),(20,.cs I64 x.1.2.2.2.2.1),(21,.cs I64 x.1.2.2.2.2.2.1)],[sr 5 (.cd (.sl Xl) x.2.1),(8,some ⟨.mem,.cd Xl bb0⟩),(16,some ⟨.reg,.pr (.cd SI x.2.2.2.1.1) (.pr (.cs .bool x.2.2.2.1.2.1) (.cs .unit x.2.2.2.1.2.2))⟩)]⟩
theorem ok:Ya7 PR 54 1 (.loop c) fr:=
 Yxo Xe Xf h0 (G:=Xb6.G) Xb6.Gok [(2,([0,5,8,19,20,21],[5,8,16]))] (fun x s=>((x.1.1,x.1.2.1,x.1.2.2.1,x.1.2.2.2.1,x.1.2.2.2.2.1,x.1.2.2.2.2.2.1,x.1.2.2.2.2.2.2.1,x.1.2.2.2.2.2.2.2.1,s.1,x.1.2.2.2.2.2.2.2.2.2),(x.2.1,s.2,x.2.2.2)))
  (fun x s=>by simp only[B,mC,mB,mS,mO,mN];kernel_rfl)
end Xda
namespace Xe5
def c:=Yap (Yaf Proofs.Tryz.f122) [1,1,1,0,1,0,0]
def sp:SP:=⟨[(0,.pt Xo),(5,.seg 5 []),(19,.seg 16 [.f1]),(20,.cs I64),(21,.cs I64)],[(5,.reg,.cd (.sl Xl)),(16,.reg,.pr (.cd SI) (.pr (.cs .bool) (.cs .unit)))]⟩
def fr:=Yja sp (fun x s=>Xe5.B x.1.1 x.1.2.2.2.1 x.2.2.1.1 x.2.2.1.2.1 x.2.2.1.2.2 s.1 s.2) (fun x=>(x.1.2.2.2.2.1,x.2.1)) fun x (bb0:List Xj) _ kk0=>kk0 (.ex 0) ⟨[(5,.seg 5 [])],[sr 5 (.cd (.sl Xl) bb0)]⟩
theorem ok:Ya7 PR 54 1 (.loop c) fr:=
 Yxs Xe Xf h0 (.R (.R (.L (.one (.R (.R (.L (.R (.one (.fr 1)))))))))) (G:=Xb6.G) Xb6.Gok (L:=mkL [(1,Xda.fr)]) (l:=[(1,.loop Xda.c)]) ⟨Lam.cons Xda.ok,trivial⟩ [(0,([5],[5]))] (fun x s=>((x.1.1,x.1.2.1,x.1.2.2.1,x.1.2.2.2.1,s.1,x.1.2.2.2.2.2),(s.2,x.2.2)))
  (fun x s=>by simp only[B,mC,mB,mS,mO,mN];kernel_rfl)
end Xe5
namespace Xb6
def pts:List PT:=[.pt Xo]
def FS:FS:=Ybk [.sh] pts (fun x=>Xb6 x.1) fun t=>⟨[.cd (.sl Xl) t],[]⟩
theorem ok:Yb2 PR 122 FS:=
 Yxn Xe Xf Proofs.Tryz.f122 h0 (.R (.R (.R (.L (.R (.one (.fr 0))))))) (G:=G) Gok (L:=mkL [(1,Xda.fr),(0,Xe5.fr)]) (l:=[(0,.loop Xe5.c)]) ⟨Lam.skip rfl (Lam.cons Xe5.ok),trivial⟩
  (fun x=>by simp only[Xb6,mC,mB,mS,mO,mN];kernel_rfl)
end Xb6
noncomputable def Xf5 (l:List Xj):Option (List Xr):=Ygy l
noncomputable def Xf5.FS:FS:=Ybk [.sh] [.cl .sh (.sl Ybb)] (fun x=>Ygy x.1) fun y=>⟨[.cl .deep (.sl Yi0) y],[]⟩
theorem Xf5.okA:Yb2 Go.Proofs.Tryz.prog 215 (Ybk [.sh] [.cl .sh (.sl Ybb)] (fun x=>Ymd x.1) fun y=>⟨[.cl .top (.sl Ybb) y],[]⟩):=
 Ywd (hn:=⟨[],[],[],1⟩) Xe Xf (fn:=Go.Proofs.Tryz.f215) (by kernel_rfl) (Ygs (by kernel_rfl)) (by kernel_rfl) (by kernel_rfl) .top Xl 36 36 148 (by kernel_rfl) (by kernel_rfl) (by kernel_rfl) (by kernel_rfl) (by kernel_rfl) (by kernel_rfl) (by kernel_rfl) (by kernel_rfl) (fun xs=>by kernel_rfl) (fun xs=>by kernel_rfl) (fun xs=>by kernel_rfl) (fun xs=>by kernel_rfl)
theorem Xf5.okB:Yb2 Go.Proofs.Tryz.prog 118 (Ybk [.sh] [.cl .sh (.sl (.int .i64))] (fun x=>Ymd x.1) fun y=>⟨[.cl .deep (.sl (.int .i64)) y],[]⟩):=
 Ywd (hn:=⟨[],[],[],0⟩) Xe Xf (fn:=Go.Proofs.Tryz.f118) (by kernel_rfl) (Ygs (by kernel_rfl)) (by kernel_rfl) (by kernel_rfl) .deep (.int .i64) 51 51 2 (by kernel_rfl) (by kernel_rfl) (by kernel_rfl) (by kernel_rfl) (by kernel_rfl) (by kernel_rfl) (by kernel_rfl) (by kernel_rfl) (fun xs=>by kernel_rfl) (fun xs=>by kernel_rfl) (fun xs=>by kernel_rfl) (fun xs=>by kernel_rfl)
theorem Xf5.ok:Yb2 Go.Proofs.Tryz.prog 121 Xf5.FS:=
 Yud ⟨Go.Proofs.Tryz.f121,by kernel_rfl,by kernel_rfl,by kernel_rfl⟩ (fun w A c l hr hl hls=>callsIn_wide.1 (Go.Proofs.Ps.putSteps_in Fence.wide 1 trivial trivial (Nat.le_refl _) rfl (fun m w A c l hr hl hls=>callsIn_wide.2 (callsIn_wide.1 (Go.Proofs.Cp.clonePuts_in Fence.wide 1 trivial trivial trivial (Nat.le_refl _) rfl (fun m w A c xs hr hl=>callsIn_wide.2 (Yt9 Xf5.okA (by decide) Ywp w A c xs hr hl)) (fun m w A c xs hr hl=>callsIn_wide.2 (Yt9 Xf5.okB (by decide) Yws w A c xs hr hl)) w A c l hr hl hls))) (by kernel_rfl) w A c l hr hl hls))
def Xll (x:List (List Xr)):Option (List Xr):=Yhy x
def Xll.FS:FS:=Ybk [.mv] [.cl .deep (.sl (.sl Xx))] (fun x=>Yhy x.1) fun y=>⟨[.cl .deep (.sl Xx) y],[]⟩
theorem Xll.ok:Yb2 Go.Proofs.Tryz.prog 120 Xll.FS:=
 Yvl (E:=147) ⟨Go.Proofs.Tryz.f120,by kernel_rfl,by kernel_rfl,by kernel_rfl⟩ (fun w A b off m c hs cs hA hr hm ht=>Go.Proofs.Cc120.concat_in w A b off m c hs cs (by kernel_rfl) hA hr hm ht)
def Xc1.B (v:Xd) (v2:Fs_) (v7:Int) (v8:Int) (v5:List Xj) (v10:Bool) (v11:Int) (v12:Unit) (v9:Int) (v13:List Int) (v14:List Xr):Option ((Int×(List Int)×List Xr)⊕((List Int)×List Xr)):=
 cond (decide (v9<v8)) (cond (inB v9 v5.length) (cond (decide ((v13++([(v5.getD v9.toNat Xt).1])).length≤2147483648)) ((Xal (v5.getD v9.toNat Xt).2.1).bind fun v15=>(some (v14++([(false,w64 ((2:Int)+v9),v15,())]))).bind fun v16=>cond (decide (v16.length≤2147483648)) (some (.inl (w64 (v9+1),v13++([(v5.getD v9.toNat Xt).1]),v16))) none) none) none) (some (.inr (v13,v14)))
def Xc1 (v:Xd) (v2:Fs_) (v7:Int) (v8:Int) (v5:List Xj) (v10:Bool) (v11:Int) (v12:Unit):(Int×(List Int)×List Xr)→Option ((List Int)×List Xr):=
 Y9 fun s=>Xc1.B v v2 v7 v8 v5 v10 v11 v12 s.1 s.2.1 s.2.2
def Xb7 (v:Xd) (v2:Fs_):Option ((List Xr)×Int):=
 (Xdt v).bind fun v3=>cond (v3.1 == 60000) (some ([],8)) ((Xff v2).bind fun v4=>(Xci v v4).bind fun v5=>cond ((v5.length:Int) == 0) (some ([],0)) ((Xhe v5).bind fun v6=>(Xc1 v v2 v3.1 (v5.length:Int) v5 true 0 () (0,[1,v3.1,v6],[])).bind fun v17=>(Xhe v5).bind fun v18=>(Xhe v5).bind fun v19=>(Xkh (w64 (v3.1+1))).bind fun v20=>(Xb6 v2).bind fun v21=>(Xci v v21).bind fun v22=>(Xf5 v22).bind fun v23=>(Xf5 v5).bind fun v24=>(Xll ([v23,[(true,0,[],()),(false,1,v17.1,())],v17.2,[(true,0,[],()),(false,w64 ((2:Int)+v18),[2,v3.1,v19],()),(true,0,[],())],v24,[(true,0,[],()),(false,0,v20,()),(true,0,[],())]])).bind fun v25=>some (v25,0)))
namespace Xb7
def G:Gam:=mkG [(53,Xdt.FS),(116,FS.frz Xff.FS),(115,Xci.FS),(117,Xhe.FS),(118,Xal.FS),(119,Xkh.FS),(122,FS.frz Xb6.FS),(121,Xf5.FS),(120,Xll.FS)]
theorem Gok:GOk PR G:=.cons Xdt.ok (.cons (Yb2.frz Xff.ok) (.cons Xci.ok (.cons Xhe.ok (.cons Xal.ok (.cons Xkh.ok (.cons (Yb2.frz Xb6.ok) (.cons Xf5.ok (.cons Xll.ok .nil))))))))
end Xb7
namespace Xc1
def c:=Yap (Yaf Proofs.Tryz.f55) [1,1,1,1,1,1,1,1,0,1,0,0]
def sp:SP:=⟨[(2,.pt Xh),(3,.pt Xo),(6,.cs I64),(8,.seg 8 []),(9,.loc 9 []),(10,.seg 10 []),(11,.seg 11 []),(33,.seg 8 []),(34,.cs I64),(35,.cs I64)],[(8,.reg,.cl .top (.sl Xl)),(9,.mem,.pr (.cs .bool) (.pr (.cs I64) (.pr (.nl) (.cs .unit)))),(10,.reg,.cd SI),(11,.reg,.cd (.sl Xx))]⟩
def fr:=Yja sp (fun x s=>Xc1.B x.1.1 x.1.2.1 x.1.2.2.1 x.1.2.2.2.2.2.2.2.2.1 x.2.1 x.2.2.1.1 x.2.2.1.2.1 x.2.2.1.2.2.2 s.1 s.2.1 s.2.2) (fun x=>(x.1.2.2.2.2.2.2.2.2.2.1,x.2.2.2.1,x.2.2.2.2.1)) fun x (bb0:(List Int)×List Xr) _ kk0=>kk0 (.ex 0) ⟨[(2,.pt Xh x.1.1),(3,.pt Xo x.1.2.1),(6,.cs I64 x.1.2.2.1),(8,.seg 8 []),(9,.loc 9 []),(10,.seg 10 []),(11,.seg 11 [])],[(8,some ⟨.reg,.cl .top (.sl Xl) x.2.1⟩),(9,some ⟨.mem,.pr (.cs .bool x.2.2.1.1) (.pr (.cs I64 x.2.2.1.2.1) (.pr (.nl) (.cs .unit x.2.2.1.2.2.2)))⟩),sr 10 (.cd SI bb0.1),sr 11 (.cd (.sl Xx) bb0.2)]⟩
theorem ok:Ya7 PR 87 2 (.loop c) fr:=
 Yxo Xe Xf ⟨[2,3],[],[9],0⟩ (G:=Xb7.G) Xb7.Gok [(0,([2,3,6,8,9,10,11],[8,9,10,11]))] (fun x s=>((x.1.1,x.1.2.1,x.1.2.2.1,x.1.2.2.2.1,x.1.2.2.2.2.1,x.1.2.2.2.2.2.1,x.1.2.2.2.2.2.2.1,x.1.2.2.2.2.2.2.2.1,x.1.2.2.2.2.2.2.2.2.1,s.1,x.1.2.2.2.2.2.2.2.2.2.2),(x.2.1,x.2.2.1,s.2.1,s.2.2,x.2.2.2.2.2)))
  (fun x s=>by simp only[B,mC,mB,mS,mO,mN];kernel_rfl)
end Xc1
namespace Xb7
def pts:List PT:=[.cs Xh,.cs Xo]
def FS:FS:=Ybk [.sh,.sh] pts (fun x=>Xb7 x.1 x.2.1) fun t=>⟨[.cd (.sl Xx) t.1,.cs I64 t.2],[]⟩
theorem ok:Yb2 PR 55 FS:=
 Yxn Xe Xf Proofs.Tryz.f55 ⟨[2,3],[],[9],0⟩ (.R (.R (.R (.R (.R (.R (.R (.R (.L (.R (.one (.fr 0)))))))))))) (G:=G) Gok (L:=mkL [(0,Xc1.fr)]) (l:=[(0,.loop Xc1.c)]) ⟨Lam.cons Xc1.ok,trivial⟩
  (fun x=>by simp only[Xb7,mC,mB,mS,mO,mN];kernel_rfl)
end Xb7
def Xk1 (v:List Xr):Option Int:=
 some (v.length:Int)
namespace Xk1
def pts:List PT:=[.cs (.sl Xx)]
def FS:FS:=Ybk [.sh] pts (fun x=>Xk1 x.1) fun t=>⟨[.cs I64 t],[]⟩
theorem ok:Yb2 PR 151 FS:=
 Yxn Xe Xf Proofs.Tryz.f151 h0 .no (G:=(mkG [])) .nil (L:=mkL []) (l:=[]) hT
  (fun x=>by simp only[Xk1,mC,mB,mS,mO,mN];kernel_rfl)
end Xk1
noncomputable def Xg0 (l:List Xj):Option (List Xj):=Yfa l
noncomputable def Xg0.FS:FS:=Ybk [.sh] [.cl .sh (.sl Ybb)] (fun x=>Yfa x.1) fun y=>⟨[.cl .deep (.sl Ybb) y],[]⟩
theorem Xg0.okA:Yb2 Go.Proofs.Tryz.prog 215 (Ybk [.sh] [.cl .sh (.sl Ybb)] (fun x=>Ymd x.1) fun y=>⟨[.cl .top (.sl Ybb) y],[]⟩):=
 Ywd (hn:=⟨[],[],[],1⟩) Xe Xf (fn:=Go.Proofs.Tryz.f215) (by kernel_rfl) (Ygs (by kernel_rfl)) (by kernel_rfl) (by kernel_rfl) .top Xl 36 36 148 (by kernel_rfl) (by kernel_rfl) (by kernel_rfl) (by kernel_rfl) (by kernel_rfl) (by kernel_rfl) (by kernel_rfl) (by kernel_rfl) (fun xs=>by kernel_rfl) (fun xs=>by kernel_rfl) (fun xs=>by kernel_rfl) (fun xs=>by kernel_rfl)
theorem Xg0.okB:Yb2 Go.Proofs.Tryz.prog 118 (Ybk [.sh] [.cl .sh (.sl (.int .i64))] (fun x=>Ymd x.1) fun y=>⟨[.cl .deep (.sl (.int .i64)) y],[]⟩):=
 Ywd (hn:=⟨[],[],[],0⟩) Xe Xf (fn:=Go.Proofs.Tryz.f118) (by kernel_rfl) (Ygs (by kernel_rfl)) (by kernel_rfl) (by kernel_rfl) .deep (.int .i64) 51 51 2 (by kernel_rfl) (by kernel_rfl) (by kernel_rfl) (by kernel_rfl) (by kernel_rfl) (by kernel_rfl) (by kernel_rfl) (by kernel_rfl) (fun xs=>by kernel_rfl) (fun xs=>by kernel_rfl) (fun xs=>by kernel_rfl) (fun xs=>by kernel_rfl)
theorem Xg0.ok:Yb2 Go.Proofs.Tryz.prog 158 Xg0.FS:=
 Yts ⟨Go.Proofs.Tryz.f158,by kernel_rfl,by kernel_rfl,by kernel_rfl⟩ (fun w A c l hr hl hls=>callsIn_wide.1 (Go.Proofs.Cp.clonePuts_in Fence.wide 1 trivial trivial trivial (Nat.le_refl _) rfl (fun m w A c xs hr hl=>callsIn_wide.2 (Yt9 Xg0.okA (by decide) Ywp w A c xs hr hl)) (fun m w A c xs hr hl=>callsIn_wide.2 (Yt9 Xg0.okB (by decide) Yws w A c xs hr hl)) w A c l hr hl hls))
def Xdu.B (v:Xd) (v2:List (List Int)) (v3:Int) (v5:Xd) (v4:Int) (v6:Xd):Option ((Int×Xd)⊕Xd):=
 cond (decide (v4<v3)) (cond (inB v4 v2.length) ((Xal (v2.getD v4.toNat [])).bind fun v7=>cond (decide ((v6.1++([v7])).length≤2147483648)) (some (.inl (w64 (v4+1),(v6.1++([v7]),v6.2)))) none) none) (some (.inr v6))
def Xdu (v:Xd) (v2:List (List Int)) (v3:Int) (v5:Xd):(Int×Xd)→Option Xd:=
 Y9 fun s=>Xdu.B v v2 v3 v5 s.1 s.2
def Xdr (v:Xd):Option Xd:=
 (Xdu v v.1 (v.1.length:Int) ([],[],()) (0,([],[],()))).bind fun v8=>(Xg0 v.2.1).bind fun v9=>some (v8.1,v9,())
namespace Xdr
def G:Gam:=mkG [(118,Xal.FS),(158,Xg0.FS)]
theorem Gok:GOk PR G:=.cons Xal.ok (.cons Xg0.ok .nil)
end Xdr
namespace Xdu
def c:=Yap (Yaf Proofs.Tryz.f82) [1,1,0,1,0,0]
def sp:SP:=⟨[(1,.pt Xh),(2,.loc 2 []),(3,.loc 3 []),(7,.cs (.sl SI)),(8,.cs I64),(9,.cs I64)],[(2,.mem,.cd Xh),(3,.mem,.cd Xh)]⟩
def fr:=Yja sp (fun x s=>Xdu.B x.1.1 x.1.2.2.2.1 x.1.2.2.2.2.1 x.2.1 s.1 s.2) (fun x=>(x.1.2.2.2.2.2.1,x.2.2.1)) fun x (bb0:Xd) _ kk0=>kk0 (.ex 0) ⟨[(1,.pt Xh x.1.1),(2,.loc 2 []),(3,.loc 3 [])],[(2,some ⟨.mem,.cd Xh x.2.1⟩),(3,some ⟨.mem,.cd Xh bb0⟩)]⟩
theorem ok:Ya7 PR 27 1 (.loop c) fr:=
 Yxo Xe Xf ⟨[1],[],[],0⟩ (G:=Xdr.G) Xdr.Gok [(0,([1,2,3],[2,3]))] (fun x s=>((x.1.1,x.1.2.1,x.1.2.2.1,x.1.2.2.2.1,x.1.2.2.2.2.1,s.1,x.1.2.2.2.2.2.2),(x.2.1,s.2,x.2.2.2)))
  (fun x s=>by simp only[B,mC,mB,mS,mO,mN];kernel_rfl)
end Xdu
namespace Xdr
def pts:List PT:=[.cs Xh]
def FS:FS:=Ybk [.sh] pts (fun x=>Xdr x.1) fun t=>⟨[.cd Xh t],[]⟩
theorem ok:Yb2 PR 82 FS:=
 Yxn Xe Xf Proofs.Tryz.f82 ⟨[1],[],[],0⟩ (.R (.R (.L (.R (.one (.fr 0)))))) (G:=G) Gok (L:=mkL [(0,Xdu.fr)]) (l:=[(0,.loop Xdu.c)]) ⟨Lam.cons Xdu.ok,trivial⟩
  (fun x=>by simp only[Xdr,mC,mB,mS,mO,mN];kernel_rfl)
end Xdr
noncomputable def Xlw (d:Xd):Option Xd:=Yl9 d
noncomputable def Xlw.FS:FS:=Ybk [.mu] [.op (.cl .deep Yq)] (fun x=>Yl9 x.1) fun y=>⟨[],[.op (.cl .deep Yq y)]⟩
theorem Xlw.ok:Yb2 Go.Proofs.Tryz.prog 135 Xlw.FS:=
 Yvs ⟨Go.Proofs.Tryz.f135,by kernel_rfl,by kernel_rfl,by kernel_rfl⟩ (fun w A C bd od bB oB bC oC nB cB nC cC at_ hc hb h1 h2 h3 h4 h5 h6 h7 h8 h9=>Go.Proofs.Fl.flush_in w A C bd od bB oB bC oC nB cB nC cC at_ hc hb h1 h2 h3 h4 h5 h6 h7 h8 h9)
def Xkr (v:Xd) (v2:Int) (v3:List Int):Option Xd:=
 (Xal v3).bind fun v4=>cond (decide ((v.2.1++([(v2,v4,())])).length≤2147483648)) (some (v.1,v.2.1++([(v2,v4,())]),v.2.2)) none
namespace Xkr
def G:Gam:=mkG [(118,Xal.FS)]
def pts:List PT:=[.op (.cd Xh),.cs I64,.cs SI]
def FS:FS:=Ybk [.mu,.sh,.sh] pts (fun x=>Xkr x.1 x.2.1 x.2.2.1) fun t=>⟨[],[.op (.cd Xh t)]⟩
theorem ok:Yb2 PR 159 FS:=
 Yxn Xe Xf Proofs.Tryz.f159 h0 .no (G:=G) (show GOk PR G from .cons Xal.ok .nil) (L:=mkL []) (l:=[]) hT
  (fun x=>by simp only[Xkr,mC,mB,mS,mO,mN];kernel_rfl)
end Xkr
def Xa1.B (v2:List Xr) (v3:Int) (v4:Int) (v5:Xd):Option ((Int×Xd)⊕(((Int×Xd)⊕Xd))):=
 cond (decide (v4<v3)) (cond (inB v4 v2.length) (cond (v2.getD v4.toNat Xhy).1 ((Xlw v5).bind fun v6=>some (.inl (w64 (v4+1),v6))) (cond ((v5.2.1.length:Int) == 200) (some (.inr (.inl (2,v5)))) ((Xkr v5 (v2.getD v4.toNat Xhy).2.1 (v2.getD v4.toNat Xhy).2.2.1).bind fun v7=>some (.inl (w64 (v4+1),v7))))) none) (some (.inr (.inr v5)))
def Xa1 (v2:List Xr) (v3:Int):(Int×Xd)→Option (((Int×Xd)⊕Xd)):=
 Y9 fun s=>Xa1.B v2 v3 s.1 s.2
def Xgc (v:Xd) (v2:List Xr):Option (Int×Xd):=
 (Xa1 v2 (v2.length:Int) (0,v)).bind fun v8=>sel v8 (fun v9=>some (v9.1,v9.2)) (fun v10=>some (0,v10))
namespace Xgc
def G:Gam:=mkG [(135,Xlw.FS),(159,Xkr.FS)]
theorem Gok:GOk PR G:=.cons Xlw.ok (.cons Xkr.ok .nil)
end Xgc
namespace Xa1
def c:=Yap (Yaf Proofs.Tryz.f83) [1,0,1,0,0]
def sp:SP:=⟨[(0,.loc 0 []),(7,.cs (.sl Xx)),(8,.cs I64),(9,.cs I64)],[(0,.mem,.cd Xh)]⟩
def fr:=Yja sp (fun x s=>Xa1.B x.1.2.1 x.1.2.2.1 s.1 s.2) (fun x=>(x.1.2.2.2.1,x.2.1)) fun x (oo0:((Int×Xd)⊕Xd)) _ kk0=>sel oo0 (fun bb0=>kk0 (.rt) ⟨[(4,.cs I64 bb0.1)],[(0,some ⟨.mem,.cd Xh bb0.2⟩)]⟩) (fun cc0=>kk0 (.ex 0) ⟨[],[(0,some ⟨.mem,.cd Xh cc0⟩)]⟩)
theorem ok:Ya7 PR 32 2 (.loop c) fr:=
 Yt2 Xe Xf h0 .no (G:=Xgc.G) Xgc.Gok (L:=mkL []) (l:=[]) hT [(0,([],[0]))] ([4],[0]) (fun x s=>((x.1.1,x.1.2.1,x.1.2.2.1,s.1,x.1.2.2.2.2),(s.2,x.2.2)))
  (fun x s=>by simp only[B,mC,mB,mS,mO,mN];kernel_rfl)
end Xa1
namespace Xgc
def pts:List PT:=[.op (.cd Xh),.cs (.sl Xx)]
def FS:FS:=Ybk [.mu,.sh] pts (fun x=>Xgc x.1 x.2.1) fun t=>⟨[.cs I64 t.1],[.op (.cd Xh t.2)]⟩
theorem ok:Yb2 PR 83 FS:=
 Yxn Xe Xf Proofs.Tryz.f83 h0 (.R (.L (.R (.one (.fr 0))))) (G:=G) Gok (L:=mkL [(0,Xa1.fr)]) (l:=[(0,.loop Xa1.c)]) ⟨Lam.cons Xa1.ok,trivial⟩
  (fun x=>by simp only[Xgc,mC,mB,mS,mO,mN];kernel_rfl)
end Xgc
noncomputable def Xlk (d:Xd) (picks:List Bool):Option Xd:=Yl0 d picks
noncomputable def Xlk.FS:FS:=Ybk [.mu,.sh] [.op (.cl .deep Yq),.cl .sh (.sl .bool)] (fun x=>Yl0 x.1 x.2.1) fun y=>⟨[],[.op (.cl .deep Yq y)]⟩
theorem Xlk.ok:Yb2 Go.Proofs.Tryz.prog 152 Xlk.FS:=
 Yvr ⟨Go.Proofs.Tryz.f152,by kernel_rfl,by kernel_rfl,by kernel_rfl⟩ (fun w A C bd od bB oB bC oC nB cB nC cC at_ hc hb Pk nP cP bP oP pick h1 h2 h3 h4 h5 h6 h7 h8 h9 h10 h11=>Go.Proofs.Cr.crash_in w A C bd od bB oB bC oC nB cB nC cC at_ hc hb Pk nP cP bP oP pick h1 h2 h3 h4 h5 h6 h7 h8 h9 h10 h11)
def Xjc (v:Xd) (v2:List Xr) (v3:Int) (v4:List Bool):Option Xn:=
 (Xk1 v2).bind fun v5=>(X7 v3 0 v5).bind fun v6=>cond (!v6) (some (3,([],[],()),())) ((Xdr v).bind fun v7=>cond (decide ((0:Int)≤v3)&&decide (v3≤(v2.length:Int))) ((Xgc (v7.1,v7.2.1,v7.2.2) ((v2.take v3.toNat).drop 0)).bind fun v8=>cond (v8.1 != 0) (some (v8.1,([],[],()),())) ((Xlk v8.2 v4).bind fun v9=>some (0,(v9.1,v9.2.1,v9.2.2),()))) none)
namespace Xjc
def G:Gam:=mkG [(151,Xk1.FS),(150,X7.FS),(82,Xdr.FS),(83,Xgc.FS),(152,Xlk.FS)]
def pts:List PT:=[.cs Xh,.cs (.sl Xx),.cs I64,.cs (.sl .bool)]
def FS:FS:=Ybk [.sh,.sh,.sh,.sh] pts (fun x=>Xjc x.1 x.2.1 x.2.2.1 x.2.2.2.1) fun t=>⟨[.cd Xk t],[]⟩
theorem ok:Yb2 PR 77 FS:=
 Yxn Xe Xf Proofs.Tryz.f77 ⟨[4],[],[],0⟩ .no (G:=G) (show GOk PR G from .cons Xk1.ok (.cons X7.ok (.cons Xdr.ok (.cons Xgc.ok (.cons Xlk.ok .nil))))) (L:=mkL []) (l:=[]) hT
  (fun x=>by simp only[Xjc,mC,mB,mS,mO,mN];kernel_rfl)
end Xjc
def Xgw (v:Xz) (v2:Int) (v3:List Bool):Option Xn:=
 (Xd1 v).bind fun v4=>cond (v4 != 0) (some (v4,([],[],()),())) ((Xb7 v.1 v.2.1).bind fun v5=>cond (v5.2 != 0) (some (v5.2,([],[],()),())) ((Xjc v.1 v5.1 v2 v3).bind fun v6=>some (v6.1,(v6.2.1.1,v6.2.1.2.1,v6.2.1.2.2),v6.2.2)))
namespace Xgw
def G:Gam:=mkG [(76,Xd1.FS),(55,Xb7.FS),(77,Xjc.FS)]
def pts:List PT:=[.cs Xp,.cs I64,.cs (.sl .bool)]
def FS:FS:=Ybk [.sh,.sh,.sh] pts (fun x=>Xgw x.1 x.2.1 x.2.2.1) fun t=>⟨[.cd Xk t],[]⟩
theorem ok:Yb2 PR 29 FS:=
 Yxn Xe Xf Proofs.Tryz.f29 ⟨[3],[],[],0⟩ .no (G:=G) (show GOk PR G from .cons Xd1.ok (.cons Xb7.ok (.cons Xjc.ok .nil))) (L:=mkL []) (l:=[]) hT
  (fun x=>by simp only[Xgw,mC,mB,mS,mO,mN];kernel_rfl)
end Xgw
def Xd5.B (a:List Int) (b:List Int) (i_:Int):Option (Int⊕((Bool⊕Unit))):=
 cond (decide (i_<(a.length:Int))) (cond (inB i_ a.length) (cond (inB i_ b.length) (cond ((a.getD i_.toNat 0) != (b.getD i_.toNat 0)) (some (.inr (.inl false))) (some (.inl (w64 (i_+1))))) none) none) (some (.inr (.inr ())))
def Xd5 (a:List Int) (b:List Int):Int→Option ((Bool⊕Unit)):=
 Y9 fun s=>Xd5.B a b s
def Xcc (a:List Int) (b:List Int):Option Bool:=
 cond ((a.length:Int) != (b.length:Int)) (some false) ((Xd5 a b 0).bind fun o=>sel o (fun b2=>some b2) (fun c=>some true))
namespace Xd5
def c:=Yap (Yaf Proofs.Tryz.f71) [1,1,0,1,0,0]
def sp:SP:=⟨[(0,.cs SI),(1,.cs SI),(5,.cs I64)],[]⟩
def fr:=Yja sp (fun x s=>Xd5.B x.1.1 x.1.2.1 s) (fun x=>x.1.2.2.1) fun x (oo0:(Bool⊕Unit)) _ kk0=>sel oo0 (fun bb0=>kk0 (.rt) ⟨[(4,.cs .bool bb0)],[]⟩) (fun cc0=>kk0 (.ex 0) ⟨[],[]⟩)
theorem ok:Ya7 PR 26 2 (.loop c) fr:=
 Yt2 Xe Xf h0 .no (G:=(mkG [])) .nil (L:=mkL []) (l:=[]) hT [(0,([],[]))] ([4],[]) (fun x s=>((x.1.1,x.1.2.1,s,x.1.2.2.2),x.2))
  (fun x s=>by simp only[B,mC,mB,mS,mO,mN];kernel_rfl)
end Xd5
namespace Xcc
def pts:List PT:=[.cs SI,.cs SI]
def FS:FS:=Ybk [.sh,.sh] pts (fun x=>Xcc x.1 x.2.1) fun t=>⟨[.cs .bool t],[]⟩
theorem ok:Yb2 PR 71 FS:=
 Yxn Xe Xf Proofs.Tryz.f71 h0 (.R (.R (.L (.R (.one (.fr 0)))))) (G:=(mkG [])) .nil (L:=mkL [(0,Xd5.fr)]) (l:=[(0,.loop Xd5.c)]) ⟨Lam.cons Xd5.ok,trivial⟩
  (fun x=>by simp only[Xcc,mC,mB,mS,mO,mN];kernel_rfl)
end Xcc
def Xe2.B (a:List (List Int)) (b:List (List Int)) (i_:Int):Option (Int⊕((Bool⊕Unit))):=
 cond (decide (i_<(a.length:Int))) (cond (inB i_ a.length) (cond (inB i_ b.length) ((Xcc (a.getD i_.toNat []) (b.getD i_.toNat [])).bind fun r=>cond (!r) (some (.inr (.inl false))) (some (.inl (w64 (i_+1))))) none) none) (some (.inr (.inr ())))
def Xe2 (a:List (List Int)) (b:List (List Int)):Int→Option ((Bool⊕Unit)):=
 Y9 fun s=>Xe2.B a b s
def Xfc (a:List (List Int)) (b:List (List Int)):Option Bool:=
 cond ((a.length:Int) != (b.length:Int)) (some false) ((Xe2 a b 0).bind fun o=>sel o (fun b2=>some b2) (fun c=>some true))
namespace Xfc
def G:Gam:=mkG [(71,Xcc.FS)]
theorem Gok:GOk PR G:=.cons Xcc.ok .nil
end Xfc
namespace Xe2
def c:=Yap (Yaf Proofs.Tryz.f57) [1,1,0,1,0,0]
def sp:SP:=⟨[(0,.cs (.sl SI)),(1,.cs (.sl SI)),(5,.cs I64)],[]⟩
def fr:=Yja sp (fun x s=>Xe2.B x.1.1 x.1.2.1 s) (fun x=>x.1.2.2.1) fun x (oo0:(Bool⊕Unit)) _ kk0=>sel oo0 (fun bb0=>kk0 (.rt) ⟨[(4,.cs .bool bb0)],[]⟩) (fun cc0=>kk0 (.ex 0) ⟨[],[]⟩)
theorem ok:Ya7 PR 27 2 (.loop c) fr:=
 Yt2 Xe Xf h0 .no (G:=Xfc.G) Xfc.Gok (L:=mkL []) (l:=[]) hT [(0,([],[]))] ([4],[]) (fun x s=>((x.1.1,x.1.2.1,s,x.1.2.2.2),x.2))
  (fun x s=>by simp only[B,mC,mB,mS,mO,mN];kernel_rfl)
end Xe2
namespace Xfc
def pts:List PT:=[.cs (.sl SI),.cs (.sl SI)]
def FS:FS:=Ybk [.sh,.sh] pts (fun x=>Xfc x.1 x.2.1) fun t=>⟨[.cs .bool t],[]⟩
theorem ok:Yb2 PR 57 FS:=
 Yxn Xe Xf Proofs.Tryz.f57 h0 (.R (.R (.L (.R (.one (.fr 0)))))) (G:=G) Gok (L:=mkL [(0,Xe2.fr)]) (l:=[(0,.loop Xe2.c)]) ⟨Lam.cons Xe2.ok,trivial⟩
  (fun x=>by simp only[Xfc,mC,mB,mS,mO,mN];kernel_rfl)
end Xfc
def Xib (a:Xj) (b:Xj):Option Bool:=
 cond (a.1 != b.1) (some false) ((Xcc a.2.1 b.2.1).bind fun r=>cond (!r) (some false) (some true))
namespace Xib
def G:Gam:=mkG [(71,Xcc.FS)]
def pts:List PT:=[.cs Xl,.cs Xl]
def FS:FS:=Ybk [.sh,.sh] pts (fun x=>Xib x.1 x.2.1) fun t=>⟨[.cs .bool t],[]⟩
theorem ok:Yb2 PR 124 FS:=
 Yxn Xe Xf Proofs.Tryz.f124 ⟨[2,3],[],[],0⟩ .no (G:=G) (show GOk PR G from .cons Xcc.ok .nil) (L:=mkL []) (l:=[]) hT
  (fun x=>by simp only[Xib,mC,mB,mS,mO,mN];kernel_rfl)
end Xib
def Xdz.B (a:List Xj) (b:List Xj) (i_:Int):Option (Int⊕((Bool⊕Unit))):=
 cond (decide (i_<(a.length:Int))) (cond (inB i_ a.length) (cond (inB i_ b.length) ((Xib (a.getD i_.toNat Xt) (b.getD i_.toNat Xt)).bind fun r=>cond (!r) (some (.inr (.inl false))) (some (.inl (w64 (i_+1))))) none) none) (some (.inr (.inr ())))
def Xdz (a:List Xj) (b:List Xj):Int→Option ((Bool⊕Unit)):=
 Y9 fun s=>Xdz.B a b s
def Xey (a:List Xj) (b:List Xj):Option Bool:=
 cond ((a.length:Int) != (b.length:Int)) (some false) ((Xdz a b 0).bind fun o=>sel o (fun b2=>some b2) (fun c=>some true))
namespace Xey
def G:Gam:=mkG [(124,Xib.FS)]
theorem Gok:GOk PR G:=.cons Xib.ok .nil
end Xey
namespace Xdz
def c:=Yap (Yaf Proofs.Tryz.f58) [1,1,0,1,0,0]
def sp:SP:=⟨[(0,.cs (.sl Xl)),(1,.cs (.sl Xl)),(5,.cs I64)],[]⟩
def fr:=Yja sp (fun x s=>Xdz.B x.1.1 x.1.2.1 s) (fun x=>x.1.2.2.1) fun x (oo0:(Bool⊕Unit)) _ kk0=>sel oo0 (fun bb0=>kk0 (.rt) ⟨[(4,.cs .bool bb0)],[]⟩) (fun cc0=>kk0 (.ex 0) ⟨[],[]⟩)
theorem ok:Ya7 PR 27 2 (.loop c) fr:=
 Yt2 Xe Xf h0 .no (G:=Xey.G) Xey.Gok (L:=mkL []) (l:=[]) hT [(0,([],[]))] ([4],[]) (fun x s=>((x.1.1,x.1.2.1,s,x.1.2.2.2),x.2))
  (fun x s=>by simp only[B,mC,mB,mS,mO,mN];kernel_rfl)
end Xdz
namespace Xey
def pts:List PT:=[.cs (.sl Xl),.cs (.sl Xl)]
def FS:FS:=Ybk [.sh,.sh] pts (fun x=>Xey x.1 x.2.1) fun t=>⟨[.cs .bool t],[]⟩
theorem ok:Yb2 PR 58 FS:=
 Yxn Xe Xf Proofs.Tryz.f58 h0 (.R (.R (.L (.R (.one (.fr 0)))))) (G:=G) Gok (L:=mkL [(0,Xdz.fr)]) (l:=[(0,.loop Xdz.c)]) ⟨Lam.cons Xdz.ok,trivial⟩
  (fun x=>by simp only[Xey,mC,mB,mS,mO,mN];kernel_rfl)
end Xey
def Xf6 (a:Xd) (b:Xd):Option Bool:=
 (Xfc a.1 b.1).bind fun r=>cond (!r) (some false) ((Xey a.2.1 b.2.1).bind fun r2=>cond (!r2) (some false) (some true))
namespace Xf6
def G:Gam:=mkG [(57,Xfc.FS),(58,Xey.FS)]
def pts:List PT:=[.cs Xh,.cs Xh]
def FS:FS:=Ybk [.sh,.sh] pts (fun x=>Xf6 x.1 x.2.1) fun t=>⟨[.cs .bool t],[]⟩
theorem ok:Yb2 PR 14 FS:=
 Yxn Xe Xf Proofs.Tryz.f14 ⟨[2,3],[],[],0⟩ .no (G:=G) (show GOk PR G from .cons Xfc.ok (.cons Xey.ok .nil)) (L:=mkL []) (l:=[]) hT
  (fun x=>by simp only[Xf6,mC,mB,mS,mO,mN];kernel_rfl)
end Xf6
def Xgp (a:Xn) (b:Xn):Option Bool:=
 cond (a.1 != b.1) (some false) ((Xf6 a.2.1 b.2.1).bind fun r=>cond (!r) (some false) (some true))
namespace Xgp
def G:Gam:=mkG [(14,Xf6.FS)]
def pts:List PT:=[.cs Xk,.cs Xk]
def FS:FS:=Ybk [.sh,.sh] pts (fun x=>Xgp x.1 x.2.1) fun t=>⟨[.cs .bool t],[]⟩
theorem ok:Yb2 PR 30 FS:=
 Yxn Xe Xf Proofs.Tryz.f30 ⟨[2,3],[],[],0⟩ .no (G:=G) (show GOk PR G from .cons Xf6.ok .nil) (L:=mkL []) (l:=[]) hT
  (fun x=>by simp only[Xgp,mC,mB,mS,mO,mN];kernel_rfl)
end Xgp
def Xi0 (a:Xg) (b:Xg):Option Bool:=
 cond (!(a.1 == b.1)) (some false) (cond (a.2.1 != b.2.1) (some false) (some true))
namespace Xi0
def pts:List PT:=[.cs Xi,.cs Xi]
def FS:FS:=Ybk [.sh,.sh] pts (fun x=>Xi0 x.1 x.2.1) fun t=>⟨[.cs .bool t],[]⟩
theorem ok:Yb2 PR 227 FS:=
 Yxn Xe Xf Proofs.Tryz.f227 ⟨[2,3],[],[],0⟩ .no (G:=(mkG [])) .nil (L:=mkL []) (l:=[]) hT
  (fun x=>by simp only[Xi0,mC,mB,mS,mO,mN];kernel_rfl)
end Xi0
def Xe3.B (a:List Xg) (b:List Xg) (i_:Int):Option (Int⊕((Bool⊕Unit))):=
 cond (decide (i_<(a.length:Int))) (cond (inB i_ a.length) (cond (inB i_ b.length) ((Xi0 (a.getD i_.toNat Xm) (b.getD i_.toNat Xm)).bind fun r=>cond (!r) (some (.inr (.inl false))) (some (.inl (w64 (i_+1))))) none) none) (some (.inr (.inr ())))
def Xe3 (a:List Xg) (b:List Xg):Int→Option ((Bool⊕Unit)):=
 Y9 fun s=>Xe3.B a b s
def Xep (a:List Xg) (b:List Xg):Option Bool:=
 cond ((a.length:Int) != (b.length:Int)) (some false) ((Xe3 a b 0).bind fun o=>sel o (fun b2=>some b2) (fun c=>some true))
namespace Xep
def G:Gam:=mkG [(227,Xi0.FS)]
theorem Gok:GOk PR G:=.cons Xi0.ok .nil
end Xep
namespace Xe3
def c:=Yap (Yaf Proofs.Tryz.f190) [1,1,0,1,0,0]
def sp:SP:=⟨[(0,.cs (.sl Xi)),(1,.cs (.sl Xi)),(5,.cs I64)],[]⟩
def fr:=Yja sp (fun x s=>Xe3.B x.1.1 x.1.2.1 s) (fun x=>x.1.2.2.1) fun x (oo0:(Bool⊕Unit)) _ kk0=>sel oo0 (fun bb0=>kk0 (.rt) ⟨[(4,.cs .bool bb0)],[]⟩) (fun cc0=>kk0 (.ex 0) ⟨[],[]⟩)
theorem ok:Ya7 PR 27 2 (.loop c) fr:=
 Yt2 Xe Xf h0 .no (G:=Xep.G) Xep.Gok (L:=mkL []) (l:=[]) hT [(0,([],[]))] ([4],[]) (fun x s=>((x.1.1,x.1.2.1,s,x.1.2.2.2),x.2))
  (fun x s=>by simp only[B,mC,mB,mS,mO,mN];kernel_rfl)
end Xe3
namespace Xep
def pts:List PT:=[.cs (.sl Xi),.cs (.sl Xi)]
def FS:FS:=Ybk [.sh,.sh] pts (fun x=>Xep x.1 x.2.1) fun t=>⟨[.cs .bool t],[]⟩
theorem ok:Yb2 PR 190 FS:=
 Yxn Xe Xf Proofs.Tryz.f190 h0 (.R (.R (.L (.R (.one (.fr 0)))))) (G:=G) Gok (L:=mkL [(0,Xe3.fr)]) (l:=[(0,.loop Xe3.c)]) ⟨Lam.cons Xe3.ok,trivial⟩
  (fun x=>by simp only[Xep,mC,mB,mS,mO,mN];kernel_rfl)
end Xep
def Xi2 (a:Xa) (b:Xa):Option Bool:=
 cond (a.1 != b.1) (some false) (cond (a.2.1 != b.2.1) (some false) (cond (a.2.2.1 != b.2.2.1) (some false) ((Xcc a.2.2.2.1 b.2.2.2.1).bind fun r=>cond (!r) (some false) ((Xep a.2.2.2.2.1 b.2.2.2.2.1).bind fun r2=>cond (!r2) (some false) (some true)))))
namespace Xi2
def G:Gam:=mkG [(71,Xcc.FS),(190,Xep.FS)]
def pts:List PT:=[.cs Xb,.cs Xb]
def FS:FS:=Ybk [.sh,.sh] pts (fun x=>Xi2 x.1 x.2.1) fun t=>⟨[.cs .bool t],[]⟩
theorem ok:Yb2 PR 125 FS:=
 Yxn Xe Xf Proofs.Tryz.f125 ⟨[2,3],[],[],0⟩ .no (G:=G) (show GOk PR G from .cons Xcc.ok (.cons Xep.ok .nil)) (L:=mkL []) (l:=[]) hT
  (fun x=>by simp only[Xi2,mC,mB,mS,mO,mN];kernel_rfl)
end Xi2
def Xfa.B (a:List Xa) (b:List Xa) (i_:Int):Option (Int⊕((Bool⊕Unit))):=
 cond (decide (i_<(a.length:Int))) (cond (inB i_ a.length) (cond (inB i_ b.length) ((Xi2 (a.getD i_.toNat Xc) (b.getD i_.toNat Xc)).bind fun r=>cond (!r) (some (.inr (.inl false))) (some (.inl (w64 (i_+1))))) none) none) (some (.inr (.inr ())))
def Xfa (a:List Xa) (b:List Xa):Int→Option ((Bool⊕Unit)):=
 Y9 fun s=>Xfa.B a b s
def Xeh (a:List Xa) (b:List Xa):Option Bool:=
 cond ((a.length:Int) != (b.length:Int)) (some false) ((Xfa a b 0).bind fun o=>sel o (fun b2=>some b2) (fun c=>some true))
namespace Xeh
def G:Gam:=mkG [(125,Xi2.FS)]
theorem Gok:GOk PR G:=.cons Xi2.ok .nil
end Xeh
namespace Xfa
def c:=Yap (Yaf Proofs.Tryz.f59) [1,1,0,1,0,0]
def sp:SP:=⟨[(0,.cs (.sl Xb)),(1,.cs (.sl Xb)),(5,.cs I64)],[]⟩
def fr:=Yja sp (fun x s=>Xfa.B x.1.1 x.1.2.1 s) (fun x=>x.1.2.2.1) fun x (oo0:(Bool⊕Unit)) _ kk0=>sel oo0 (fun bb0=>kk0 (.rt) ⟨[(4,.cs .bool bb0)],[]⟩) (fun cc0=>kk0 (.ex 0) ⟨[],[]⟩)
theorem ok:Ya7 PR 27 2 (.loop c) fr:=
 Yt2 Xe Xf h0 .no (G:=Xeh.G) Xeh.Gok (L:=mkL []) (l:=[]) hT [(0,([],[]))] ([4],[]) (fun x s=>((x.1.1,x.1.2.1,s,x.1.2.2.2),x.2))
  (fun x s=>by simp only[B,mC,mB,mS,mO,mN];kernel_rfl)
end Xfa
namespace Xeh
def pts:List PT:=[.cs (.sl Xb),.cs (.sl Xb)]
def FS:FS:=Ybk [.sh,.sh] pts (fun x=>Xeh x.1 x.2.1) fun t=>⟨[.cs .bool t],[]⟩
theorem ok:Yb2 PR 59 FS:=
 Yxn Xe Xf Proofs.Tryz.f59 h0 (.R (.R (.L (.R (.one (.fr 0)))))) (G:=G) Gok (L:=mkL [(0,Xfa.fr)]) (l:=[(0,.loop Xfa.c)]) ⟨Lam.cons Xfa.ok,trivial⟩
  (fun x=>by simp only[Xeh,mC,mB,mS,mO,mN];kernel_rfl)
end Xeh
def Xfe.B (a:List Int) (b:List Int) (i_:Int):Option (Int⊕((Bool⊕Unit))):=
 cond (decide (i_<(a.length:Int))) (cond (inB i_ a.length) (cond (inB i_ b.length) (cond ((a.getD i_.toNat 0) != (b.getD i_.toNat 0)) (some (.inr (.inl false))) (some (.inl (w64 (i_+1))))) none) none) (some (.inr (.inr ())))
def Xfe (a:List Int) (b:List Int):Int→Option ((Bool⊕Unit)):=
 Y9 fun s=>Xfe.B a b s
def Xie (a:List Int) (b:List Int):Option Bool:=
 cond ((a.length:Int) != (b.length:Int)) (some false) ((Xfe a b 0).bind fun o=>sel o (fun b2=>some b2) (fun c=>some true))
namespace Xfe
def c:=Yap (Yaf Proofs.Tryz.f126) [1,1,0,1,0,0]
def sp:SP:=⟨[(0,.cs SB),(1,.cs SB),(5,.cs I64)],[]⟩
def fr:=Yja sp (fun x s=>Xfe.B x.1.1 x.1.2.1 s) (fun x=>x.1.2.2.1) fun x (oo0:(Bool⊕Unit)) _ kk0=>sel oo0 (fun bb0=>kk0 (.rt) ⟨[(4,.cs .bool bb0)],[]⟩) (fun cc0=>kk0 (.ex 0) ⟨[],[]⟩)
theorem ok:Ya7 PR 26 2 (.loop c) fr:=
 Yt2 Xe Xf h0 .no (G:=(mkG [])) .nil (L:=mkL []) (l:=[]) hT [(0,([],[]))] ([4],[]) (fun x s=>((x.1.1,x.1.2.1,s,x.1.2.2.2),x.2))
  (fun x s=>by simp only[B,mC,mB,mS,mO,mN];kernel_rfl)
end Xfe
namespace Xie
def pts:List PT:=[.cs SB,.cs SB]
def FS:FS:=Ybk [.sh,.sh] pts (fun x=>Xie x.1 x.2.1) fun t=>⟨[.cs .bool t],[]⟩
theorem ok:Yb2 PR 126 FS:=
 Yxn Xe Xf Proofs.Tryz.f126 h0 (.R (.R (.L (.R (.one (.fr 0)))))) (G:=(mkG [])) .nil (L:=mkL [(0,Xfe.fr)]) (l:=[(0,.loop Xfe.c)]) ⟨Lam.cons Xfe.ok,trivial⟩
  (fun x=>by simp only[Xie,mC,mB,mS,mO,mN];kernel_rfl)
end Xie
def Xfd.B (a:List (List Int)) (b:List (List Int)) (i_:Int):Option (Int⊕((Bool⊕Unit))):=
 cond (decide (i_<(a.length:Int))) (cond (inB i_ a.length) (cond (inB i_ b.length) ((Xie (a.getD i_.toNat []) (b.getD i_.toNat [])).bind fun r=>cond (!r) (some (.inr (.inl false))) (some (.inl (w64 (i_+1))))) none) none) (some (.inr (.inr ())))
def Xfd (a:List (List Int)) (b:List (List Int)):Int→Option ((Bool⊕Unit)):=
 Y9 fun s=>Xfd.B a b s
def Xen (a:List (List Int)) (b:List (List Int)):Option Bool:=
 cond ((a.length:Int) != (b.length:Int)) (some false) ((Xfd a b 0).bind fun o=>sel o (fun b2=>some b2) (fun c=>some true))
namespace Xen
def G:Gam:=mkG [(126,Xie.FS)]
theorem Gok:GOk PR G:=.cons Xie.ok .nil
end Xen
namespace Xfd
def c:=Yap (Yaf Proofs.Tryz.f60) [1,1,0,1,0,0]
def sp:SP:=⟨[(0,.cs (.sl SB)),(1,.cs (.sl SB)),(5,.cs I64)],[]⟩
def fr:=Yja sp (fun x s=>Xfd.B x.1.1 x.1.2.1 s) (fun x=>x.1.2.2.1) fun x (oo0:(Bool⊕Unit)) _ kk0=>sel oo0 (fun bb0=>kk0 (.rt) ⟨[(4,.cs .bool bb0)],[]⟩) (fun cc0=>kk0 (.ex 0) ⟨[],[]⟩)
theorem ok:Ya7 PR 27 2 (.loop c) fr:=
 Yt2 Xe Xf h0 .no (G:=Xen.G) Xen.Gok (L:=mkL []) (l:=[]) hT [(0,([],[]))] ([4],[]) (fun x s=>((x.1.1,x.1.2.1,s,x.1.2.2.2),x.2))
  (fun x s=>by simp only[B,mC,mB,mS,mO,mN];kernel_rfl)
end Xfd
namespace Xen
def pts:List PT:=[.cs (.sl SB),.cs (.sl SB)]
def FS:FS:=Ybk [.sh,.sh] pts (fun x=>Xen x.1 x.2.1) fun t=>⟨[.cs .bool t],[]⟩
theorem ok:Yb2 PR 60 FS:=
 Yxn Xe Xf Proofs.Tryz.f60 h0 (.R (.R (.L (.R (.one (.fr 0)))))) (G:=G) Gok (L:=mkL [(0,Xfd.fr)]) (l:=[(0,.loop Xfd.c)]) ⟨Lam.cons Xfd.ok,trivial⟩
  (fun x=>by simp only[Xen,mC,mB,mS,mO,mN];kernel_rfl)
end Xen
def Xhf (a:Fs_) (b:Fs_):Option Bool:=
 (Xeh a.1 b.1).bind fun r=>cond (!r) (some false) ((Xen a.2.1 b.2.1).bind fun r2=>cond (!r2) (some false) (some true))
namespace Xhf
def G:Gam:=mkG [(59,Xeh.FS),(60,Xen.FS)]
def pts:List PT:=[.cs Xo,.cs Xo]
def FS:FS:=Ybk [.sh,.sh] pts (fun x=>Xhf x.1 x.2.1) fun t=>⟨[.cs .bool t],[]⟩
theorem ok:Yb2 PR 15 FS:=
 Yxn Xe Xf Proofs.Tryz.f15 ⟨[2,3],[],[],0⟩ .no (G:=G) (show GOk PR G from .cons Xeh.ok (.cons Xen.ok .nil)) (L:=mkL []) (l:=[]) hT
  (fun x=>by simp only[Xhf,mC,mB,mS,mO,mN];kernel_rfl)
end Xhf
def Xif (a:Xz) (b:Xz):Option Bool:=
 (Xf6 a.1 b.1).bind fun r=>cond (!r) (some false) ((Xhf a.2.1 b.2.1).bind fun r2=>cond (!r2) (some false) ((Xhf a.2.2.1 b.2.2.1).bind fun r3=>cond (!r3) (some false) (some true)))
namespace Xif
def G:Gam:=mkG [(14,Xf6.FS),(15,Xhf.FS)]
def pts:List PT:=[.cs Xp,.cs Xp]
def FS:FS:=Ybk [.sh,.sh] pts (fun x=>Xif x.1 x.2.1) fun t=>⟨[.cs .bool t],[]⟩
theorem ok:Yb2 PR 31 FS:=
 Yxn Xe Xf Proofs.Tryz.f31 ⟨[2,3],[],[],0⟩ .no (G:=G) (show GOk PR G from .cons Xf6.ok (.cons Xhf.ok .nil)) (L:=mkL []) (l:=[]) hT
  (fun x=>by simp only[Xif,mC,mB,mS,mO,mN];kernel_rfl)
end Xif
def Xea.B (a:List Bool) (b:List Bool) (i_:Int):Option (Int⊕((Bool⊕Unit))):=
 cond (decide (i_<(a.length:Int))) (cond (inB i_ a.length) (cond (inB i_ b.length) ((some (!((a.getD i_.toNat false) == (b.getD i_.toNat false)))).bind fun v=>cond v (some (.inr (.inl false))) (some (.inl (w64 (i_+1))))) none) none) (some (.inr (.inr ())))
def Xea (a:List Bool) (b:List Bool):Int→Option ((Bool⊕Unit)):=
 Y9 fun s=>Xea.B a b s
def Xii (a:List Bool) (b:List Bool):Option Bool:=
 cond ((a.length:Int) != (b.length:Int)) (some false) ((Xea a b 0).bind fun o=>sel o (fun b2=>some b2) (fun c=>some true))
namespace Xea
def c:=Yap (Yaf Proofs.Tryz.f32) [1,1,0,1,0,0]
def sp:SP:=⟨[(0,.cs (.sl .bool)),(1,.cs (.sl .bool)),(5,.cs I64)],[]⟩
def fr:=Yja sp (fun x s=>Xea.B x.1.1 x.1.2.1 s) (fun x=>x.1.2.2.1) fun x (oo0:(Bool⊕Unit)) _ kk0=>sel oo0 (fun bb0=>kk0 (.rt) ⟨[(4,.cs .bool bb0)],[]⟩) (fun cc0=>kk0 (.ex 0) ⟨[],[]⟩)
theorem ok:Ya7 PR 26 2 (.loop c) fr:=
 Yt2 Xe Xf h0 .no (G:=(mkG [])) .nil (L:=mkL []) (l:=[]) hT [(0,([],[]))] ([4],[]) (fun x s=>((x.1.1,x.1.2.1,s,x.1.2.2.2),x.2))
  (fun x s=>by simp only[B,mC,mB,mS,mO,mN];kernel_rfl)
end Xea
namespace Xii
def pts:List PT:=[.cs (.sl .bool),.cs (.sl .bool)]
def FS:FS:=Ybk [.sh,.sh] pts (fun x=>Xii x.1 x.2.1) fun t=>⟨[.cs .bool t],[]⟩
theorem ok:Yb2 PR 32 FS:=
 Yxn Xe Xf Proofs.Tryz.f32 h0 (.R (.R (.L (.R (.one (.fr 0)))))) (G:=(mkG [])) .nil (L:=mkL [(0,Xea.fr)]) (l:=[(0,.loop Xea.c)]) ⟨Lam.cons Xea.ok,trivial⟩
  (fun x=>by simp only[Xii,mC,mB,mS,mO,mN];kernel_rfl)
end Xii
def Xcr.B (k_:Int) (i_:Int) (a_:List Int):Option ((Int×Int×List Int)⊕(Int×List Int)):=
 cond (decide (i_<(a_.length:Int))) (cond (inB i_ a_.length) (some (.inl (w64 (k_+1),w64 (i_+1),a_.set i_.toNat k_))) none) (some (.inr (k_,a_)))
def Xcr :(Int×Int×List Int)→Option (Int×List Int):=
 Y9 fun s=>Xcr.B s.1 s.2.1 s.2.2
def Xb9 (a:List Int) (k:Int):Option (Int×List Int):=
 (Xcr (k,0,a)).bind fun o=>some (o.1,o.2)
namespace Xcr
def c:=Yap (Yaf Proofs.Tryz.f72) [1,0,1,0,0]
def sp:SP:=⟨[(0,.seg 0 []),(1,.cs I64),(5,.cs I64)],[(0,.reg,.cd SI)]⟩
def fr:=Yja sp (fun x s=>Xcr.B  s.1 s.2.1 s.2.2) (fun x=>(x.1.2.1,x.1.2.2.1,x.2.1)) fun x (bb0:Int×List Int) _ kk0=>kk0 (.ex 0) ⟨[(1,.cs I64 bb0.1)],[sr 0 (.cd SI bb0.2)]⟩
theorem ok:Ya7 PR 19 2 (.loop c) fr:=
 Yxd Xe Xf h0 [(0,([1],[0]))] (fun x s=>((x.1.1,s.1,s.2.1,x.1.2.2.2),(s.2.2,x.2.2)))
  (fun x s=>by simp only[B,mC,mB,mS,mO,mN];kernel_rfl)
end Xcr
namespace Xb9
def pts:List PT:=[.cd SI,.cs I64]
def FS:FS:=Ybk [.mu,.sh] pts (fun x=>Xb9 x.1 x.2.1) fun t=>⟨[.cs I64 t.1],[.cd SI t.2]⟩
theorem ok:Yb2 PR 72 FS:=
 Yxn Xe Xf Proofs.Tryz.f72 h0 (.R (.L (.R (.one (.fr 0))))) (G:=(mkG [])) .nil (L:=mkL [(0,Xcr.fr)]) (l:=[(0,.loop Xcr.c)]) ⟨Lam.cons Xcr.ok,trivial⟩
  (fun x=>by simp only[Xb9,mC,mB,mS,mO,mN];kernel_rfl)
end Xb9
def Xct.B (k_:Int) (i_:Int) (a_:List (List Int)):Option ((Int×Int×List (List Int))⊕(Int×List (List Int))):=
 cond (decide (i_<(a_.length:Int))) (cond (inB i_ a_.length) ((Xb9 (a_.getD i_.toNat []) k_).bind fun r=>some (.inl (r.1,w64 (i_+1),a_.set i_.toNat r.2))) none) (some (.inr (k_,a_)))
def Xct :(Int×Int×List (List Int))→Option (Int×List (List Int)):=
 Y9 fun s=>Xct.B s.1 s.2.1 s.2.2
def Xdh (a:List (List Int)) (k:Int):Option (Int×List (List Int)):=
 (Xct (k,0,a)).bind fun o=>some (o.1,o.2)
namespace Xdh
def G:Gam:=mkG [(72,Xb9.FS)]
theorem Gok:GOk PR G:=.cons Xb9.ok .nil
end Xdh
namespace Xct
def c:=Yap (Yaf Proofs.Tryz.f61) [1,0,1,0,0]
def sp:SP:=⟨[(0,.seg 0 []),(1,.cs I64),(5,.cs I64)],[(0,.reg,.cd (.sl SI))]⟩
def fr:=Yja sp (fun x s=>Xct.B  s.1 s.2.1 s.2.2) (fun x=>(x.1.2.1,x.1.2.2.1,x.2.1)) fun x (bb0:Int×List (List Int)) _ kk0=>kk0 (.ex 0) ⟨[(1,.cs I64 bb0.1)],[sr 0 (.cd (.sl SI) bb0.2)]⟩
theorem ok:Ya7 PR 19 2 (.loop c) fr:=
 Yxo Xe Xf h0 (G:=Xdh.G) Xdh.Gok [(0,([1],[0]))] (fun x s=>((x.1.1,s.1,s.2.1,x.1.2.2.2),(s.2.2,x.2.2)))
  (fun x s=>by simp only[B,mC,mB,mS,mO,mN];kernel_rfl)
end Xct
namespace Xdh
def pts:List PT:=[.cd (.sl SI),.cs I64]
def FS:FS:=Ybk [.mu,.sh] pts (fun x=>Xdh x.1 x.2.1) fun t=>⟨[.cs I64 t.1],[.cd (.sl SI) t.2]⟩
theorem ok:Yb2 PR 61 FS:=
 Yxn Xe Xf Proofs.Tryz.f61 h0 (.R (.L (.R (.one (.fr 0))))) (G:=G) Gok (L:=mkL [(0,Xct.fr)]) (l:=[(0,.loop Xct.c)]) ⟨Lam.cons Xct.ok,trivial⟩
  (fun x=>by simp only[Xdh,mC,mB,mS,mO,mN];kernel_rfl)
end Xdh
def Xc4.B (k_:Int) (i_:Int) (a_:List Xj):Option ((Int×Int×List Xj)⊕(Int×List Xj)):=
 cond (decide (i_<(a_.length:Int))) (cond (inB i_ a_.length) (cond (inB i_ ((a_.set i_.toNat (k_,(a_.getD i_.toNat Xt).2)).length)) ((Xb9 ((a_.set i_.toNat (k_,(a_.getD i_.toNat Xt).2)).getD i_.toNat Xt).2.1 (w64 (k_+1))).bind fun r=>some (.inl (r.1,w64 (i_+1),(a_.set i_.toNat (k_,(a_.getD i_.toNat Xt).2)).set i_.toNat (((a_.set i_.toNat (k_,(a_.getD i_.toNat Xt).2)).getD i_.toNat Xt).1,r.2,((a_.set i_.toNat (k_,(a_.getD i_.toNat Xt).2)).getD i_.toNat Xt).2.2)))) none) none) (some (.inr (k_,a_)))
def Xc4 :(Int×Int×List Xj)→Option (Int×List Xj):=
 Y9 fun s=>Xc4.B s.1 s.2.1 s.2.2
def Xeo (a:List Xj) (k:Int):Option (Int×List Xj):=
 (Xc4 (k,0,a)).bind fun o=>some (o.1,o.2)
namespace Xeo
def G:Gam:=mkG [(72,Xb9.FS)]
theorem Gok:GOk PR G:=.cons Xb9.ok .nil
end Xeo
namespace Xc4
def c:=Yap (Yaf Proofs.Tryz.f62) [1,0,1,0,0]
def sp:SP:=⟨[(0,.seg 0 []),(1,.cs I64),(5,.cs I64)],[(0,.reg,.cd (.sl Xl))]⟩
def fr:=Yja sp (fun x s=>Xc4.B  s.1 s.2.1 s.2.2) (fun x=>(x.1.2.1,x.1.2.2.1,x.2.1)) fun x (bb0:Int×List Xj) _ kk0=>kk0 (.ex 0) ⟨[(1,.cs I64 bb0.1)],[sr 0 (.cd (.sl Xl) bb0.2)]⟩
theorem ok:Ya7 PR 27 2 (.loop c) fr:=
 Yxo Xe Xf h0 (G:=Xeo.G) Xeo.Gok [(0,([1],[0]))] (fun x s=>((x.1.1,s.1,s.2.1,x.1.2.2.2),(s.2.2,x.2.2)))
  (fun x s=>by simp only[B,mC,mB,mS,mO,mN];kernel_rfl)
end Xc4
namespace Xeo
def pts:List PT:=[.cd (.sl Xl),.cs I64]
def FS:FS:=Ybk [.mu,.sh] pts (fun x=>Xeo x.1 x.2.1) fun t=>⟨[.cs I64 t.1],[.cd (.sl Xl) t.2]⟩
theorem ok:Yb2 PR 62 FS:=
 Yxn Xe Xf Proofs.Tryz.f62 h0 (.R (.L (.R (.one (.fr 0))))) (G:=G) Gok (L:=mkL [(0,Xc4.fr)]) (l:=[(0,.loop Xc4.c)]) ⟨Lam.cons Xc4.ok,trivial⟩
  (fun x=>by simp only[Xeo,mC,mB,mS,mO,mN];kernel_rfl)
end Xeo
def Xcz (a:Xd) (k:Int):Option (Int×Xd):=
 (Xdh a.1 k).bind fun r=>(Xeo a.2.1 r.1).bind fun r2=>some (r2.1,(r.2,r2.2,a.2.2))
namespace Xcz
def G:Gam:=mkG [(61,Xdh.FS),(62,Xeo.FS)]
def pts:List PT:=[.cd Xh,.cs I64]
def FS:FS:=Ybk [.mu,.sh] pts (fun x=>Xcz x.1 x.2.1) fun t=>⟨[.cs I64 t.1],[.cd Xh t.2]⟩
theorem ok:Yb2 PR 16 FS:=
 Yxn Xe Xf Proofs.Tryz.f16 ⟨[2],[],[],0⟩ .no (G:=G) (show GOk PR G from .cons Xdh.ok (.cons Xeo.ok .nil)) (L:=mkL []) (l:=[]) hT
  (fun x=>by simp only[Xcz,mC,mB,mS,mO,mN];kernel_rfl)
end Xcz
def Xds.B (k_:Int) (out_:List UInt8):Option ((Int×List UInt8)⊕(List UInt8)):=
 cond (decide (k_>0)) (cond (!((10:Int) == 0)) ((some (IntKind.u8.wrap (w64 ((48:Int)+(k_.tmod 10))))).bind fun v=>cond (decide ((([v]).map fun n=>UInt8.ofNat n.toNat).length+out_.length≤2147483648)) (cond (!((10:Int) == 0)) (some (.inl (w64 (k_.tdiv 10),(([v]).map fun n=>UInt8.ofNat n.toNat)++out_))) none) none) none) (some (.inr out_))
def Xds :(Int×List UInt8)→Option (List UInt8):=
 Y9 fun s=>Xds.B s.1 s.2
def Xiu (k:Int):Option (List UInt8):=
 cond (decide (k≤0)) (some ([109,48]:List UInt8)) ((Xds (k,([]:List UInt8))).bind fun o=>cond (decide (([109]:List UInt8).length+o.length≤2147483648)) (some (([109]:List UInt8)++o)) none)
namespace Xds
def c:=Yap (Yaf Proofs.Tryz.f191) [1,1,1,0,0,0]
def sp:SP:=⟨[(0,.cs I64),(3,.cs .str)],[]⟩
def fr:=Yja sp (fun x s=>Xds.B  s.1 s.2) (fun x=>(x.1.1,x.1.2.1)) fun x (bb0:List UInt8) _ kk0=>kk0 (.ex 0) ⟨[(3,.cs .str bb0)],[]⟩
theorem ok:Ya7 PR 20 1 (.loop c) fr:=
 Yxd Xe Xf h0 [(0,([3],[]))] (fun x s=>((s.1,s.2,x.1.2.2),x.2))
  (fun x s=>by simp only[B,mC,mB,mS,mO,mN];kernel_rfl)
end Xds
namespace Xiu
def pts:List PT:=[.cs I64]
def FS:FS:=Ybk [.sh] pts (fun x=>Xiu x.1) fun t=>⟨[.cs .str t],[]⟩
theorem ok:Yb2 PR 191 FS:=
 Yxn Xe Xf Proofs.Tryz.f191 h0 (.R (.R (.R (.L (.one (.fr 0)))))) (G:=(mkG [])) .nil (L:=mkL [(0,Xds.fr)]) (l:=[(0,.loop Xds.c)]) ⟨Lam.cons Xds.ok,trivial⟩
  (fun x=>by simp only[Xiu,mC,mB,mS,mO,mN];kernel_rfl)
end Xiu
def Xc8.B (k_:Int) (i_:Int) (a_:List Xg):Option ((Int×Int×List Xg)⊕(Int×List Xg)):=
 cond (decide (i_<(a_.length:Int))) ((Xiu k_).bind fun r=>cond (inB i_ a_.length) ((some (a_.set i_.toNat (r,(a_.getD i_.toNat Xm).2))).bind fun a_2=>cond (inB i_ a_2.length) ((some (a_2.set i_.toNat ((a_2.getD i_.toNat Xm).1,w64 (k_+1),(a_2.getD i_.toNat Xm).2.2))).bind fun a_3=>some (.inl (w64 ((w64 (k_+1))+1),w64 (i_+1),a_3))) none) none) (some (.inr (k_,a_)))
def Xc8 :(Int×Int×List Xg)→Option (Int×List Xg):=
 Y9 fun s=>Xc8.B s.1 s.2.1 s.2.2
def Xdo (a:List Xg) (k:Int):Option (Int×List Xg):=
 (Xc8 (k,0,a)).bind fun o=>some (o.1,o.2)
namespace Xdo
def G:Gam:=mkG [(191,Xiu.FS)]
theorem Gok:GOk PR G:=.cons Xiu.ok .nil
end Xdo
namespace Xc8
def c:=Yap (Yaf Proofs.Tryz.f127) [1,0,1,0,0]
def sp:SP:=⟨[(0,.seg 0 []),(1,.cs I64),(5,.cs I64)],[(0,.reg,.cd (.sl Xi))]⟩
def fr:=Yja sp (fun x s=>Xc8.B  s.1 s.2.1 s.2.2) (fun x=>(x.1.2.1,x.1.2.2.1,x.2.1)) fun x (bb0:Int×List Xg) _ kk0=>kk0 (.ex 0) ⟨[(1,.cs I64 bb0.1)],[sr 0 (.cd (.sl Xi) bb0.2)]⟩
theorem ok:Ya7 PR 28 2 (.loop c) fr:=
 Yxo Xe Xf h0 (G:=Xdo.G) Xdo.Gok [(0,([1],[0]))] (fun x s=>((x.1.1,s.1,s.2.1,x.1.2.2.2),(s.2.2,x.2.2)))
  (fun x s=>by simp only[B,mC,mB,mS,mO,mN];kernel_rfl)
end Xc8
namespace Xdo
def pts:List PT:=[.cd (.sl Xi),.cs I64]
def FS:FS:=Ybk [.mu,.sh] pts (fun x=>Xdo x.1 x.2.1) fun t=>⟨[.cs I64 t.1],[.cd (.sl Xi) t.2]⟩
theorem ok:Yb2 PR 127 FS:=
 Yxn Xe Xf Proofs.Tryz.f127 h0 (.R (.L (.R (.one (.fr 0))))) (G:=G) Gok (L:=mkL [(0,Xc8.fr)]) (l:=[(0,.loop Xc8.c)]) ⟨Lam.cons Xc8.ok,trivial⟩
  (fun x=>by simp only[Xdo,mC,mB,mS,mO,mN];kernel_rfl)
end Xdo
def Xc9.B (k_:Int) (i_:Int) (a_:List Xa):Option ((Int×Int×List Xa)⊕(Int×List Xa)):=
 cond (decide (i_<(a_.length:Int))) (cond (inB i_ a_.length) ((some (a_.set i_.toNat (k_,(a_.getD i_.toNat Xc).2))).bind fun a_2=>cond (inB i_ a_2.length) ((some (a_2.set i_.toNat ((a_2.getD i_.toNat Xc).1,w64 (k_+1),(a_2.getD i_.toNat Xc).2.2))).bind fun a_3=>cond (inB i_ a_3.length) ((some (a_3.set i_.toNat ((a_3.getD i_.toNat Xc).1,(a_3.getD i_.toNat Xc).2.1,w64 ((w64 (k_+1))+1),(a_3.getD i_.toNat Xc).2.2.2))).bind fun a_4=>cond (inB i_ a_4.length) ((Xb9 (a_4.getD i_.toNat Xc).2.2.2.1 (w64 ((w64 ((w64 (k_+1))+1))+1))).bind fun r=>cond (inB i_ ((a_4.set i_.toNat ((a_4.getD i_.toNat Xc).1,(a_4.getD i_.toNat Xc).2.1,(a_4.getD i_.toNat Xc).2.2.1,r.2,(a_4.getD i_.toNat Xc).2.2.2.2)).length)) ((Xdo ((a_4.set i_.toNat ((a_4.getD i_.toNat Xc).1,(a_4.getD i_.toNat Xc).2.1,(a_4.getD i_.toNat Xc).2.2.1,r.2,(a_4.getD i_.toNat Xc).2.2.2.2)).getD i_.toNat Xc).2.2.2.2.1 r.1).bind fun r2=>some (.inl (r2.1,w64 (i_+1),(a_4.set i_.toNat ((a_4.getD i_.toNat Xc).1,(a_4.getD i_.toNat Xc).2.1,(a_4.getD i_.toNat Xc).2.2.1,r.2,(a_4.getD i_.toNat Xc).2.2.2.2)).set i_.toNat (((a_4.set i_.toNat ((a_4.getD i_.toNat Xc).1,(a_4.getD i_.toNat Xc).2.1,(a_4.getD i_.toNat Xc).2.2.1,r.2,(a_4.getD i_.toNat Xc).2.2.2.2)).getD i_.toNat Xc).1,((a_4.set i_.toNat ((a_4.getD i_.toNat Xc).1,(a_4.getD i_.toNat Xc).2.1,(a_4.getD i_.toNat Xc).2.2.1,r.2,(a_4.getD i_.toNat Xc).2.2.2.2)).getD i_.toNat Xc).2.1,((a_4.set i_.toNat ((a_4.getD i_.toNat Xc).1,(a_4.getD i_.toNat Xc).2.1,(a_4.getD i_.toNat Xc).2.2.1,r.2,(a_4.getD i_.toNat Xc).2.2.2.2)).getD i_.toNat Xc).2.2.1,((a_4.set i_.toNat ((a_4.getD i_.toNat Xc).1,(a_4.getD i_.toNat Xc).2.1,(a_4.getD i_.toNat Xc).2.2.1,r.2,(a_4.getD i_.toNat Xc).2.2.2.2)).getD i_.toNat Xc).2.2.2.1,r2.2,((a_4.set i_.toNat ((a_4.getD i_.toNat Xc).1,(a_4.getD i_.toNat Xc).2.1,(a_4.getD i_.toNat Xc).2.2.1,r.2,(a_4.getD i_.toNat Xc).2.2.2.2)).getD i_.toNat Xc).2.2.2.2.2)))) none) none) none) none) none) (some (.inr (k_,a_)))
def Xc9 :(Int×Int×List Xa)→Option (Int×List Xa):=
 Y9 fun s=>Xc9.B s.1 s.2.1 s.2.2
def Xe9 (a:List Xa) (k:Int):Option (Int×List Xa):=
 (Xc9 (k,0,a)).bind fun o=>some (o.1,o.2)
namespace Xe9
def G:Gam:=mkG [(72,Xb9.FS),(127,Xdo.FS)]
theorem Gok:GOk PR G:=.cons Xb9.ok (.cons Xdo.ok .nil)
end Xe9
namespace Xc9
def c:=Yap (Yaf Proofs.Tryz.f63) [1,0,1,0,0]
def sp:SP:=⟨[(0,.seg 0 []),(1,.cs I64),(5,.cs I64)],[(0,.reg,.cd (.sl Xb))]⟩
def fr:=Yja sp (fun x s=>Xc9.B  s.1 s.2.1 s.2.2) (fun x=>(x.1.2.1,x.1.2.2.1,x.2.1)) fun x (bb0:Int×List Xa) _ kk0=>kk0 (.ex 0) ⟨[(1,.cs I64 bb0.1)],[sr 0 (.cd (.sl Xb) bb0.2)]⟩
theorem ok:Ya7 PR 48 2 (.loop c) fr:=
 Yxo Xe Xf h0 (G:=Xe9.G) Xe9.Gok [(0,([1],[0]))] (fun x s=>((x.1.1,s.1,s.2.1,x.1.2.2.2),(s.2.2,x.2.2)))
  (fun x s=>by simp only[B,mC,mB,mS,mO,mN];kernel_rfl)
end Xc9
namespace Xe9
def pts:List PT:=[.cd (.sl Xb),.cs I64]
def FS:FS:=Ybk [.mu,.sh] pts (fun x=>Xe9 x.1 x.2.1) fun t=>⟨[.cs I64 t.1],[.cd (.sl Xb) t.2]⟩
theorem ok:Yb2 PR 63 FS:=
 Yxn Xe Xf Proofs.Tryz.f63 h0 (.R (.L (.R (.one (.fr 0))))) (G:=G) Gok (L:=mkL [(0,Xc9.fr)]) (l:=[(0,.loop Xc9.c)]) ⟨Lam.cons Xc9.ok,trivial⟩
  (fun x=>by simp only[Xe9,mC,mB,mS,mO,mN];kernel_rfl)
end Xe9
def Xc6.B (k_:Int) (i_:Int) (a_:List Int):Option ((Int×Int×List Int)⊕(Int×List Int)):=
 cond (decide (i_<(a_.length:Int))) (cond (inB i_ a_.length) (some (.inl (w64 (k_+1),w64 (i_+1),a_.set i_.toNat (IntKind.u8.wrap k_)))) none) (some (.inr (k_,a_)))
def Xc6 :(Int×Int×List Int)→Option (Int×List Int):=
 Y9 fun s=>Xc6.B s.1 s.2.1 s.2.2
def Xic (a:List Int) (k:Int):Option (Int×List Int):=
 (Xc6 (k,0,a)).bind fun o=>some (o.1,o.2)
namespace Xc6
def c:=Yap (Yaf Proofs.Tryz.f128) [1,0,1,0,0]
def sp:SP:=⟨[(0,.seg 0 []),(1,.cs I64),(5,.cs I64)],[(0,.reg,.cd SB)]⟩
def fr:=Yja sp (fun x s=>Xc6.B  s.1 s.2.1 s.2.2) (fun x=>(x.1.2.1,x.1.2.2.1,x.2.1)) fun x (bb0:Int×List Int) _ kk0=>kk0 (.ex 0) ⟨[(1,.cs I64 bb0.1)],[sr 0 (.cd SB bb0.2)]⟩
theorem ok:Ya7 PR 20 2 (.loop c) fr:=
 Yxd Xe Xf h0 [(0,([1],[0]))] (fun x s=>((x.1.1,s.1,s.2.1,x.1.2.2.2),(s.2.2,x.2.2)))
  (fun x s=>by simp only[B,mC,mB,mS,mO,mN];kernel_rfl)
end Xc6
namespace Xic
def pts:List PT:=[.cd SB,.cs I64]
def FS:FS:=Ybk [.mu,.sh] pts (fun x=>Xic x.1 x.2.1) fun t=>⟨[.cs I64 t.1],[.cd SB t.2]⟩
theorem ok:Yb2 PR 128 FS:=
 Yxn Xe Xf Proofs.Tryz.f128 h0 (.R (.L (.R (.one (.fr 0))))) (G:=(mkG [])) .nil (L:=mkL [(0,Xc6.fr)]) (l:=[(0,.loop Xc6.c)]) ⟨Lam.cons Xc6.ok,trivial⟩
  (fun x=>by simp only[Xic,mC,mB,mS,mO,mN];kernel_rfl)
end Xic
def Xcj.B (k_:Int) (i_:Int) (a_:List (List Int)):Option ((Int×Int×List (List Int))⊕(Int×List (List Int))):=
 cond (decide (i_<(a_.length:Int))) (cond (inB i_ a_.length) ((Xic (a_.getD i_.toNat []) k_).bind fun r=>some (.inl (r.1,w64 (i_+1),a_.set i_.toNat r.2))) none) (some (.inr (k_,a_)))
def Xcj :(Int×Int×List (List Int))→Option (Int×List (List Int)):=
 Y9 fun s=>Xcj.B s.1 s.2.1 s.2.2
def Xfj (a:List (List Int)) (k:Int):Option (Int×List (List Int)):=
 (Xcj (k,0,a)).bind fun o=>some (o.1,o.2)
namespace Xfj
def G:Gam:=mkG [(128,Xic.FS)]
theorem Gok:GOk PR G:=.cons Xic.ok .nil
end Xfj
namespace Xcj
def c:=Yap (Yaf Proofs.Tryz.f64) [1,0,1,0,0]
def sp:SP:=⟨[(0,.seg 0 []),(1,.cs I64),(5,.cs I64)],[(0,.reg,.cd (.sl SB))]⟩
def fr:=Yja sp (fun x s=>Xcj.B  s.1 s.2.1 s.2.2) (fun x=>(x.1.2.1,x.1.2.2.1,x.2.1)) fun x (bb0:Int×List (List Int)) _ kk0=>kk0 (.ex 0) ⟨[(1,.cs I64 bb0.1)],[sr 0 (.cd (.sl SB) bb0.2)]⟩
theorem ok:Ya7 PR 19 2 (.loop c) fr:=
 Yxo Xe Xf h0 (G:=Xfj.G) Xfj.Gok [(0,([1],[0]))] (fun x s=>((x.1.1,s.1,s.2.1,x.1.2.2.2),(s.2.2,x.2.2)))
  (fun x s=>by simp only[B,mC,mB,mS,mO,mN];kernel_rfl)
end Xcj
namespace Xfj
def pts:List PT:=[.cd (.sl SB),.cs I64]
def FS:FS:=Ybk [.mu,.sh] pts (fun x=>Xfj x.1 x.2.1) fun t=>⟨[.cs I64 t.1],[.cd (.sl SB) t.2]⟩
theorem ok:Yb2 PR 64 FS:=
 Yxn Xe Xf Proofs.Tryz.f64 h0 (.R (.L (.R (.one (.fr 0))))) (G:=G) Gok (L:=mkL [(0,Xcj.fr)]) (l:=[(0,.loop Xcj.c)]) ⟨Lam.cons Xcj.ok,trivial⟩
  (fun x=>by simp only[Xfj,mC,mB,mS,mO,mN];kernel_rfl)
end Xfj
def Xgo (a:Fs_) (k:Int):Option (Int×Fs_):=
 (Xe9 a.1 k).bind fun r=>(Xfj a.2.1 r.1).bind fun r2=>some (r2.1,(r.2,r2.2,a.2.2))
namespace Xgo
def G:Gam:=mkG [(63,Xe9.FS),(64,Xfj.FS)]
def pts:List PT:=[.cd Xo,.cs I64]
def FS:FS:=Ybk [.mu,.sh] pts (fun x=>Xgo x.1 x.2.1) fun t=>⟨[.cs I64 t.1],[.cd Xo t.2]⟩
theorem ok:Yb2 PR 17 FS:=
 Yxn Xe Xf Proofs.Tryz.f17 ⟨[2],[],[],0⟩ .no (G:=G) (show GOk PR G from .cons Xe9.ok (.cons Xfj.ok .nil)) (L:=mkL []) (l:=[]) hT
  (fun x=>by simp only[Xgo,mC,mB,mS,mO,mN];kernel_rfl)
end Xgo
def Xh9 (a:Xz) (k:Int):Option (Int×Xz):=
 (Xcz (a.1.1,a.1.2.1,a.1.2.2) k).bind fun r=>(Xgo (a.2.1.1,a.2.1.2.1,a.2.1.2.2) r.1).bind fun r2=>(Xgo (a.2.2.1.1,a.2.2.1.2.1,a.2.2.1.2.2) r2.1).bind fun r3=>some (r3.1,((r.2.1,r.2.2.1,a.1.2.2),(r2.2.1,r2.2.2.1,a.2.1.2.2),(r3.2.1,r3.2.2.1,a.2.2.1.2.2),a.2.2.2))
namespace Xh9
def G:Gam:=mkG [(16,Xcz.FS),(17,Xgo.FS)]
def pts:List PT:=[.cd Xp,.cs I64]
def FS:FS:=Ybk [.mu,.sh] pts (fun x=>Xh9 x.1 x.2.1) fun t=>⟨[.cs I64 t.1],[.cd Xp t.2]⟩
theorem ok:Yb2 PR 33 FS:=
 Yxn Xe Xf Proofs.Tryz.f33 ⟨[2],[],[],0⟩ .no (G:=G) (show GOk PR G from .cons Xcz.ok (.cons Xgo.ok .nil)) (L:=mkL []) (l:=[]) hT
  (fun x=>by simp only[Xh9,mC,mB,mS,mO,mN];kernel_rfl)
end Xh9
def Xcy.B (k_:Int) (i_:Int) (a_:List Bool):Option ((Int×Int×List Bool)⊕(Int×List Bool)):=
 cond (decide (i_<(a_.length:Int))) (cond (!((3:Int) == 0)) (cond (inB i_ a_.length) (some (.inl (w64 (k_+1),w64 (i_+1),a_.set i_.toNat ((k_.tmod 3) == 0)))) none) none) (some (.inr (k_,a_)))
def Xcy :(Int×Int×List Bool)→Option (Int×List Bool):=
 Y9 fun s=>Xcy.B s.1 s.2.1 s.2.2
def Xiw (a:List Bool) (k:Int):Option (Int×List Bool):=
 (Xcy (k,0,a)).bind fun o=>some (o.1,o.2)
namespace Xcy
def c:=Yap (Yaf Proofs.Tryz.f34) [1,0,1,0,0]
def sp:SP:=⟨[(0,.seg 0 []),(1,.cs I64),(5,.cs I64)],[(0,.reg,.cd (.sl .bool))]⟩
def fr:=Yja sp (fun x s=>Xcy.B  s.1 s.2.1 s.2.2) (fun x=>(x.1.2.1,x.1.2.2.1,x.2.1)) fun x (bb0:Int×List Bool) _ kk0=>kk0 (.ex 0) ⟨[(1,.cs I64 bb0.1)],[sr 0 (.cd (.sl .bool) bb0.2)]⟩
theorem ok:Ya7 PR 21 2 (.loop c) fr:=
 Yxd Xe Xf h0 [(0,([1],[0]))] (fun x s=>((x.1.1,s.1,s.2.1,x.1.2.2.2),(s.2.2,x.2.2)))
  (fun x s=>by simp only[B,mC,mB,mS,mO,mN];kernel_rfl)
end Xcy
namespace Xiw
def pts:List PT:=[.cd (.sl .bool),.cs I64]
def FS:FS:=Ybk [.mu,.sh] pts (fun x=>Xiw x.1 x.2.1) fun t=>⟨[.cs I64 t.1],[.cd (.sl .bool) t.2]⟩
theorem ok:Yb2 PR 34 FS:=
 Yxn Xe Xf Proofs.Tryz.f34 h0 (.R (.L (.R (.one (.fr 0))))) (G:=(mkG [])) .nil (L:=mkL [(0,Xcy.fr)]) (l:=[(0,.loop Xcy.c)]) ⟨Lam.cons Xcy.ok,trivial⟩
  (fun x=>by simp only[Xiw,mC,mB,mS,mO,mN];kernel_rfl)
end Xiw
def Xig (a:Xn) (k:Int):Option (Int×Xn):=
 (Xcz (a.2.1.1,a.2.1.2.1,a.2.1.2.2) k).bind fun r=>some (r.1,(a.1,(r.2.1,r.2.2.1,a.2.1.2.2),a.2.2))
namespace Xig
def G:Gam:=mkG [(16,Xcz.FS)]
def pts:List PT:=[.cd Xk,.cs I64]
def FS:FS:=Ybk [.mu,.sh] pts (fun x=>Xig x.1 x.2.1) fun t=>⟨[.cs I64 t.1],[.cd Xk t.2]⟩
theorem ok:Yb2 PR 35 FS:=
 Yxn Xe Xf Proofs.Tryz.f35 ⟨[2],[],[],0⟩ .no (G:=G) (show GOk PR G from .cons Xcz.ok .nil) (L:=mkL []) (l:=[]) hT
  (fun x=>by simp only[Xig,mC,mB,mS,mO,mN];kernel_rfl)
end Xig
def Xc2.B (a:List Int) (k_:Int) (i_:Int):Option ((Int×Int)⊕((Int⊕Int))):=
 cond (decide (i_<(a.length:Int))) (cond (inB i_ a.length) (cond ((a.getD i_.toNat 0) != k_) (some (.inr (.inl (-1)))) (some (.inl (w64 (k_+1),w64 (i_+1))))) none) (some (.inr (.inr k_)))
def Xc2 (a:List Int):(Int×Int)→Option ((Int⊕Int)):=
 Y9 fun s=>Xc2.B a s.1 s.2
def Xgg (a:List Int) (k:Int):Option Int:=
 (Xc2 a (k,0)).bind fun o=>sel o (fun b=>some b) (fun c=>some c)
namespace Xc2
def c:=Yap (Yaf Proofs.Tryz.f73) [1,0,1,0,0]
def sp:SP:=⟨[(0,.cs SI),(1,.cs I64),(5,.cs I64)],[]⟩
def fr:=Yja sp (fun x s=>Xc2.B x.1.1 s.1 s.2) (fun x=>(x.1.2.1,x.1.2.2.1)) fun x (oo0:(Int⊕Int)) _ kk0=>sel oo0 (fun bb0=>kk0 (.rt) ⟨[(4,.cs I64 bb0)],[]⟩) (fun cc0=>kk0 (.ex 0) ⟨[(1,.cs I64 cc0)],[]⟩)
theorem ok:Ya7 PR 21 2 (.loop c) fr:=
 Yt2 Xe Xf h0 .no (G:=(mkG [])) .nil (L:=mkL []) (l:=[]) hT [(0,([1],[]))] ([4],[]) (fun x s=>((x.1.1,s.1,s.2,x.1.2.2.2),x.2))
  (fun x s=>by simp only[B,mC,mB,mS,mO,mN];kernel_rfl)
end Xc2
namespace Xgg
def pts:List PT:=[.cs SI,.cs I64]
def FS:FS:=Ybk [.sh,.sh] pts (fun x=>Xgg x.1 x.2.1) fun t=>⟨[.cs I64 t],[]⟩
theorem ok:Yb2 PR 73 FS:=
 Yxn Xe Xf Proofs.Tryz.f73 h0 (.R (.L (.R (.one (.fr 0))))) (G:=(mkG [])) .nil (L:=mkL [(0,Xc2.fr)]) (l:=[(0,.loop Xc2.c)]) ⟨Lam.cons Xc2.ok,trivial⟩
  (fun x=>by simp only[Xgg,mC,mB,mS,mO,mN];kernel_rfl)
end Xgg
def Xcq.B (a:List (List Int)) (k_:Int) (i_:Int):Option ((Int×Int)⊕((Int⊕Int))):=
 cond (decide (i_<(a.length:Int))) (cond (inB i_ a.length) ((Xgg (a.getD i_.toNat []) k_).bind fun r=>cond (decide (r<0)) (some (.inr (.inl (-1)))) (some (.inl (r,w64 (i_+1))))) none) (some (.inr (.inr k_)))
def Xcq (a:List (List Int)):(Int×Int)→Option ((Int⊕Int)):=
 Y9 fun s=>Xcq.B a s.1 s.2
def Xfi (a:List (List Int)) (k:Int):Option Int:=
 (Xcq a (k,0)).bind fun o=>sel o (fun b=>some b) (fun c=>some c)
namespace Xfi
def G:Gam:=mkG [(73,Xgg.FS)]
theorem Gok:GOk PR G:=.cons Xgg.ok .nil
end Xfi
namespace Xcq
def c:=Yap (Yaf Proofs.Tryz.f153) [1,0,1,0,0]
def sp:SP:=⟨[(0,.cs (.sl SI)),(1,.cs I64),(5,.cs I64)],[]⟩
def fr:=Yja sp (fun x s=>Xcq.B x.1.1 s.1 s.2) (fun x=>(x.1.2.1,x.1.2.2.1)) fun x (oo0:(Int⊕Int)) _ kk0=>sel oo0 (fun bb0=>kk0 (.rt) ⟨[(4,.cs I64 bb0)],[]⟩) (fun cc0=>kk0 (.ex 0) ⟨[(1,.cs I64 cc0)],[]⟩)
theorem ok:Ya7 PR 21 2 (.loop c) fr:=
 Yt2 Xe Xf h0 .no (G:=Xfi.G) Xfi.Gok (L:=mkL []) (l:=[]) hT [(0,([1],[]))] ([4],[]) (fun x s=>((x.1.1,s.1,s.2,x.1.2.2.2),x.2))
  (fun x s=>by simp only[B,mC,mB,mS,mO,mN];kernel_rfl)
end Xcq
namespace Xfi
def pts:List PT:=[.cs (.sl SI),.cs I64]
def FS:FS:=Ybk [.sh,.sh] pts (fun x=>Xfi x.1 x.2.1) fun t=>⟨[.cs I64 t],[]⟩
theorem ok:Yb2 PR 153 FS:=
 Yxn Xe Xf Proofs.Tryz.f153 h0 (.R (.L (.R (.one (.fr 0))))) (G:=G) Gok (L:=mkL [(0,Xcq.fr)]) (l:=[(0,.loop Xcq.c)]) ⟨Lam.cons Xcq.ok,trivial⟩
  (fun x=>by simp only[Xfi,mC,mB,mS,mO,mN];kernel_rfl)
end Xfi
def Xc3.B (a:List Xj) (k_:Int) (i_:Int):Option ((Int×Int)⊕((Int⊕Int))):=
 cond (decide (i_<(a.length:Int))) (cond (inB i_ a.length) (cond ((a.getD i_.toNat Xt).1 != k_) (some (.inr (.inl (-1)))) (cond (inB i_ a.length) ((Xgg (a.getD i_.toNat Xt).2.1 (w64 (k_+1))).bind fun r=>cond (decide (r<0)) (some (.inr (.inl (-1)))) (some (.inl (r,w64 (i_+1))))) none)) none) (some (.inr (.inr k_)))
def Xc3 (a:List Xj):(Int×Int)→Option ((Int⊕Int)):=
 Y9 fun s=>Xc3.B a s.1 s.2
def Xe4 (a:List Xj) (k:Int):Option Int:=
 (Xc3 a (k,0)).bind fun o=>sel o (fun b=>some b) (fun c=>some c)
namespace Xe4
def G:Gam:=mkG [(73,Xgg.FS)]
theorem Gok:GOk PR G:=.cons Xgg.ok .nil
end Xe4
namespace Xc3
def c:=Yap (Yaf Proofs.Tryz.f154) [1,0,1,0,0]
def sp:SP:=⟨[(0,.cs (.sl Xl)),(1,.cs I64),(5,.cs I64)],[]⟩
def fr:=Yja sp (fun x s=>Xc3.B x.1.1 s.1 s.2) (fun x=>(x.1.2.1,x.1.2.2.1)) fun x (oo0:(Int⊕Int)) _ kk0=>sel oo0 (fun bb0=>kk0 (.rt) ⟨[(4,.cs I64 bb0)],[]⟩) (fun cc0=>kk0 (.ex 0) ⟨[(1,.cs I64 cc0)],[]⟩)
theorem ok:Ya7 PR 31 2 (.loop c) fr:=
 Yt2 Xe Xf h0 .no (G:=Xe4.G) Xe4.Gok (L:=mkL []) (l:=[]) hT [(0,([1],[]))] ([4],[]) (fun x s=>((x.1.1,s.1,s.2,x.1.2.2.2),x.2))
  (fun x s=>by simp only[B,mC,mB,mS,mO,mN];kernel_rfl)
end Xc3
namespace Xe4
def pts:List PT:=[.cs (.sl Xl),.cs I64]
def FS:FS:=Ybk [.sh,.sh] pts (fun x=>Xe4 x.1 x.2.1) fun t=>⟨[.cs I64 t],[]⟩
theorem ok:Yb2 PR 154 FS:=
 Yxn Xe Xf Proofs.Tryz.f154 h0 (.R (.L (.R (.one (.fr 0))))) (G:=G) Gok (L:=mkL [(0,Xc3.fr)]) (l:=[(0,.loop Xc3.c)]) ⟨Lam.cons Xc3.ok,trivial⟩
  (fun x=>by simp only[Xe4,mC,mB,mS,mO,mN];kernel_rfl)
end Xe4
def Xhg (a:Xd) (k:Int):Option Int:=
 (Xfi a.1 k).bind fun r=>cond (decide (r<0)) (some (-1)) ((Xe4 a.2.1 r).bind fun r2=>cond (decide (r2<0)) (some (-1)) (some r2))
namespace Xhg
def G:Gam:=mkG [(153,Xfi.FS),(154,Xe4.FS)]
def pts:List PT:=[.cs Xh,.cs I64]
def FS:FS:=Ybk [.sh,.sh] pts (fun x=>Xhg x.1 x.2.1) fun t=>⟨[.cs I64 t],[]⟩
theorem ok:Yb2 PR 78 FS:=
 Yxn Xe Xf Proofs.Tryz.f78 ⟨[2],[],[],0⟩ .no (G:=G) (show GOk PR G from .cons Xfi.ok (.cons Xe4.ok .nil)) (L:=mkL []) (l:=[]) hT
  (fun x=>by simp only[Xhg,mC,mB,mS,mO,mN];kernel_rfl)
end Xhg
def Xhk (a:Xn) (k:Int):Option Int:=
 (Xhg a.2.1 k).bind fun r=>cond (decide (r<0)) (some (-1)) (some r)
namespace Xhk
def G:Gam:=mkG [(78,Xhg.FS)]
def pts:List PT:=[.cs Xk,.cs I64]
def FS:FS:=Ybk [.sh,.sh] pts (fun x=>Xhk x.1 x.2.1) fun t=>⟨[.cs I64 t],[]⟩
theorem ok:Yb2 PR 36 FS:=
 Yxn Xe Xf Proofs.Tryz.f36 ⟨[2],[],[],0⟩ .no (G:=G) (show GOk PR G from .cons Xhg.ok .nil) (L:=mkL []) (l:=[]) hT
  (fun x=>by simp only[Xhk,mC,mB,mS,mO,mN];kernel_rfl)
end Xhk
def Xkk (aW:Xz) (aSteps:Int) (aPicks:List Bool):Option Bool:=
 cond (decide ((aPicks.length:Int)>1048576)) (some true) ((Xm6 aW 1048576).bind fun r=>cond (decide (r<0)) (some true) ((Xk8 aW).bind fun r2=>(Xk3 aPicks).bind fun r3=>(Xhi ((r2.1.1,r2.1.2.1,r2.1.2.2),(r2.2.1.1,r2.2.1.2.1,r2.2.1.2.2),(r2.2.2.1.1,r2.2.2.1.2.1,r2.2.2.1.2.2),r2.2.2.2) aSteps r3).bind fun r4=>(Xk8 aW).bind fun r5=>(Xk3 aPicks).bind fun r6=>(Xgw ((r5.1.1,r5.1.2.1,r5.1.2.2),(r5.2.1.1,r5.2.1.2.1,r5.2.1.2.2),(r5.2.2.1.1,r5.2.2.1.2.1,r5.2.2.1.2.2),r5.2.2.2) aSteps r6).bind fun r7=>(Xgp (r7.1,(r7.2.1.1,r7.2.1.2.1,r7.2.1.2.2),r7.2.2) (r4.1,(r4.2.1.1,r4.2.1.2.1,r4.2.1.2.2),r4.2.2)).bind fun r8=>cond (!r8) (some false) ((Xk8 aW).bind fun r9=>(Xif ((r5.1.1,r5.1.2.1,r5.1.2.2),(r5.2.1.1,r5.2.1.2.1,r5.2.1.2.2),(r5.2.2.1.1,r5.2.2.1.2.1,r5.2.2.1.2.2),r5.2.2.2) ((r9.1.1,r9.1.2.1,r9.1.2.2),(r9.2.1.1,r9.2.1.2.1,r9.2.1.2.2),(r9.2.2.1.1,r9.2.2.1.2.1,r9.2.2.1.2.2),r9.2.2.2)).bind fun r10=>cond (!r10) (some false) ((Xk3 aPicks).bind fun r11=>(Xii r6 r11).bind fun r12=>cond (!r12) (some false) ((Xh9 ((r5.1.1,r5.1.2.1,r5.1.2.2),(r5.2.1.1,r5.2.1.2.1,r5.2.1.2.2),(r5.2.2.1.1,r5.2.2.1.2.1,r5.2.2.1.2.2),r5.2.2.2) 1).bind fun r13=>(Xiw r6 r13.1).bind fun r14=>cond (decide (r14.1<0)) (some false) ((Xgp (r7.1,(r7.2.1.1,r7.2.1.2.1,r7.2.1.2.2),r7.2.2) (r4.1,(r4.2.1.1,r4.2.1.2.1,r4.2.1.2.2),r4.2.2)).bind fun r15=>cond (!r15) (some false) ((Xig (r7.1,(r7.2.1.1,r7.2.1.2.1,r7.2.1.2.2),r7.2.2) 1).bind fun r16=>(Xhk (r7.1,(r16.2.2.1.1,r16.2.2.1.2.1,r7.2.1.2.2),r7.2.2) 1).bind fun r17=>cond (decide (r17<0)) (some false) (cond (r17 != r16.1) (some false) ((Xk8 aW).bind fun r18=>(Xk3 aPicks).bind fun r19=>(Xgw ((r18.1.1,r18.1.2.1,r18.1.2.2),(r18.2.1.1,r18.2.1.2.1,r18.2.1.2.2),(r18.2.2.1.1,r18.2.2.1.2.1,r18.2.2.1.2.2),r18.2.2.2) aSteps r19).bind fun r20=>(Xgp (r20.1,(r20.2.1.1,r20.2.1.2.1,r20.2.1.2.2),r20.2.2) (r4.1,(r4.2.1.1,r4.2.1.2.1,r4.2.1.2.2),r4.2.2)).bind fun r21=>cond (!r21) (some false) ((Xhk (r7.1,(r16.2.2.1.1,r16.2.2.1.2.1,r7.2.1.2.2),r7.2.2) 1).bind fun r22=>cond (decide (r22<0)) (some false) (cond (r22 != r16.1) (some false) (some true))))))))))))
namespace Xkk
def G:Gam:=mkG [(25,Xm6.FS),(27,Xk8.FS),(28,Xk3.FS),(26,Xhi.FS),(29,Xgw.FS),(30,Xgp.FS),(31,Xif.FS),(32,Xii.FS),(33,Xh9.FS),(34,Xiw.FS),(35,Xig.FS),(36,Xhk.FS)]
def pts:List PT:=[.cs Xp,.cs I64,.cs (.sl .bool)]
def FS:FS:=Ybk [.sh,.sh,.sh] pts (fun x=>Xkk x.1 x.2.1 x.2.2.1) fun t=>⟨[.cs .bool t],[]⟩
theorem ok:Yb2 PR 5 FS:=
 Yxn Xe Xf Proofs.Tryz.f5 ⟨[3],[],[],0⟩ .no (G:=G) (show GOk PR G from .cons Xm6.ok (.cons Xk8.ok (.cons Xk3.ok (.cons Xhi.ok (.cons Xgw.ok (.cons Xgp.ok (.cons Xif.ok (.cons Xii.ok (.cons Xh9.ok (.cons Xiw.ok (.cons Xig.ok (.cons Xhk.ok .nil)))))))))))) (L:=mkL []) (l:=[]) hT
  (fun x=>by simp only[Xkk,mC,mB,mS,mO,mN];kernel_rfl)
end Xkk
end Mf
