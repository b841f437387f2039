import Derived.Test.YtmgbiodgebigeaaGreatSyncWorldA1
set_option linter.unusedVariables false
set_option linter.unusedSimpArgs false
noncomputable section
namespace Mf
open Go
set_option maxRecDepth 100000
def Xc5.B (v5:List Int) (v11:Int) (v12:List Int) (v13:Int) (v14:Int) (v15:List Int) (v8:Int) (v16:Int) (v9:Bool) (v10:List Int) (v17:Int) (v6:Xa) (v7:Xa) (v18:Int) (v19:Xg):Option ((Int×Xg)⊕(((Bool×Xa)⊕Xg))):=
 cond (decide (v18<v17)) (cond (inB v18 v10.length) (cond (decide ((v10.getD v18.toNat 0)>255)) (some (.inr (.inl (false,(0,0,0,[],[],()))))) ((some (([IntKind.u8.wrap (v10.getD v18.toNat 0)]).map fun n=>UInt8.ofNat n.toNat)).bind fun v20=>cond (decide (v19.1.length+v20.length≤2147483648)) (some (.inl (w64 (v18+1),(v19.1++v20,v19.2)))) none)) none) (some (.inr (.inr v19)))
def Xc5 (v5:List Int) (v11:Int) (v12:List Int) (v13:Int) (v14:Int) (v15:List Int) (v8:Int) (v16:Int) (v9:Bool) (v10:List Int) (v17:Int) (v6:Xa) (v7:Xa):(Int×Xg)→Option (((Bool×Xa)⊕Xg)):=
 Yaj fun s=>Xc5.B v5 v11 v12 v13 v14 v15 v8 v16 v9 v10 v17 v6 v7 s.1 s.2
def Xbn.B (v6:Xa) (v5:List Int) (v7:Xa):Option (((List Int)×Xa)⊕(((Bool×Xa)⊕Xa))):=
 cond (decide ((v5.length:Int)>0)) (cond (decide ((v5.length:Int)<2)) (some (.inr (.inl (false,(0,0,0,[],[],()))))) (cond (inB 1 v5.length) ((Xca v5).bind fun v8=>(some (decide ((v5.getD (1:Int).toNat 0)>(w64 (v8-2))))).bind fun v9=>cond v9 (some (.inr (.inl (false,(0,0,0,[],[],()))))) (cond (inB 1 v5.length) (cond (inB 0 v5.length) (cond (decide ((0:Int)≤(w64 ((2:Int)+(v5.getD (1:Int).toNat 0))))&&decide ((w64 ((2:Int)+(v5.getD (1:Int).toNat 0)))≤(v5.length:Int))&&(decide ((0:Int)≤(2:Int))&&decide ((2:Int)≤(w64 ((2:Int)+(v5.getD (1:Int).toNat 0)))))) ((some ((v5.take ((w64 ((2:Int)+(v5.getD (1:Int).toNat 0))).toNat)).drop ((2:Int).toNat))).bind fun v10=>(Xc5 v5 (w64 ((2:Int)+(v5.getD (1:Int).toNat 0))) v5 (v5.getD (1:Int).toNat 0) (v5.getD (1:Int).toNat 0) v5 v8 (w64 (v8-2)) v9 v10 (v10.length:Int) v6 v7 (0,([],v5.getD (0:Int).toNat 0,()))).bind fun v21=>sel v21 (fun v22=>some (.inr (.inl (v22.1,v22.2)))) (fun v23=>cond (decide ((v7.2.2.2.2.1++([v23])).length≤2147483648)) (cond (decide ((0:Int)≤(w64 ((2:Int)+(v5.getD (1:Int).toNat 0))))&&decide ((w64 ((2:Int)+(v5.getD (1:Int).toNat 0)))≤(v5.length:Int))) ((some ((v5.take v5.length).drop ((w64 ((2:Int)+(v5.getD (1:Int).toNat 0))).toNat))).bind fun v24=>some (.inl (v24,(v7.1,v7.2.1,v7.2.2.1,v7.2.2.2.1,v7.2.2.2.2.1++([v23]),v7.2.2.2.2.2)))) none) none)) none) none) none)) none)) (some (.inr (.inr v7)))
def Xbn (v6:Xa):((List Int)×Xa)→Option (((Bool×Xa)⊕Xa)):=
 Yaj fun s=>Xbn.B v6 s.1 s.2
def Xb8 (v:List Int):Option (Xa×Bool):=
 cond (decide ((v.length:Int)<3)) (some ((0,0,0,[],[],()),false)) (cond (inB 0 v.length) (cond (inB 1 v.length) (cond (inB 2 v.length) (cond (decide ((0:Int)≤(3:Int))&&decide ((3:Int)≤(v.length:Int))) (cond ((v.getD (0:Int).toNat 0) != 2) ((Xak ((v.take v.length).drop ((3:Int).toNat))).bind fun v2=>some ((v.getD (0:Int).toNat 0,v.getD (1:Int).toNat 0,v.getD (2:Int).toNat 0,v2,[],()),true)) ((some (((v.take v.length).drop ((3:Int).toNat)).length:Int)).bind fun v3=>cond (v3 == 0) (some ((0,0,0,[],[],()),false)) (cond (decide ((0:Int)≤(1:Int))&&decide ((1:Int)≤(((v.take v.length).drop ((3:Int).toNat)).length:Int))) ((some ((((v.take v.length).drop ((3:Int).toNat)).take (((v.take v.length).drop ((3:Int).toNat)).length)).drop ((1:Int).toNat))).bind fun v4=>(Xbn (0,0,0,[],[],()) (v4,(v.getD (0:Int).toNat 0,v.getD (1:Int).toNat 0,v.getD (2:Int).toNat 0,[],[],()))).bind fun v25=>sel v25 (fun v26=>some ((v26.2.1,v26.2.2.1,v26.2.2.2.1,v26.2.2.2.2.1,v26.2.2.2.2.2.1,v26.2.2.2.2.2.2),v26.1)) (fun v27=>some ((v27.1,v27.2.1,v27.2.2.1,v27.2.2.2.1,v27.2.2.2.2.1,v27.2.2.2.2.2),true))) none))) none) none) none) none)
namespace Xb8
def G:Gam:=mkG [(63,Xak.FS),(126,Xca.FS)]
theorem Gok:GOk PR G:=.cons Xak.ok (.cons Xca.ok .nil)
end Xb8
namespace Xc5
def c:=Yao (Yai Proofs.Tryz.f174) [1,1,1,1,1,1,0,1,0,0,1,0,1,1,1,0,1,0,0]
def sp:SP:=⟨[(0,.cs SI),(2,.loc 2 []),(4,.loc 4 []),(5,.cs I64),(6,.loc 6 []),(45,.cs SI),(46,.pt I64),(47,.cs I64),(48,.cs SI),(49,.cs I64),(50,.cs I64),(51,.cs .bool),(64,.cs SI),(65,.cs I64),(66,.cs I64)],[(2,.mem,.cd Xc),(4,.mem,.cd Xc),(6,.mem,.cd Xi)]⟩
def fr:=Yh3 sp (fun x s=>Xc5.B x.1.1 x.1.2.2.2.1 x.1.2.2.2.2.2.1 x.1.2.2.2.2.2.2.1 x.1.2.2.2.2.2.2.2.1 x.1.2.2.2.2.2.2.2.2.1 x.1.2.2.2.2.2.2.2.2.2.1 x.1.2.2.2.2.2.2.2.2.2.2.1 x.1.2.2.2.2.2.2.2.2.2.2.2.1 x.1.2.2.2.2.2.2.2.2.2.2.2.2.1 x.1.2.2.2.2.2.2.2.2.2.2.2.2.2.1 x.2.1 x.2.2.1 s.1 s.2) (fun x=>(x.1.2.2.2.2.2.2.2.2.2.2.2.2.2.2.1,x.2.2.2.1)) fun x (oo0:((Bool×Xa)⊕Xg)) _ kk0=>sel oo0 (fun bb0=>kk0 (.rt) ⟨[(2,.loc 2 []),(3,.cs .bool bb0.1)],[(2,some ⟨.mem,.cd Xc bb0.2⟩)]⟩) (fun cc0=>kk0 (.ex 2) ⟨[(0,.cs SI x.1.1),(2,.loc 2 []),(4,.loc 4 []),(5,.cs I64 x.1.2.2.2.1),(6,.loc 6 []),(45,.cs SI x.1.2.2.2.2.2.1),(46,.pt I64 x.1.2.2.2.2.2.2.1),(47,.cs I64 x.1.2.2.2.2.2.2.2.1),(48,.cs SI x.1.2.2.2.2.2.2.2.2.1),(49,.cs I64 x.1.2.2.2.2.2.2.2.2.2.1),(50,.cs I64 x.1.2.2.2.2.2.2.2.2.2.2.1),(51,.cs .bool x.1.2.2.2.2.2.2.2.2.2.2.2.1)],[(2,some ⟨.mem,.cd Xc x.2.1⟩),(4,some ⟨.mem,.cd Xc x.2.2.1⟩),(6,some ⟨.mem,.cd Xi cc0⟩)]⟩)
theorem ok:Ya9 PR 92 1 (.loop c) fr:=
 Yuz Xe Xf h0 .no (G:=Xb8.G) Xb8.Gok (L:=mkL []) (l:=[]) hT [0,2,4,5,6,45,46,47,48,49,50,51,64,65,66] [2,4,6] [(2,([0,2,4,5,6,45,46,47,48,49,50,51],[2,4,6]))] ([2,3],[2]) (fun x s=>B x.1.1 x.1.2.2.2.1 x.1.2.2.2.2.2.1 x.1.2.2.2.2.2.2.1 x.1.2.2.2.2.2.2.2.1 x.1.2.2.2.2.2.2.2.2.1 x.1.2.2.2.2.2.2.2.2.2.1 x.1.2.2.2.2.2.2.2.2.2.2.1 x.1.2.2.2.2.2.2.2.2.2.2.2.1 x.1.2.2.2.2.2.2.2.2.2.2.2.2.1 x.1.2.2.2.2.2.2.2.2.2.2.2.2.2.1 x.2.1 x.2.2.1 s.1 s.2) (fun x s=>⟨[(0,.cs SI x.1.1),(2,.loc 2 []),(4,.loc 4 []),(5,.cs I64 x.1.2.2.2.1),(6,.loc 6 []),(45,.cs SI x.1.2.2.2.2.2.1),(46,.pt I64 x.1.2.2.2.2.2.2.1),(47,.cs I64 x.1.2.2.2.2.2.2.2.1),(48,.cs SI x.1.2.2.2.2.2.2.2.2.1),(49,.cs I64 x.1.2.2.2.2.2.2.2.2.2.1),(50,.cs I64 x.1.2.2.2.2.2.2.2.2.2.2.1),(51,.cs .bool x.1.2.2.2.2.2.2.2.2.2.2.2.1),(64,.cs SI x.1.2.2.2.2.2.2.2.2.2.2.2.2.1),(65,.cs I64 x.1.2.2.2.2.2.2.2.2.2.2.2.2.2.1),(66,.cs I64 s.1)],[(2,some ⟨.mem,.cd Xc x.2.1⟩),(4,some ⟨.mem,.cd Xc x.2.2.1⟩),(6,some ⟨.mem,.cd Xi s.2⟩)]⟩) (fun x=>(x.1.2.2.2.2.2.2.2.2.2.2.2.2.2.2.1,x.2.2.2.1))
  (fun x s=>by simp only[B,mC,mB,mS,mO,mN];kernel_rfl)
end Xc5
namespace Xbn
def c:=Yao (Yai Proofs.Tryz.f174) [1,1,1,1,1,1,0,1,0,0]
def sp:SP:=⟨[(0,.cs SI),(2,.loc 2 []),(4,.loc 4 [])],[(2,.mem,.cd Xc),(4,.mem,.cd Xc)]⟩
def fr:=Yh3 sp (fun x s=>Xbn.B x.2.1 s.1 s.2) (fun x=>(x.1.1,x.2.2.1)) fun x (oo0:((Bool×Xa)⊕Xa)) _ kk0=>sel oo0 (fun bb0=>kk0 (.rt) ⟨[(2,.loc 2 []),(3,.cs .bool bb0.1)],[(2,some ⟨.mem,.cd Xc bb0.2⟩)]⟩) (fun cc0=>kk0 (.ex 0) ⟨[(2,.loc 2 []),(4,.loc 4 [])],[(2,some ⟨.mem,.cd Xc x.2.1⟩),(4,some ⟨.mem,.cd Xc cc0⟩)]⟩)
theorem ok:Ya9 PR 92 1 (.loop c) fr:=
 Yst Xe Xf h0 (.R (.one (.R (.R (.R (.L (.R (.one (.fr 1))))))))) (G:=Xb8.G) Xb8.Gok (L:=mkL [(1,Xc5.fr)]) (l:=[(1,.loop Xc5.c)]) ⟨Lam.cons Xc5.ok,trivial⟩ [(0,([2,4],[2,4]))] ([2,3],[2]) (fun x s=>((s.1,x.1.2),(x.2.1,s.2,x.2.2.2)))
  (fun x s=>by simp only[B,mC,mB,mS,mO,mN];kernel_rfl)
end Xbn
namespace Xb8
def pts:List PT:=[.cs SI]
def FS:FS:=Ycc [.sh] pts (fun x=>Xb8 x.1) fun t=>⟨[.cd Xc t.1,.cs .bool t.2],[]⟩
theorem ok:Ycs PR 174 FS:=
 Ywh Xe Xf Proofs.Tryz.f174 h0 (.R (.R (.R (.R (.R (.R (.L (.R (.one (.fr 0)))))))))) (G:=G) Gok (L:=mkL [(1,Xc5.fr),(0,Xbn.fr)]) (l:=[(0,.loop Xbn.c)]) ⟨Lam.skip rfl (Lam.cons Xbn.ok),trivial⟩
  (fun x=>by simp only[Xb8,mC,mB,mS,mO,mN];kernel_rfl)
end Xb8
def Xl1 (v:List Xg):Option Int:=
 some (v.length:Int)
namespace Xl1
def pts:List PT:=[.cs (.sl Xi)]
def FS:FS:=Ycc [.sh] pts (fun x=>Xl1 x.1) fun t=>⟨[.cs I64 t],[]⟩
theorem ok:Ycs PR 180 FS:=
 Ywh Xe Xf Proofs.Tryz.f180 h0 .no (G:=(mkG [])) .nil (L:=mkL []) (l:=[]) hT
  (fun x=>by simp only[Xl1,mC,mB,mS,mO,mN];kernel_rfl)
end Xl1
def Xds.B (v3:List Xg) (v4:Int) (v5:Int) (v8:Int) (v11:Xg) (v9:Int) (v10:List Int):Option ((Int×List Int)⊕(List Int)):=
 cond (decide (v9<v8)) (cond (inB v9 v11.1.length) ((some (v10++([w64 (((v11.1.getD v9.toNat 0).toNat:Int))]))).bind fun v12=>cond (decide (v12.length≤2147483648)) (some (.inl (w64 (v9+1),v12))) none) none) (some (.inr v10))
def Xds (v3:List Xg) (v4:Int) (v5:Int) (v8:Int) (v11:Xg):(Int×List Int)→Option (List Int):=
 Yaj fun s=>Xds.B v3 v4 v5 v8 v11 s.1 s.2
def Xd1.B (v3:List Xg) (v4:Int) (v5:Int) (v6:List Int):Option ((Int×List Int)⊕(List Int)):=
 cond (decide (v5<v4)) (cond (inB v5 v3.length) ((some (v6++([(v3.getD v5.toNat Xl).2.1,((v3.getD v5.toNat Xl).1.length:Int)]))).bind fun v7=>cond (decide (v7.length≤2147483648)) ((Xds v3 v4 v5 ((v3.getD v5.toNat Xl).1.length:Int) (v3.getD v5.toNat Xl) (0,v7)).bind fun v13=>some (.inl (w64 (v5+1),v13))) none) none) (some (.inr v6))
def Xd1 (v3:List Xg) (v4:Int):(Int×List Int)→Option (List Int):=
 Yaj fun s=>Xd1.B v3 v4 s.1 s.2
def Xbk (v:Xa):Option (List Int):=
 cond (decide ((([v.1,v.2.1,v.2.2.1])++v.2.2.2.1).length≤2147483648)) (cond (v.1 != 2) (some (([v.1,v.2.1,v.2.2.1])++v.2.2.2.1)) ((Xl1 v.2.2.2.2.1).bind fun v2=>cond (decide (((([v.1,v.2.1,v.2.2.1])++v.2.2.2.1)++([v2])).length≤2147483648)) ((Xd1 v.2.2.2.2.1 (v.2.2.2.2.1.length:Int) (0,(([v.1,v.2.1,v.2.2.1])++v.2.2.2.1)++([v2]))).bind fun v14=>some v14) none)) none
namespace Xbk
def G:Gam:=mkG [(180,Xl1.FS)]
theorem Gok:GOk PR G:=.cons Xl1.ok .nil
end Xbk
namespace Xds
def c:=Yao (Yai Proofs.Tryz.f137) [1,1,1,1,0,1,0,0,1,1,0,0,1,1,1,0,0]
def sp:SP:=⟨[(3,.seg 3 []),(5,.loc 5 []),(28,.cs (.sl Xi)),(29,.cs I64),(30,.cs I64),(44,.cs I64),(45,.cs I64)],[(3,.reg,.cd SI),(5,.mem,.cd Xi)]⟩
def fr:=Yh3 sp (fun x s=>Xds.B x.1.2.2.1 x.1.2.2.2.1 x.1.2.2.2.2.1 x.1.2.2.2.2.2.1 x.2.2.1 s.1 s.2) (fun x=>(x.1.2.2.2.2.2.2.1,x.2.1)) fun x (bb0:List Int) _ kk0=>kk0 (.ex 2) ⟨[(3,.seg 3 []),(28,.cs (.sl Xi) x.1.2.2.1),(29,.cs I64 x.1.2.2.2.1),(30,.cs I64 x.1.2.2.2.2.1)],[sr 3 (.cd SI bb0)]⟩
theorem ok:Ya9 PR 59 1 (.loop c) fr:=
 Ywi Xe Xf ⟨[1],[],[],0⟩ (G:=Xbk.G) Xbk.Gok [(2,([3,28,29,30],[3]))] (fun x s=>((x.1.1,x.1.2.1,x.1.2.2.1,x.1.2.2.2.1,x.1.2.2.2.2.1,x.1.2.2.2.2.2.1,s.1,x.1.2.2.2.2.2.2.2),(s.2,x.2.2)))
  (fun x s=>by simp only[B,mC,mB,mS,mO,mN];kernel_rfl)
end Xds
namespace Xd1
def c:=Yao (Yai Proofs.Tryz.f137) [1,1,1,1,0,1,0,0]
def sp:SP:=⟨[(3,.seg 3 []),(28,.cs (.sl Xi)),(29,.cs I64),(30,.cs I64)],[(3,.reg,.cd SI)]⟩
def fr:=Yh3 sp (fun x s=>Xd1.B x.1.2.1 x.1.2.2.1 s.1 s.2) (fun x=>(x.1.2.2.2.1,x.2.1)) fun x (bb0:List Int) _ kk0=>kk0 (.ex 0) ⟨[(3,.seg 3 [])],[sr 3 (.cd SI bb0)]⟩
theorem ok:Ya9 PR 59 1 (.loop c) fr:=
 Ywl Xe Xf ⟨[1],[],[],0⟩ (.R (.R (.L (.one (.R (.R (.R (.one (.fr 1))))))))) (G:=Xbk.G) Xbk.Gok (L:=mkL [(1,Xds.fr)]) (l:=[(1,.loop Xds.c)]) ⟨Lam.cons Xds.ok,trivial⟩ [(0,([3],[3]))] (fun x s=>((x.1.1,x.1.2.1,x.1.2.2.1,s.1,x.1.2.2.2.2),(s.2,x.2.2)))
  (fun x s=>by simp only[B,mC,mB,mS,mO,mN];kernel_rfl)
end Xd1
namespace Xbk
def pts:List PT:=[.cs Xc]
def FS:FS:=Ycc [.sh] pts (fun x=>Xbk x.1) fun t=>⟨[.cd SI t],[]⟩
theorem ok:Ycs PR 137 FS:=
 Ywh Xe Xf Proofs.Tryz.f137 ⟨[1],[],[],0⟩ (.R (.R (.R (.R (.L (.R (.one (.fr 0)))))))) (G:=G) Gok (L:=mkL [(1,Xds.fr),(0,Xd1.fr)]) (l:=[(0,.loop Xd1.c)]) ⟨Lam.skip rfl (Lam.cons Xd1.ok),trivial⟩
  (fun x=>by simp only[Xbk,mC,mB,mS,mO,mN];kernel_rfl)
end Xbk
def Xf9.B (v:List Int) (v2:List Int) (v3:Int) (v4:Int):Option (Int⊕((Bool⊕Unit))):=
 cond (decide (v4<v3)) (cond (inB v4 v.length) (cond (inB v4 v2.length) (cond ((v.getD v4.toNat 0) != (v2.getD v4.toNat 0)) (some (.inr (.inl false))) (some (.inl (w64 (v4+1))))) none) none) (some (.inr (.inr ())))
def Xf9 (v:List Int) (v2:List Int) (v3:Int):Int→Option ((Bool⊕Unit)):=
 Yaj fun s=>Xf9.B v v2 v3 s
def Xcf (v:List Int) (v2:List Int):Option Bool:=
 cond ((v.length:Int) != (v2.length:Int)) (some false) ((Xf9 v v2 (v.length:Int) 0).bind fun v5=>sel v5 (fun v6=>some v6) (fun v7=>some true))
namespace Xf9
def c:=Yao (Yai Proofs.Tryz.f135) [1,1,0,1,0,0]
def sp:SP:=⟨[(0,.cs SI),(1,.cs SI),(12,.cs I64),(13,.cs I64)],[]⟩
def fr:=Yh3 sp (fun x s=>Xf9.B x.1.1 x.1.2.1 x.1.2.2.1 s) (fun x=>x.1.2.2.2.1) fun x (oo0:(Bool⊕Unit)) _ kk0=>sel oo0 (fun bb0=>kk0 (.rt) ⟨[(4,.cs .bool bb0)],[]⟩) (fun cc0=>kk0 (.ex 0) ⟨[],[]⟩)
theorem ok:Ya9 PR 26 2 (.loop c) fr:=
 Yst Xe Xf h0 .no (G:=(mkG [])) .nil (L:=mkL []) (l:=[]) hT [(0,([],[]))] ([4],[]) (fun x s=>((x.1.1,x.1.2.1,x.1.2.2.1,s,x.1.2.2.2.2),x.2))
  (fun x s=>by simp only[B,mC,mB,mS,mO,mN];kernel_rfl)
end Xf9
namespace Xcf
def pts:List PT:=[.cs SI,.cs SI]
def FS:FS:=Ycc [.sh,.sh] pts (fun x=>Xcf x.1 x.2.1) fun t=>⟨[.cs .bool t],[]⟩
theorem ok:Ycs PR 135 FS:=
 Ywh Xe Xf Proofs.Tryz.f135 h0 (.R (.R (.L (.R (.one (.fr 0)))))) (G:=(mkG [])) .nil (L:=mkL [(0,Xf9.fr)]) (l:=[(0,.loop Xf9.c)]) ⟨Lam.cons Xf9.ok,trivial⟩
  (fun x=>by simp only[Xcf,mC,mB,mS,mO,mN];kernel_rfl)
end Xcf
def Xi7 (v:List Int):Option (Xa×Int):=
 (Xfm v).bind fun v2=>cond (cond (v2 != 0) true ((v.length:Int) == 0)) (some ((0,0,0,[],[],()),v2)) ((Xb8 v).bind fun v3=>cond (!v3.2) (some ((0,0,0,[],[],()),5)) ((Xgf (v3.1.1,v3.1.2.1,v3.1.2.2.1,v3.1.2.2.2.1,v3.1.2.2.2.2.1,v3.1.2.2.2.2.2)).bind fun v4=>cond (v4 != 0) (some ((0,0,0,[],[],()),5)) ((Xbk (v3.1.1,v3.1.2.1,v3.1.2.2.1,v3.1.2.2.2.1,v3.1.2.2.2.2.1,v3.1.2.2.2.2.2)).bind fun v5=>(Xcf v5 v).bind fun v6=>cond (!v6) (some ((0,0,0,[],[],()),5)) (some ((v3.1.1,v3.1.2.1,v3.1.2.2.1,v3.1.2.2.2.1,v3.1.2.2.2.2.1,v3.1.2.2.2.2.2),0)))))
namespace Xi7
def G:Gam:=mkG [(164,Xfm.FS),(174,Xb8.FS),(175,Xgf.FS),(137,Xbk.FS),(135,Xcf.FS)]
def pts:List PT:=[.cs SI]
def FS:FS:=Ycc [.sh] pts (fun x=>Xi7 x.1) fun t=>⟨[.cd Xc t.1,.cs I64 t.2],[]⟩
theorem ok:Ycs PR 124 FS:=
 Ywh Xe Xf Proofs.Tryz.f124 h0 .no (G:=G) (show GOk PR G from .cons Xfm.ok (.cons Xb8.ok (.cons Xgf.ok (.cons Xbk.ok (.cons Xcf.ok .nil))))) (L:=mkL []) (l:=[]) hT
  (fun x=>by simp only[Xi7,mC,mB,mS,mO,mN];kernel_rfl)
end Xi7
def Xli (v:Int):Option Bool:=
 some (decide (v>255))
namespace Xli
def pts:List PT:=[.cs I64]
def FS:FS:=Ycc [.sh] pts (fun x=>Xli x.1) fun t=>⟨[.cs .bool t],[]⟩
theorem ok:Ycs PR 128 FS:=
 Ywh Xe Xf Proofs.Tryz.f128 h0 .no (G:=(mkG [])) .nil (L:=mkL []) (l:=[]) hT
  (fun x=>by simp only[Xli,mC,mB,mS,mO,mN];kernel_rfl)
end Xli
def Xc1.B (v:List Int) (v2:Unit) (v3:Int) (v4:Int):Option (Int⊕((Int⊕Unit))):=
 cond (decide (v4<v3)) (cond (inB v4 v.length) ((Xli (v.getD v4.toNat 0)).bind fun v5=>cond v5 (some (.inr (.inl v4))) (some (.inl (w64 (v4+1))))) none) (some (.inr (.inr ())))
def Xc1 (v:List Int) (v2:Unit) (v3:Int):Int→Option ((Int⊕Unit)):=
 Yaj fun s=>Xc1.B v v2 v3 s
def Xg7 (v:List Int) (v2:Unit):Option Int:=
 (Xc1 v v2 (v.length:Int) 0).bind fun v6=>sel v6 (fun v7=>some v7) (fun v8=>some (-1))
namespace Xg7
def G:Gam:=mkG [(128,Xli.FS)]
theorem Gok:GOk PR G:=.cons Xli.ok .nil
end Xg7
namespace Xc1
def c:=Yao (Yai Proofs.Tryz.f176) [1,0,1,0,0]
def sp:SP:=⟨[(0,.cs SI),(1,.clo 128 (.cs .unit)),(7,.cs I64),(8,.cs I64)],[]⟩
def fr:=Yh3 sp (fun x s=>Xc1.B x.1.1 x.1.2.1 x.1.2.2.1 s) (fun x=>x.1.2.2.2.1) fun x (oo0:(Int⊕Unit)) _ kk0=>sel oo0 (fun bb0=>kk0 (.rt) ⟨[(4,.cs I64 bb0)],[]⟩) (fun cc0=>kk0 (.ex 0) ⟨[],[]⟩)
theorem ok:Ya9 PR 19 2 (.loop c) fr:=
 Yst Xe Xf h0 .no (G:=Xg7.G) Xg7.Gok (L:=mkL []) (l:=[]) hT [(0,([],[]))] ([4],[]) (fun x s=>((x.1.1,x.1.2.1,x.1.2.2.1,s,x.1.2.2.2.2),x.2))
  (fun x s=>by simp only[B,mC,mB,mS,mO,mN];kernel_rfl)
end Xc1
namespace Xg7
def pts:List PT:=[.cs SI,.clo 128 (.cs .unit)]
def FS:FS:=Ycc [.sh,.sh] pts (fun x=>Xg7 x.1 x.2.1) fun t=>⟨[.cs I64 t],[]⟩
theorem ok:Ycs PR 176 FS:=
 Ywh Xe Xf Proofs.Tryz.f176 h0 (.R (.L (.R (.one (.fr 0))))) (G:=G) Gok (L:=mkL [(0,Xc1.fr)]) (l:=[(0,.loop Xc1.c)]) ⟨Lam.cons Xc1.ok,trivial⟩
  (fun x=>by simp only[Xg7,mC,mB,mS,mO,mN];kernel_rfl)
end Xg7
def Xjo (v:List Int) (v2:Unit):Option Bool:=
 (Xg7 v v2).bind fun v3=>some (decide (v3≥0))
namespace Xjo
def G:Gam:=mkG [(176,Xg7.FS)]
def pts:List PT:=[.cs SI,.clo 128 (.cs .unit)]
def FS:FS:=Ycc [.sh,.sh] pts (fun x=>Xjo x.1 x.2.1) fun t=>⟨[.cs .bool t],[]⟩
theorem ok:Ycs PR 127 FS:=
 Ywh Xe Xf Proofs.Tryz.f127 h0 .no (G:=G) (show GOk PR G from .cons Xg7.ok .nil) (L:=mkL []) (l:=[]) hT
  (fun x=>by simp only[Xjo,mC,mB,mS,mO,mN];kernel_rfl)
end Xjo
def Xc0.B (v:Xd) (v4:Fs_) (v2:Int) (v3:Int) (v5:Fs_):Option ((Int×Int×Fs_)⊕(((Int×Fs_)⊕(Int×Fs_)))):=
 cond (decide (v3<10)) ((Xcy v (w64 ((17:Int)+v3))).bind fun v6=>(Xi7 v6).bind fun v7=>cond (v7.2 != 0) (some (.inr (.inl (v7.2,([],[],()))))) ((some (v5.1++([(v7.1.1,v7.1.2.1,v7.1.2.2.1,v7.1.2.2.2.1,v7.1.2.2.2.2.1,v7.1.2.2.2.2.2)]))).bind fun v8=>cond (decide (v8.length≤2147483648)) (cond (decide ((v6.length:Int)>0)) (some (.inl (w64 (v3+1),w64 (v3+1),(v8,v5.2)))) (some (.inl (v2,w64 (v3+1),(v8,v5.2))))) none)) (some (.inr (.inr (v2,v5))))
def Xc0 (v:Xd) (v4:Fs_):(Int×Int×Fs_)→Option (((Int×Fs_)⊕(Int×Fs_))):=
 Yaj fun s=>Xc0.B v v4 s.1 s.2.1 s.2.2
def Xc2.B (v:Xd) (v14:Int) (v13:List Int) (v21:Int) (v17:List Int) (v22:Int) (v23:List Int) (v19:Bool) (v24:List Int) (v20:Int) (v15:Fs_) (v25:Int) (v26:Fs_):Option ((Int×Fs_)⊕Fs_):=
 cond (decide (v25<v20)) (cond (inB v25 v24.length) (cond (inB v14 v26.2.1.length) ((some ((v26.2.1.getD v14.toNat [])++([IntKind.u8.wrap (v24.getD v25.toNat 0)]))).bind fun v27=>cond (decide (v27.length≤2147483648)) (cond (inB v14 v26.2.1.length) (cond (Nat.beq v14.toNat v14.toNat&&true) (some (.inl (w64 (v25+1),(v26.1,v26.2.1.set v14.toNat v27,v26.2.2)))) none) none) none) none) none) (some (.inr v26))
def Xc2 (v:Xd) (v14:Int) (v13:List Int) (v21:Int) (v17:List Int) (v22:Int) (v23:List Int) (v19:Bool) (v24:List Int) (v20:Int) (v15:Fs_):(Int×Fs_)→Option Fs_:=
 Yaj fun s=>Xc2.B v v14 v13 v21 v17 v22 v23 v19 v24 v20 v15 s.1 s.2
def Xem.B (v:Xd) (v13:List Int) (v15:Fs_) (v14:Int) (v16:Fs_):Option ((Int×Fs_)⊕(((Int×Fs_)⊕Fs_))):=
 cond (decide (v14<20)) (cond (inB v14 20) ((Xcy v (w64 ((27:Int)+v14))).bind fun v17=>(Xca v17).bind fun v18=>cond (decide (v18<(v13.getD v14.toNat 0))) (some (.inr (.inl (5,([],[],()))))) (cond (decide ((0:Int)≤(v13.getD v14.toNat 0))&&decide ((v13.getD v14.toNat 0)≤(v17.length:Int))) ((Xjo ((v17.take ((v13.getD v14.toNat 0).toNat)).drop 0) ()).bind fun v19=>cond v19 (some (.inr (.inl (5,([],[],()))))) (cond (decide ((0:Int)≤(v13.getD v14.toNat 0))&&decide ((v13.getD v14.toNat 0)≤(v17.length:Int))) ((some (((v17.take ((v13.getD v14.toNat 0).toNat)).drop 0).length:Int)).bind fun v20=>(Xc2 v v14 v13 v14 v17 (v13.getD v14.toNat 0) ((v17.take ((v13.getD v14.toNat 0).toNat)).drop 0) v19 ((v17.take ((v13.getD v14.toNat 0).toNat)).drop 0) v20 v15 (0,v16)).bind fun v28=>some (.inl (w64 (v14+1),v28))) none)) none)) none) (some (.inr (.inr v16)))
def Xem (v:Xd) (v13:List Int) (v15:Fs_):(Int×Fs_)→Option (((Int×Fs_)⊕Fs_)):=
 Yaj fun s=>Xem.B v v13 v15 s.1 s.2
def Xbh (v:Xd):Option (Fs_×Int):=
 cond (decide ((0:Int)≤(20:Int))&&(decide ((20:Int)≤(20:Int))&&decide ((20:Int)≤2147483648))) ((Xc0 v ([],[],()) (0,0,([],List.replicate (20:Int).toNat ([]:List Int),()))).bind fun v9=>sel v9 (fun v10=>some ((v10.2.1,v10.2.2.1,v10.2.2.2),v10.1)) (fun v11=>cond (decide ((0:Int)≤v11.1)&&decide (v11.1≤(v11.2.1.length:Int))) ((Xbm ((v11.2.1.drop 0).take (v11.1.toNat-0),v11.2.2.1,v11.2.2.2)).bind fun v12=>cond (v12 != 0) (some (([],[],()),v12)) ((Xhg ((v11.2.1.drop 0).take (v11.1.toNat-0))).bind fun v13=>(Xem v v13 ([],[],()) (0,((v11.2.1.drop 0).take (v11.1.toNat-0),v11.2.2))).bind fun v29=>sel v29 (fun v30=>some ((v30.2.1,v30.2.2.1,v30.2.2.2),v30.1)) (fun v31=>(Xde (v31.1,v31.2.1,v31.2.2)).bind fun v32=>some ((v31.1,v31.2.1,v31.2.2),v32)))) none)) none
namespace Xbh
def G:Gam:=mkG [(119,Xcy.FS),(124,Xi7.FS),(121,Xbm.FS),(125,Xhg.FS),(126,Xca.FS),(127,Xjo.FS),(54,Xde.FS)]
theorem Gok:GOk PR G:=.cons Xcy.ok (.cons Xi7.ok (.cons Xbm.ok (.cons Xhg.ok (.cons Xca.ok (.cons Xjo.ok (.cons Xde.ok .nil))))))
end Xbh
namespace Xc0
def c:=Yao (Yai Proofs.Tryz.f55) [1,1,1,0,1,0,0]
def sp:SP:=⟨[(1,.pt Xh),(2,.loc 2 []),(4,.loc 4 []),(5,.cs I64),(18,.cs I64)],[(2,.mem,.cd Xk),(4,.mem,.cd Xk)]⟩
def fr:=Yh3 sp (fun x s=>Xc0.B x.1.1 x.2.1 s.1 s.2.1 s.2.2) (fun x=>(x.1.2.2.2.1,x.1.2.2.2.2.1,x.2.2.1)) fun x (oo0:((Int×Fs_)⊕(Int×Fs_))) _ kk0=>sel oo0 (fun bb0=>kk0 (.rt) ⟨[(2,.loc 2 []),(3,.cs I64 bb0.1)],[(2,some ⟨.mem,.cd Xk bb0.2⟩)]⟩) (fun cc0=>kk0 (.ex 0) ⟨[(1,.pt Xh x.1.1),(2,.loc 2 []),(4,.loc 4 []),(5,.cs I64 cc0.1)],[(2,some ⟨.mem,.cd Xk x.2.1⟩),(4,some ⟨.mem,.cd Xk cc0.2⟩)]⟩)
theorem ok:Ya9 PR 103 1 (.loop c) fr:=
 Yst Xe Xf ⟨[1],[],[],0⟩ .no (G:=Xbh.G) Xbh.Gok (L:=mkL []) (l:=[]) hT [(0,([1,2,4,5],[2,4]))] ([2,3],[2]) (fun x s=>((x.1.1,x.1.2.1,x.1.2.2.1,s.1,s.2.1,x.1.2.2.2.2.2),(x.2.1,s.2.2,x.2.2.2)))
  (fun x s=>by simp only[B,mC,mB,mS,mO,mN];kernel_rfl)
end Xc0
namespace Xc2
def c:=Yao (Yai Proofs.Tryz.f55) [1,1,1,1,1,1,0,1,0,0,1,1,0,0,1,1,1,1,0,0]
def sp:SP:=⟨[(1,.pt Xh),(2,.loc 2 []),(4,.loc 4 []),(11,.cs I64),(58,.cs (.arr 20 I64)),(59,.cs I64),(71,.cs SI),(72,.cs I64),(73,.cs SI),(74,.cs .bool),(79,.cs SI),(80,.cs I64),(81,.cs I64)],[(2,.mem,.cd Xk),(4,.mem,.cd Xk)]⟩
def fr:=Yh3 sp (fun x s=>Xc2.B x.1.1 x.1.2.2.2.1 x.1.2.2.2.2.1 x.1.2.2.2.2.2.1 x.1.2.2.2.2.2.2.1 x.1.2.2.2.2.2.2.2.1 x.1.2.2.2.2.2.2.2.2.1 x.1.2.2.2.2.2.2.2.2.2.1 x.1.2.2.2.2.2.2.2.2.2.2.1 x.1.2.2.2.2.2.2.2.2.2.2.2.1 x.2.1 s.1 s.2) (fun x=>(x.1.2.2.2.2.2.2.2.2.2.2.2.2.1,x.2.2.1)) fun x (bb0:Fs_) _ kk0=>kk0 (.ex 4) ⟨[(1,.pt Xh x.1.1),(2,.loc 2 []),(4,.loc 4 []),(58,.cs (.arr 20 I64) x.1.2.2.2.2.1),(59,.cs I64 x.1.2.2.2.2.2.1),(71,.cs SI x.1.2.2.2.2.2.2.1),(72,.cs I64 x.1.2.2.2.2.2.2.2.1),(73,.cs SI x.1.2.2.2.2.2.2.2.2.1),(74,.cs .bool x.1.2.2.2.2.2.2.2.2.2.1)],[(2,some ⟨.mem,.cd Xk x.2.1⟩),(4,some ⟨.mem,.cd Xk bb0⟩)]⟩
theorem ok:Ya9 PR 103 1 (.loop c) fr:=
 Ywi Xe Xf ⟨[1],[],[],0⟩ (G:=Xbh.G) Xbh.Gok [(4,([1,2,4,58,59,71,72,73,74],[2,4]))] (fun x s=>((x.1.1,x.1.2.1,x.1.2.2.1,x.1.2.2.2.1,x.1.2.2.2.2.1,x.1.2.2.2.2.2.1,x.1.2.2.2.2.2.2.1,x.1.2.2.2.2.2.2.2.1,x.1.2.2.2.2.2.2.2.2.1,x.1.2.2.2.2.2.2.2.2.2.1,x.1.2.2.2.2.2.2.2.2.2.2.1,x.1.2.2.2.2.2.2.2.2.2.2.2.1,s.1,x.1.2.2.2.2.2.2.2.2.2.2.2.2.2),(x.2.1,s.2,x.2.2.2)))
  (fun x s=>by simp only[B,mC,mB,mS,mO,mN];kernel_rfl)
end Xc2
namespace Xem
def c:=Yao (Yai Proofs.Tryz.f55) [1,1,1,1,1,1,0,1,0,0]
def sp:SP:=⟨[(1,.pt Xh),(2,.loc 2 []),(4,.loc 4 []),(58,.cs (.arr 20 I64)),(59,.cs I64)],[(2,.mem,.cd Xk),(4,.mem,.cd Xk)]⟩
def fr:=Yh3 sp (fun x s=>Xem.B x.1.1 x.1.2.2.2.1 x.2.1 s.1 s.2) (fun x=>(x.1.2.2.2.2.1,x.2.2.1)) fun x (oo0:((Int×Fs_)⊕Fs_)) _ kk0=>sel oo0 (fun bb0=>kk0 (.rt) ⟨[(2,.loc 2 []),(3,.cs I64 bb0.1)],[(2,some ⟨.mem,.cd Xk bb0.2⟩)]⟩) (fun cc0=>kk0 (.ex 2) ⟨[(2,.loc 2 []),(4,.loc 4 [])],[(2,some ⟨.mem,.cd Xk x.2.1⟩),(4,some ⟨.mem,.cd Xk cc0⟩)]⟩)
theorem ok:Ya9 PR 103 1 (.loop c) fr:=
 Yst Xe Xf ⟨[1],[],[],0⟩ (.R (.R (.L (.one (.R (.R (.R (.R (.one (.fr 2)))))))))) (G:=Xbh.G) Xbh.Gok (L:=mkL [(2,Xc2.fr)]) (l:=[(2,.loop Xc2.c)]) ⟨Lam.cons Xc2.ok,trivial⟩ [(2,([2,4],[2,4]))] ([2,3],[2]) (fun x s=>((x.1.1,x.1.2.1,x.1.2.2.1,x.1.2.2.2.1,s.1,x.1.2.2.2.2.2),(x.2.1,s.2,x.2.2.2)))
  (fun x s=>by simp only[B,mC,mB,mS,mO,mN];kernel_rfl)
end Xem
namespace Xbh
def pts:List PT:=[.cs Xh]
def FS:FS:=Ycc [.sh] pts (fun x=>Xbh x.1) fun t=>⟨[.cd Xk t.1,.cs I64 t.2],[]⟩
theorem ok:Ycs PR 55 FS:=
 Ywh Xe Xf Proofs.Tryz.f55 ⟨[1],[],[],0⟩ (.R (.R (.R (.two (.R (.one (.fr 0))) (.R (.R (.L (.R (.one (.fr 1)))))))))) (G:=G) Gok (L:=mkL [(0,Xc0.fr),(2,Xc2.fr),(1,Xem.fr)]) (l:=[(0,.loop Xc0.c),(1,.loop Xem.c)]) ⟨Lam.cons Xc0.ok,Lam.skip rfl (Lam.skip rfl (Lam.cons Xem.ok)),trivial⟩
  (fun x=>by simp only[Xbh,mC,mB,mS,mO,mN];kernel_rfl)
end Xbh
def Xe3.B (v:List Xg) (v2:List Xg) (v3:Int) (v4:Int):Option (Int⊕((Bool⊕Unit))):=
 cond (decide (v4<v3)) (cond (inB v4 v.length) (cond (inB v4 v2.length) ((some (!(((v.getD v4.toNat Xl).1 == (v2.getD v4.toNat Xl).1)&&(((v.getD v4.toNat Xl).2.1 == (v2.getD v4.toNat Xl).2.1)&&true)))).bind fun v5=>cond v5 (some (.inr (.inl false))) (some (.inl (w64 (v4+1))))) none) none) (some (.inr (.inr ())))
def Xe3 (v:List Xg) (v2:List Xg) (v3:Int):Int→Option ((Bool⊕Unit)):=
 Yaj fun s=>Xe3.B v v2 v3 s
def Xj6 (v:List Xg) (v2:List Xg):Option Bool:=
 cond ((v.length:Int) != (v2.length:Int)) (some false) ((Xe3 v v2 (v.length:Int) 0).bind fun v6=>sel v6 (fun v7=>some v7) (fun v8=>some true))
namespace Xe3
def c:=Yao (Yai Proofs.Tryz.f177) [1,1,0,1,0,0]
def sp:SP:=⟨[(0,.cs (.sl Xi)),(1,.cs (.sl Xi)),(12,.cs I64),(13,.cs I64)],[]⟩
def fr:=Yh3 sp (fun x s=>Xe3.B x.1.1 x.1.2.1 x.1.2.2.1 s) (fun x=>x.1.2.2.2.1) fun x (oo0:(Bool⊕Unit)) _ kk0=>sel oo0 (fun bb0=>kk0 (.rt) ⟨[(4,.cs .bool bb0)],[]⟩) (fun cc0=>kk0 (.ex 0) ⟨[],[]⟩)
theorem ok:Ya9 PR 26 2 (.loop c) fr:=
 Yst Xe Xf h0 .no (G:=(mkG [])) .nil (L:=mkL []) (l:=[]) hT [(0,([],[]))] ([4],[]) (fun x s=>((x.1.1,x.1.2.1,x.1.2.2.1,s,x.1.2.2.2.2),x.2))
  (fun x s=>by simp only[B,mC,mB,mS,mO,mN];kernel_rfl)
end Xe3
namespace Xj6
def pts:List PT:=[.cs (.sl Xi),.cs (.sl Xi)]
def FS:FS:=Ycc [.sh,.sh] pts (fun x=>Xj6 x.1 x.2.1) fun t=>⟨[.cs .bool t],[]⟩
theorem ok:Ycs PR 177 FS:=
 Ywh Xe Xf Proofs.Tryz.f177 h0 (.R (.R (.L (.R (.one (.fr 0)))))) (G:=(mkG [])) .nil (L:=mkL [(0,Xe3.fr)]) (l:=[(0,.loop Xe3.c)]) ⟨Lam.cons Xe3.ok,trivial⟩
  (fun x=>by simp only[Xj6,mC,mB,mS,mO,mN];kernel_rfl)
end Xj6
def Xjp (v:Xa) (v2:Xa):Option Bool:=
 (some (cond (cond (v.1 == v2.1) (v.2.1 == v2.2.1) false) (v.2.2.1 == v2.2.2.1) false)).bind fun v3=>cond v3 ((Xcf v.2.2.2.1 v2.2.2.2.1).bind fun v4=>cond v4 ((Xj6 v.2.2.2.2.1 v2.2.2.2.2.1).bind fun v5=>some v5) (some false)) (some false)
namespace Xjp
def G:Gam:=mkG [(135,Xcf.FS),(177,Xj6.FS)]
def pts:List PT:=[.cs Xc,.cs Xc]
def FS:FS:=Ycc [.sh,.sh] pts (fun x=>Xjp x.1 x.2.1) fun t=>⟨[.cs .bool t],[]⟩
theorem ok:Ycs PR 130 FS:=
 Ywh Xe Xf Proofs.Tryz.f130 ⟨[2,3],[],[],0⟩ .no (G:=G) (show GOk PR G from .cons Xcf.ok (.cons Xj6.ok .nil)) (L:=mkL []) (l:=[]) hT
  (fun x=>by simp only[Xjp,mC,mB,mS,mO,mN];kernel_rfl)
end Xjp
def Xfs.B (v2:List Xa) (v3:Unit) (v:List Xa) (v4:Int) (v5:Int):Option (Int⊕((Bool⊕Unit))):=
 cond (decide (v5<v4)) (cond (inB v5 v.length) (cond (inB v5 v2.length) ((Xjp (v.getD v5.toNat Xb) (v2.getD v5.toNat Xb)).bind fun v6=>cond (!v6) (some (.inr (.inl false))) (some (.inl (w64 (v5+1))))) none) none) (some (.inr (.inr ())))
def Xfs (v2:List Xa) (v3:Unit) (v:List Xa) (v4:Int):Int→Option ((Bool⊕Unit)):=
 Yaj fun s=>Xfs.B v2 v3 v v4 s
def Xe0 (v:List Xa) (v2:List Xa) (v3:Unit):Option Bool:=
 cond ((v.length:Int) != (v2.length:Int)) (some false) ((Xfs v2 v3 v (v.length:Int) 0).bind fun v7=>sel v7 (fun v8=>some v8) (fun v9=>some true))
namespace Xe0
def G:Gam:=mkG [(130,Xjp.FS)]
theorem Gok:GOk PR G:=.cons Xjp.ok .nil
end Xe0
namespace Xfs
def c:=Yao (Yai Proofs.Tryz.f129) [1,1,0,1,0,0]
def sp:SP:=⟨[(1,.cs (.sl Xc)),(2,.clo 130 (.cs .unit)),(15,.cs (.sl Xc)),(16,.cs I64),(17,.cs I64)],[]⟩
def fr:=Yh3 sp (fun x s=>Xfs.B x.1.1 x.1.2.1 x.1.2.2.1 x.1.2.2.2.1 s) (fun x=>x.1.2.2.2.2.1) fun x (oo0:(Bool⊕Unit)) _ kk0=>sel oo0 (fun bb0=>kk0 (.rt) ⟨[(6,.cs .bool bb0)],[]⟩) (fun cc0=>kk0 (.ex 0) ⟨[],[]⟩)
theorem ok:Ya9 PR 32 3 (.loop c) fr:=
 Yst Xe Xf h0 .no (G:=Xe0.G) Xe0.Gok (L:=mkL []) (l:=[]) hT [(0,([],[]))] ([6],[]) (fun x s=>((x.1.1,x.1.2.1,x.1.2.2.1,x.1.2.2.2.1,s,x.1.2.2.2.2.2),x.2))
  (fun x s=>by simp only[B,mC,mB,mS,mO,mN];kernel_rfl)
end Xfs
namespace Xe0
def pts:List PT:=[.cs (.sl Xc),.cs (.sl Xc),.clo 130 (.cs .unit)]
def FS:FS:=Ycc [.sh,.sh,.sh] pts (fun x=>Xe0 x.1 x.2.1 x.2.2.1) fun t=>⟨[.cs .bool t],[]⟩
theorem ok:Ycs PR 129 FS:=
 Ywh Xe Xf Proofs.Tryz.f129 h0 (.R (.R (.L (.R (.one (.fr 0)))))) (G:=G) Gok (L:=mkL [(0,Xfs.fr)]) (l:=[(0,.loop Xfs.c)]) ⟨Lam.cons Xfs.ok,trivial⟩
  (fun x=>by simp only[Xe0,mC,mB,mS,mO,mN];kernel_rfl)
end Xe0
def Xhh (v:List Int) (v2:List Int):Option Bool:=
 (some ((v.map fun n=>UInt8.ofNat n.toNat) == (v2.map fun n=>UInt8.ofNat n.toNat))).bind fun v3=>some v3
namespace Xhh
def pts:List PT:=[.cs SB,.cs SB]
def FS:FS:=Ycc [.sh,.sh] pts (fun x=>Xhh x.1 x.2.1) fun t=>⟨[.cs .bool t],[]⟩
theorem ok:Ycs PR 59 FS:=
 Ywh Xe Xf Proofs.Tryz.f59 h0 .no (G:=(mkG [])) .nil (L:=mkL []) (l:=[]) hT
  (fun x=>by simp only[Xhh,mC,mB,mS,mO,mN];kernel_rfl)
end Xhh
def Xep.B (v2:List (List Int)) (v3:Unit) (v:List (List Int)) (v4:Int) (v5:Int):Option (Int⊕((Bool⊕Unit))):=
 cond (decide (v5<v4)) (cond (inB v5 v.length) (cond (inB v5 v2.length) ((Xhh (v.getD v5.toNat []) (v2.getD v5.toNat [])).bind fun v6=>cond (!v6) (some (.inr (.inl false))) (some (.inl (w64 (v5+1))))) none) none) (some (.inr (.inr ())))
def Xep (v2:List (List Int)) (v3:Unit) (v:List (List Int)) (v4:Int):Int→Option ((Bool⊕Unit)):=
 Yaj fun s=>Xep.B v2 v3 v v4 s
def Xf4 (v:List (List Int)) (v2:List (List Int)) (v3:Unit):Option Bool:=
 cond ((v.length:Int) != (v2.length:Int)) (some false) ((Xep v2 v3 v (v.length:Int) 0).bind fun v7=>sel v7 (fun v8=>some v8) (fun v9=>some true))
namespace Xf4
def G:Gam:=mkG [(59,Xhh.FS)]
theorem Gok:GOk PR G:=.cons Xhh.ok .nil
end Xf4
namespace Xep
def c:=Yao (Yai Proofs.Tryz.f131) [1,1,0,1,0,0]
def sp:SP:=⟨[(1,.cs (.sl SB)),(2,.clo 59 (.cs .unit)),(15,.cs (.sl SB)),(16,.cs I64),(17,.cs I64)],[]⟩
def fr:=Yh3 sp (fun x s=>Xep.B x.1.1 x.1.2.1 x.1.2.2.1 x.1.2.2.2.1 s) (fun x=>x.1.2.2.2.2.1) fun x (oo0:(Bool⊕Unit)) _ kk0=>sel oo0 (fun bb0=>kk0 (.rt) ⟨[(6,.cs .bool bb0)],[]⟩) (fun cc0=>kk0 (.ex 0) ⟨[],[]⟩)
theorem ok:Ya9 PR 32 3 (.loop c) fr:=
 Yst Xe Xf h0 .no (G:=Xf4.G) Xf4.Gok (L:=mkL []) (l:=[]) hT [(0,([],[]))] ([6],[]) (fun x s=>((x.1.1,x.1.2.1,x.1.2.2.1,x.1.2.2.2.1,s,x.1.2.2.2.2.2),x.2))
  (fun x s=>by simp only[B,mC,mB,mS,mO,mN];kernel_rfl)
end Xep
namespace Xf4
def pts:List PT:=[.cs (.sl SB),.cs (.sl SB),.clo 59 (.cs .unit)]
def FS:FS:=Ycc [.sh,.sh,.sh] pts (fun x=>Xf4 x.1 x.2.1 x.2.2.1) fun t=>⟨[.cs .bool t],[]⟩
theorem ok:Ycs PR 131 FS:=
 Ywh Xe Xf Proofs.Tryz.f131 h0 (.R (.R (.L (.R (.one (.fr 0)))))) (G:=G) Gok (L:=mkL [(0,Xep.fr)]) (l:=[(0,.loop Xep.c)]) ⟨Lam.cons Xep.ok,trivial⟩
  (fun x=>by simp only[Xf4,mC,mB,mS,mO,mN];kernel_rfl)
end Xf4
def Xf5 (v:Fs_) (v2:Fs_):Option Bool:=
 (Xe0 v.1 v2.1 ()).bind fun v3=>cond v3 ((Xf4 v.2.1 v2.2.1 ()).bind fun v4=>some v4) (some false)
namespace Xf5
def G:Gam:=mkG [(129,Xe0.FS),(131,Xf4.FS)]
def pts:List PT:=[.cs Xk,.cs Xk]
def FS:FS:=Ycc [.sh,.sh] pts (fun x=>Xf5 x.1 x.2.1) fun t=>⟨[.cs .bool t],[]⟩
theorem ok:Ycs PR 56 FS:=
 Ywh Xe Xf Proofs.Tryz.f56 ⟨[2,3],[],[],0⟩ .no (G:=G) (show GOk PR G from .cons Xe0.ok (.cons Xf4.ok .nil)) (L:=mkL []) (l:=[]) hT
  (fun x=>by simp only[Xf5,mC,mB,mS,mO,mN];kernel_rfl)
end Xf5
def Xcb.B (v:X0) (v9:Int) (v11:List Int) (v12:Bool) (v13:Unit) (v14:List Int) (v15:Bool) (v16:Unit) (v10:Int):Option (Int⊕((Int⊕Unit))):=
 cond (decide (v10<v9)) (cond (inB v10 v11.length) ((Xcm v14 (v11.getD v10.toNat 0)).bind fun v17=>cond v17 (cond (inB (v11.getD v10.toNat 0) v.2.1.2.1.length) (cond (inB (v11.getD v10.toNat 0) v.2.2.1.2.1.length) ((Xhh (v.2.1.2.1.getD (v11.getD v10.toNat 0).toNat []) (v.2.2.1.2.1.getD (v11.getD v10.toNat 0).toNat [])).bind fun v18=>cond (!v18) (some (.inr (.inl 10))) (some (.inl (w64 (v10+1))))) none) none) (some (.inl (w64 (v10+1))))) none) (some (.inr (.inr ())))
def Xcb (v:X0) (v9:Int) (v11:List Int) (v12:Bool) (v13:Unit) (v14:List Int) (v15:Bool) (v16:Unit):Int→Option ((Int⊕Unit)):=
 Yaj fun s=>Xcb.B v v9 v11 v12 v13 v14 v15 v16 s
def Xgd (v:X0):Option Int:=
 (Xey v.1).bind fun v2=>cond (v2.2 == 0) ((Xde v.2.1).bind fun v3=>cond (v3 == 0) ((Xde v.2.2.1).bind fun v4=>cond (v4 != 0) (some v4) (cond (decide ((v.1.2.1.length:Int)>0)) (some 1) ((Xbh v.1).bind fun v5=>cond (v5.2 != 0) (some 10) ((Xf5 (v5.1.1,v5.1.2.1,v5.1.2.2) v.2.2.1).bind fun v6=>cond (!v6) (some 10) ((Xap v.2.1.1).bind fun v7=>(Xap v.2.2.1.1).bind fun v8=>(Xcb v (v7.1.length:Int) v7.1 v7.2 () v8.1 v8.2 () 0).bind fun v19=>sel v19 (fun v20=>some v20) (fun v21=>some 0)))))) (cond (v3 != 0) (some v3) (cond (decide ((v.1.2.1.length:Int)>0)) (some 1) ((Xbh v.1).bind fun v22=>cond (v22.2 != 0) (some 10) ((Xf5 (v22.1.1,v22.1.2.1,v22.1.2.2) v.2.2.1).bind fun v23=>cond (!v23) (some 10) ((Xap v.2.1.1).bind fun v24=>(Xap v.2.2.1.1).bind fun v25=>(Xcb v (v24.1.length:Int) v24.1 v24.2 () v25.1 v25.2 () 0).bind fun v26=>sel v26 (fun v27=>some v27) (fun v28=>some 0))))))) (cond (v2.2 == 0) ((Xde v.2.2.1).bind fun v29=>cond (v29 != 0) (some v29) (cond (decide ((v.1.2.1.length:Int)>0)) (some 1) ((Xbh v.1).bind fun v30=>cond (v30.2 != 0) (some 10) ((Xf5 (v30.1.1,v30.1.2.1,v30.1.2.2) v.2.2.1).bind fun v31=>cond (!v31) (some 10) ((Xap v.2.1.1).bind fun v32=>(Xap v.2.2.1.1).bind fun v33=>(Xcb v (v32.1.length:Int) v32.1 v32.2 () v33.1 v33.2 () 0).bind fun v34=>sel v34 (fun v35=>some v35) (fun v36=>some 0)))))) (cond (v2.2 != 0) (some v2.2) (cond (decide ((v.1.2.1.length:Int)>0)) (some 1) ((Xbh v.1).bind fun v37=>cond (v37.2 != 0) (some 10) ((Xf5 (v37.1.1,v37.1.2.1,v37.1.2.2) v.2.2.1).bind fun v38=>cond (!v38) (some 10) ((Xap v.2.1.1).bind fun v39=>(Xap v.2.2.1.1).bind fun v40=>(Xcb v (v39.1.length:Int) v39.1 v39.2 () v40.1 v40.2 () 0).bind fun v41=>sel v41 (fun v42=>some v42) (fun v43=>some 0)))))))
namespace Xgd
def G:Gam:=mkG [(53,Xey.FS),(54,Xde.FS),(55,Xbh.FS),(56,Xf5.FS),(57,Xap.FS),(58,Xcm.FS),(59,Xhh.FS)]
theorem Gok:GOk PR G:=.cons Xey.ok (.cons Xde.ok (.cons Xbh.ok (.cons Xf5.ok (.cons Xap.ok (.cons Xcm.ok (.cons Xhh.ok .nil))))))
end Xgd
namespace Xcb
def c:=Yao (Yai Proofs.Tryz.f22) [1,1,1,1,1,1,1,1,1,1,0,1,0,0]
def sp:SP:=⟨[(1,.pt Xp),(8,.seg 62 [.f1]),(65,.seg 55 [.f1]),(66,.cs I64),(67,.cs I64)],[(55,.reg,.pr (.cd SI) (.pr (.cs .bool) (.cs .unit))),(62,.reg,.pr (.cd SI) (.pr (.cs .bool) (.cs .unit)))]⟩
def fr:=Yh3 sp (fun x s=>Xcb.B x.1.1 x.1.2.2.2.1 x.2.1.1 x.2.1.2.1 x.2.1.2.2 x.2.2.1.1 x.2.2.1.2.1 x.2.2.1.2.2 s) (fun x=>x.1.2.2.2.2.1) fun x (oo0:(Int⊕Unit)) _ kk0=>sel oo0 (fun bb0=>kk0 (.rt) ⟨[(2,.cs I64 bb0)],[]⟩) (fun cc0=>kk0 (.ex 0) ⟨[],[]⟩)
theorem ok:Ya9 PR 91 1 (.loop c) fr:=
 Yst Xe Xf ⟨[1],[],[],0⟩ .no (G:=Xgd.G) Xgd.Gok (L:=mkL []) (l:=[]) hT [(0,([],[]))] ([2],[]) (fun x s=>((x.1.1,x.1.2.1,x.1.2.2.1,x.1.2.2.2.1,s,x.1.2.2.2.2.2),x.2))
  (fun x s=>by simp only[B,mC,mB,mS,mO,mN];kernel_rfl)
end Xcb
namespace Xgd
def pts:List PT:=[.cs Xp]
def FS:FS:=Ycc [.sh] pts (fun x=>Xgd x.1) fun t=>⟨[.cs I64 t],[]⟩
theorem ok:Ycs PR 22 FS:=
 Ywh Xe Xf Proofs.Tryz.f22 ⟨[1],[],[],0⟩ (.R (.R (.R (.R (.R (.R (.R (.R (.R (.R (.L (.R (.one (.fr 0)))))))))))))) (G:=G) Gok (L:=mkL [(0,Xcb.fr)]) (l:=[(0,.loop Xcb.c)]) ⟨Lam.cons Xcb.ok,trivial⟩
  (fun x=>by simp only[Xgd,mC,mB,mS,mO,mN];kernel_rfl)
end Xgd
def Xg3.B (v:Fs_) (v2:Int) (v3:List Xj):Option ((Int×List Xj)⊕(List Xj)):=
 cond (decide (v2<10)) ((Xgz v.1).bind fun v4=>cond (decide (v2<v4)) (cond (inB v2 v.1.length) ((Xbk (v.1.getD v2.toNat Xb)).bind fun v5=>cond (decide ((v3++([(w64 ((17:Int)+v2),v5,())])).length≤2147483648)) (some (.inl (w64 (v2+1),v3++([(w64 ((17:Int)+v2),v5,())])))) none) none) (cond (decide ((v3++([(w64 ((17:Int)+v2),[],())])).length≤2147483648)) (some (.inl (w64 (v2+1),v3++([(w64 ((17:Int)+v2),[],())])))) none)) (some (.inr v3))
def Xg3 (v:Fs_):(Int×List Xj)→Option (List Xj):=
 Yaj fun s=>Xg3.B v s.1 s.2
def Xe5 (v:Fs_):Option (List Xj):=
 (Xg3 v (0,[])).bind fun v6=>some v6
namespace Xe5
def G:Gam:=mkG [(136,Xgz.FS),(137,Xbk.FS)]
theorem Gok:GOk PR G:=.cons Xgz.ok (.cons Xbk.ok .nil)
end Xe5
namespace Xg3
def c:=Yao (Yai Proofs.Tryz.f61) [1,1,0,1,0,0]
def sp:SP:=⟨[(0,.pt Xk),(3,.seg 3 []),(6,.cs I64)],[(3,.reg,.cd (.sl Xm))]⟩
def fr:=Yh3 sp (fun x s=>Xg3.B x.1.1 s.1 s.2) (fun x=>(x.1.2.2.1,x.2.1)) fun x (bb0:List Xj) _ kk0=>kk0 (.ex 0) ⟨[(3,.seg 3 [])],[sr 3 (.cd (.sl Xm) bb0)]⟩
theorem ok:Ya9 PR 34 1 (.loop c) fr:=
 Ywi Xe Xf h0 (G:=Xe5.G) Xe5.Gok [(0,([3],[3]))] (fun x s=>((x.1.1,x.1.2.1,s.1,x.1.2.2.2),(s.2,x.2.2)))
  (fun x s=>by simp only[B,mC,mB,mS,mO,mN];kernel_rfl)
end Xg3
namespace Xe5
def pts:List PT:=[.pt Xk]
def FS:FS:=Ycc [.sh] pts (fun x=>Xe5 x.1) fun t=>⟨[.cd (.sl Xm) t],[]⟩
theorem ok:Ycs PR 61 FS:=
 Ywh Xe Xf Proofs.Tryz.f61 h0 (.R (.R (.L (.R (.one (.fr 0)))))) (G:=G) Gok (L:=mkL [(0,Xg3.fr)]) (l:=[(0,.loop Xg3.c)]) ⟨Lam.cons Xg3.ok,trivial⟩
  (fun x=>by simp only[Xe5,mC,mB,mS,mO,mN];kernel_rfl)
end Xe5
def Xez.B (v:Xd) (v2:List Xj) (v3:Int) (v4:Int) (v5:List Xj):Option ((Int×List Xj)⊕(List Xj)):=
 cond (decide (v4<v3)) (cond (inB v4 v2.length) ((Xcy v (v2.getD v4.toNat Xv).1).bind fun v6=>(Xcf (v2.getD v4.toNat Xv).2.1 v6).bind fun v7=>cond (!v7) (cond (decide ((v5++([v2.getD v4.toNat Xv])).length≤2147483648)) (some (.inl (w64 (v4+1),v5++([v2.getD v4.toNat Xv])))) none) (some (.inl (w64 (v4+1),v5)))) none) (some (.inr v5))
def Xez (v:Xd) (v2:List Xj) (v3:Int):(Int×List Xj)→Option (List Xj):=
 Yaj fun s=>Xez.B v v2 v3 s.1 s.2
def Xcx (v:Xd) (v2:List Xj):Option (List Xj):=
 (Xez v v2 (v2.length:Int) (0,[])).bind fun v8=>some v8
namespace Xcx
def G:Gam:=mkG [(119,Xcy.FS),(135,Xcf.FS)]
theorem Gok:GOk PR G:=.cons Xcy.ok (.cons Xcf.ok .nil)
end Xcx
namespace Xez
def c:=Yao (Yai Proofs.Tryz.f60) [1,1,0,1,0,0]
def sp:SP:=⟨[(0,.pt Xh),(5,.seg 5 []),(8,.cs (.sl Xm)),(9,.cs I64),(10,.cs I64)],[(5,.reg,.cl .top (.sl Xm))]⟩
def fr:=Yh3 sp (fun x s=>Xez.B x.1.1 x.1.2.2.1 x.1.2.2.2.1 s.1 s.2) (fun x=>(x.1.2.2.2.2.1,x.2.1)) fun x (bb0:List Xj) _ kk0=>kk0 (.ex 0) ⟨[(5,.seg 5 [])],[(5,some ⟨.reg,.cl .top (.sl Xm) bb0⟩)]⟩
theorem ok:Ya9 PR 28 2 (.loop c) fr:=
 Ywi Xe Xf ⟨[],[5],[],0⟩ (G:=Xcx.G) Xcx.Gok [(0,([5],[5]))] (fun x s=>((x.1.1,x.1.2.1,x.1.2.2.1,x.1.2.2.2.1,s.1,x.1.2.2.2.2.2),(s.2,x.2.2)))
  (fun x s=>by simp only[B,mC,mB,mS,mO,mN];kernel_rfl)
end Xez
namespace Xcx
def pts:List PT:=[.pt Xh,.cs (.sl Xm)]
def FS:FS:=Ycc [.sh,.sh] pts (fun x=>Xcx x.1 x.2.1) fun t=>⟨[.cl .top (.sl Xm) t],[]⟩
theorem ok:Ycs PR 60 FS:=
 Ywh Xe Xf Proofs.Tryz.f60 ⟨[],[5],[],0⟩ (.R (.R (.L (.R (.one (.fr 0)))))) (G:=G) Gok (L:=mkL [(0,Xez.fr)]) (l:=[(0,.loop Xez.c)]) ⟨Lam.cons Xez.ok,trivial⟩
  (fun x=>by simp only[Xcx,mC,mB,mS,mO,mN];kernel_rfl)
end Xcx
def Xin (v:List Xj):Option Int:=
 some (v.length:Int)
namespace Xin
def pts:List PT:=[.cs (.sl Xm)]
def FS:FS:=Ycc [.sh] pts (fun x=>Xin x.1) fun t=>⟨[.cs I64 t],[]⟩
theorem ok:Ycs PR 62 FS:=
 Ywh Xe Xf Proofs.Tryz.f62 h0 .no (G:=(mkG [])) .nil (L:=mkL []) (l:=[]) hT
  (fun x=>by simp only[Xin,mC,mB,mS,mO,mN];kernel_rfl)
end Xin
def Xlh (v:Int):Option (List Int):=
 some ([7,v])
namespace Xlh
def pts:List PT:=[.cs I64]
def FS:FS:=Ycc [.sh] pts (fun x=>Xlh x.1) fun t=>⟨[.cd SI t],[]⟩
theorem ok:Ycs PR 64 FS:=
 Ywh Xe Xf Proofs.Tryz.f64 h0 .no (G:=(mkG [])) .nil (L:=mkL []) (l:=[]) hT
  (fun x=>by simp only[Xlh,mC,mB,mS,mO,mN];kernel_rfl)
end Xlh
def Xcs.B (v:Fs_) (v3:Int) (v4:Int) (v10:List Int) (v9:Int) (v5:List Xj) (v6:List Int) (v7:Bool) (v8:Unit) (v11:Int) (v12:Xj):Option ((Int×Xj)⊕Xj):=
 cond (decide (v11<v9)) (cond (inB v11 v10.length) (cond (decide ((v12.2.1++([w64 (v10.getD v11.toNat 0)])).length≤2147483648)) (some (.inl (w64 (v11+1),(v12.1,v12.2.1++([w64 (v10.getD v11.toNat 0)]),v12.2.2)))) none) none) (some (.inr v12))
def Xcs (v:Fs_) (v3:Int) (v4:Int) (v10:List Int) (v9:Int) (v5:List Xj) (v6:List Int) (v7:Bool) (v8:Unit):(Int×Xj)→Option Xj:=
 Yaj fun s=>Xcs.B v v3 v4 v10 v9 v5 v6 v7 v8 s.1 s.2
def Xd5.B (v:Fs_) (v3:Int) (v6:List Int) (v7:Bool) (v8:Unit) (v4:Int) (v5:List Xj):Option ((Int×List Xj)⊕(List Xj)):=
 cond (decide (v4<v3)) (cond (inB v4 v6.length) (cond (inB (v6.getD v4.toNat 0) v.2.1.length) ((some ((v.2.1.getD (v6.getD v4.toNat 0).toNat []).length:Int)).bind fun v9=>(Xcs v v3 v4 (v.2.1.getD (v6.getD v4.toNat 0).toNat []) v9 v5 v6 v7 v8 (0,(w64 ((27:Int)+(v6.getD v4.toNat 0)),[],()))).bind fun v13=>cond (decide ((v5++([(v13.1,v13.2.1,v13.2.2)])).length≤2147483648)) (some (.inl (w64 (v4+1),v5++([(v13.1,v13.2.1,v13.2.2)])))) none) none) none) (some (.inr v5))
def Xd5 (v:Fs_) (v3:Int) (v6:List Int) (v7:Bool) (v8:Unit):(Int×List Xj)→Option (List Xj):=
 Yaj fun s=>Xd5.B v v3 v6 v7 v8 s.1 s.2
def Xch (v:Fs_):Option (List Xj):=
 (Xap v.1).bind fun v2=>(Xd5 v (v2.1.length:Int) v2.1 v2.2 () (0,[])).bind fun v14=>some v14
namespace Xch
def G:Gam:=mkG [(57,Xap.FS)]
theorem Gok:GOk PR G:=.cons Xap.ok .nil
end Xch
namespace Xcs
def c:=Yao (Yai Proofs.Tryz.f67) [1,1,1,0,1,0,0,1,1,0,0,1,1,0,1,0,0]
def sp:SP:=⟨[(0,.pt Xk),(5,.seg 5 []),(8,.loc 8 []),(19,.seg 16 [.f1]),(20,.cs I64),(21,.cs I64),(34,.cs SB),(35,.cs I64),(36,.cs I64)],[(5,.reg,.cd (.sl Xm)),(8,.mem,.cd Xm),(16,.reg,.pr (.cd SI) (.pr (.cs .bool) (.cs .unit)))]⟩
def fr:=Yh3 sp (fun x s=>Xcs.B x.1.1 x.1.2.2.2.2.1 x.1.2.2.2.2.2.1 x.1.2.2.2.2.2.2.1 x.1.2.2.2.2.2.2.2.1 x.2.1 x.2.2.2.1.1 x.2.2.2.1.2.1 x.2.2.2.1.2.2 s.1 s.2) (fun x=>(x.1.2.2.2.2.2.2.2.2.1,x.2.2.1)) fun x (bb0:Xj) _ kk0=>kk0 (.ex 2) ⟨[(0,.pt Xk x.1.1),(5,.seg 5 []),(8,.loc 8 []),(19,.seg 16 [.f1]),(20,.cs I64 x.1.2.2.2.2.1),(21,.cs I64 x.1.2.2.2.2.2.1)],[sr 5 (.cd (.sl Xm) x.2.1),(8,some ⟨.mem,.cd Xm bb0⟩),(16,some ⟨.reg,.pr (.cd SI x.2.2.2.1.1) (.pr (.cs .bool x.2.2.2.1.2.1) (.cs .unit x.2.2.2.1.2.2))⟩)]⟩
theorem ok:Ya9 PR 54 1 (.loop c) fr:=
 Ywi Xe Xf h0 (G:=Xch.G) Xch.Gok [(2,([0,5,8,19,20,21],[5,8,16]))] (fun x s=>((x.1.1,x.1.2.1,x.1.2.2.1,x.1.2.2.2.1,x.1.2.2.2.2.1,x.1.2.2.2.2.2.1,x.1.2.2.2.2.2.2.1,x.1.2.2.2.2.2.2.2.1,s.1,x.1.2.2.2.2.2.2.2.2.2),(x.2.1,s.2,x.2.2.2)))
  (fun x s=>by simp only[B,mC,mB,mS,mO,mN];kernel_rfl)
end Xcs
namespace Xd5
def c:=Yao (Yai Proofs.Tryz.f67) [1,1,1,0,1,0,0]
def sp:SP:=⟨[(0,.pt Xk),(5,.seg 5 []),(19,.seg 16 [.f1]),(20,.cs I64),(21,.cs I64)],[(5,.reg,.cd (.sl Xm)),(16,.reg,.pr (.cd SI) (.pr (.cs .bool) (.cs .unit)))]⟩
def fr:=Yh3 sp (fun x s=>Xd5.B x.1.1 x.1.2.2.2.1 x.2.2.1.1 x.2.2.1.2.1 x.2.2.1.2.2 s.1 s.2) (fun x=>(x.1.2.2.2.2.1,x.2.1)) fun x (bb0:List Xj) _ kk0=>kk0 (.ex 0) ⟨[(5,.seg 5 [])],[sr 5 (.cd (.sl Xm) bb0)]⟩
theorem ok:Ya9 PR 54 1 (.loop c) fr:=
 Ywl Xe Xf h0 (.R (.R (.L (.one (.R (.R (.L (.R (.one (.fr 1)))))))))) (G:=Xch.G) Xch.Gok (L:=mkL [(1,Xcs.fr)]) (l:=[(1,.loop Xcs.c)]) ⟨Lam.cons Xcs.ok,trivial⟩ [(0,([5],[5]))] (fun x s=>((x.1.1,x.1.2.1,x.1.2.2.1,x.1.2.2.2.1,s.1,x.1.2.2.2.2.2),(s.2,x.2.2)))
  (fun x s=>by simp only[B,mC,mB,mS,mO,mN];kernel_rfl)
end Xd5
namespace Xch
def pts:List PT:=[.pt Xk]
def FS:FS:=Ycc [.sh] pts (fun x=>Xch x.1) fun t=>⟨[.cd (.sl Xm) t],[]⟩
theorem ok:Ycs PR 67 FS:=
 Ywh Xe Xf Proofs.Tryz.f67 h0 (.R (.R (.R (.L (.R (.one (.fr 0))))))) (G:=G) Gok (L:=mkL [(1,Xcs.fr),(0,Xd5.fr)]) (l:=[(0,.loop Xd5.c)]) ⟨Lam.skip rfl (Lam.cons Xd5.ok),trivial⟩
  (fun x=>by simp only[Xch,mC,mB,mS,mO,mN];kernel_rfl)
end Xch
noncomputable def Xha (l:List Xj):Option (List Xr):=Ygh l
noncomputable def Xha.FS:FS:=Ycc [.sh] [.cl .sh (.sl Ya7)] (fun x=>Ygh x.1) fun y=>⟨[.cl .deep (.sl Yik) y],[]⟩
theorem Xha.okA:Ycs Go.Proofs.Tryz.prog 139 (Ycc [.sh] [.cl .sh (.sl Ya7)] (fun x=>Ylo x.1) fun y=>⟨[.cl .top (.sl Ya7) y],[]⟩):=
 Yvn (hn:=⟨[],[],[],1⟩) Xe Xf (fn:=Go.Proofs.Tryz.f139) (by kernel_rfl) (Yjz (by kernel_rfl)) (by kernel_rfl) (by kernel_rfl) .top Xm 40 40 121 (by kernel_rfl) (by kernel_rfl) (by kernel_rfl) (by kernel_rfl) (by kernel_rfl) (by kernel_rfl) (by kernel_rfl) (by kernel_rfl) (fun xs=>by kernel_rfl) (fun xs=>by kernel_rfl) (fun xs=>by kernel_rfl) (fun xs=>by kernel_rfl)
theorem Xha.okB:Ycs Go.Proofs.Tryz.prog 63 (Ycc [.sh] [.cl .sh (.sl (.int .i64))] (fun x=>Ylo x.1) fun y=>⟨[.cl .deep (.sl (.int .i64)) y],[]⟩):=
 Yvn (hn:=⟨[],[],[],0⟩) Xe Xf (fn:=Go.Proofs.Tryz.f63) (by kernel_rfl) (Yjz (by kernel_rfl)) (by kernel_rfl) (by kernel_rfl) .deep (.int .i64) 97 97 2 (by kernel_rfl) (by kernel_rfl) (by kernel_rfl) (by kernel_rfl) (by kernel_rfl) (by kernel_rfl) (by kernel_rfl) (by kernel_rfl) (fun xs=>by kernel_rfl) (fun xs=>by kernel_rfl) (fun xs=>by kernel_rfl) (fun xs=>by kernel_rfl)
theorem Xha.ok:Ycs Go.Proofs.Tryz.prog 66 Xha.FS:=
 Ytv ⟨Go.Proofs.Tryz.f66,by kernel_rfl,by kernel_rfl,by kernel_rfl⟩ (fun w A c l hr hl hls=>callsIn_wide.1 (Go.Proofs.Ps.putSteps_in Fence.wide 1 trivial trivial (jB _) rfl (fun m w A c l hr hl hls=>callsIn_wide.2 (callsIn_wide.1 (Go.Proofs.Cp.clonePuts_in Fence.wide 1 trivial trivial trivial (jB _) rfl (fun m w A c xs hr hl=>callsIn_wide.2 (Yto Xha.okA (by decide) Yvt w A c xs hr hl)) (fun m w A c xs hr hl=>callsIn_wide.2 (Yto Xha.okB (by decide) Yvq w A c xs hr hl)) w A c l hr hl hls))) (by kernel_rfl) w A c l hr hl hls))
def Xmk (x:List (List Xr)):Option (List Xr):=Yhr x
def Xmk.FS:FS:=Ycc [.mv] [.cl .deep (.sl (.sl X6))] (fun x=>Yhr x.1) fun y=>⟨[.cl .deep (.sl X6) y],[]⟩
theorem Xmk.ok:Ycs Go.Proofs.Tryz.prog 65 Xmk.FS:=
 Yus (E:=118) ⟨Go.Proofs.Tryz.f65,by kernel_rfl,by kernel_rfl,by kernel_rfl⟩ (fun w A b off m c hs cs hA hr hm ht=>Go.Proofs.Cc65.concat_in w A b off m c hs cs (by kernel_rfl) hA hr hm ht)
def Xdh.B (v:Xd) (v2:Fs_) (v7:Int) (v8:Int) (v5:List Xj) (v10:Bool) (v11:Int) (v12:Unit) (v9:Int) (v13:List Int) (v14:List Xr):Option ((Int×(List Int)×List Xr)⊕((List Int)×List Xr)):=
 cond (decide (v9<v8)) (cond (inB v9 v5.length) (cond (decide ((v13++([(v5.getD v9.toNat Xv).1])).length≤2147483648)) ((Xak (v5.getD v9.toNat Xv).2.1).bind fun v15=>(some (v14++([(false,w64 ((2:Int)+v9),v15,())]))).bind fun v16=>cond (decide (v16.length≤2147483648)) (some (.inl (w64 (v9+1),v13++([(v5.getD v9.toNat Xv).1]),v16))) none) none) none) (some (.inr (v13,v14)))
def Xdh (v:Xd) (v2:Fs_) (v7:Int) (v8:Int) (v5:List Xj) (v10:Bool) (v11:Int) (v12:Unit):(Int×(List Int)×List Xr)→Option ((List Int)×List Xr):=
 Yaj fun s=>Xdh.B v v2 v7 v8 v5 v10 v11 v12 s.1 s.2.1 s.2.2
def Xcq (v:Xd) (v2:Fs_):Option ((List Xr)×Int):=
 (Xey v).bind fun v3=>cond (v3.1 == 60000) (some ([],8)) ((Xe5 v2).bind fun v4=>(Xcx v v4).bind fun v5=>cond ((v5.length:Int) == 0) (some ([],0)) ((Xin v5).bind fun v6=>(Xdh v v2 v3.1 (v5.length:Int) v5 true 0 () (0,[1,v3.1,v6],[])).bind fun v17=>(Xin v5).bind fun v18=>(Xin v5).bind fun v19=>(Xlh (w64 (v3.1+1))).bind fun v20=>(Xch v2).bind fun v21=>(Xcx v v21).bind fun v22=>(Xha v22).bind fun v23=>(Xha v5).bind fun v24=>(Xmk ([v23,[(true,0,[],()),(false,1,v17.1,())],v17.2,[(true,0,[],()),(false,w64 ((2:Int)+v18),[2,v3.1,v19],()),(true,0,[],())],v24,[(true,0,[],()),(false,0,v20,()),(true,0,[],())]])).bind fun v25=>some (v25,0)))
namespace Xcq
def G:Gam:=mkG [(53,Xey.FS),(61,FS.frz Xe5.FS),(60,Xcx.FS),(62,Xin.FS),(63,Xak.FS),(64,Xlh.FS),(67,FS.frz Xch.FS),(66,Xha.FS),(65,Xmk.FS)]
theorem Gok:GOk PR G:=.cons Xey.ok (.cons (Ycs.frz Xe5.ok) (.cons Xcx.ok (.cons Xin.ok (.cons Xak.ok (.cons Xlh.ok (.cons (Ycs.frz Xch.ok) (.cons Xha.ok (.cons Xmk.ok .nil))))))))
end Xcq
namespace Xdh
def c:=Yao (Yai Proofs.Tryz.f23) [1,1,1,1,1,1,1,1,0,1,0,0]
def sp:SP:=⟨[(2,.pt Xh),(3,.pt Xk),(6,.cs I64),(8,.seg 8 []),(9,.loc 9 []),(10,.seg 10 []),(11,.seg 11 []),(33,.seg 8 []),(34,.cs I64),(35,.cs I64)],[(8,.reg,.cl .top (.sl Xm)),(9,.mem,.pr (.cs .bool) (.pr (.cs I64) (.pr (.nl) (.cs .unit)))),(10,.reg,.cd SI),(11,.reg,.cd (.sl X6))]⟩
def fr:=Yh3 sp (fun x s=>Xdh.B x.1.1 x.1.2.1 x.1.2.2.1 x.1.2.2.2.2.2.2.2.2.1 x.2.1 x.2.2.1.1 x.2.2.1.2.1 x.2.2.1.2.2.2 s.1 s.2.1 s.2.2) (fun x=>(x.1.2.2.2.2.2.2.2.2.2.1,x.2.2.2.1,x.2.2.2.2.1)) fun x (bb0:(List Int)×List Xr) _ kk0=>kk0 (.ex 0) ⟨[(2,.pt Xh x.1.1),(3,.pt Xk x.1.2.1),(6,.cs I64 x.1.2.2.1),(8,.seg 8 []),(9,.loc 9 []),(10,.seg 10 []),(11,.seg 11 [])],[(8,some ⟨.reg,.cl .top (.sl Xm) x.2.1⟩),(9,some ⟨.mem,.pr (.cs .bool x.2.2.1.1) (.pr (.cs I64 x.2.2.1.2.1) (.pr (.nl) (.cs .unit x.2.2.1.2.2.2)))⟩),sr 10 (.cd SI bb0.1),sr 11 (.cd (.sl X6) bb0.2)]⟩
theorem ok:Ya9 PR 87 2 (.loop c) fr:=
 Ywi Xe Xf ⟨[2,3],[],[9],0⟩ (G:=Xcq.G) Xcq.Gok [(0,([2,3,6,8,9,10,11],[8,9,10,11]))] (fun x s=>((x.1.1,x.1.2.1,x.1.2.2.1,x.1.2.2.2.1,x.1.2.2.2.2.1,x.1.2.2.2.2.2.1,x.1.2.2.2.2.2.2.1,x.1.2.2.2.2.2.2.2.1,x.1.2.2.2.2.2.2.2.2.1,s.1,x.1.2.2.2.2.2.2.2.2.2.2),(x.2.1,x.2.2.1,s.2.1,s.2.2,x.2.2.2.2.2)))
  (fun x s=>by simp only[B,mC,mB,mS,mO,mN];kernel_rfl)
end Xdh
namespace Xcq
def pts:List PT:=[.cs Xh,.cs Xk]
def FS:FS:=Ycc [.sh,.sh] pts (fun x=>Xcq x.1 x.2.1) fun t=>⟨[.cd (.sl X6) t.1,.cs I64 t.2],[]⟩
theorem ok:Ycs PR 23 FS:=
 Ywh Xe Xf Proofs.Tryz.f23 ⟨[2,3],[],[9],0⟩ (.R (.R (.R (.R (.R (.R (.R (.R (.L (.R (.one (.fr 0)))))))))))) (G:=G) Gok (L:=mkL [(0,Xdh.fr)]) (l:=[(0,.loop Xdh.c)]) ⟨Lam.cons Xdh.ok,trivial⟩
  (fun x=>by simp only[Xcq,mC,mB,mS,mO,mN];kernel_rfl)
end Xcq
noncomputable def Xhw (l:List Xj):Option (List Xj):=Yfe l
noncomputable def Xhw.FS:FS:=Ycc [.sh] [.cl .sh (.sl Ya7)] (fun x=>Yfe x.1) fun y=>⟨[.cl .deep (.sl Ya7) y],[]⟩
theorem Xhw.okA:Ycs Go.Proofs.Tryz.prog 139 (Ycc [.sh] [.cl .sh (.sl Ya7)] (fun x=>Ylo x.1) fun y=>⟨[.cl .top (.sl Ya7) y],[]⟩):=
 Yvn (hn:=⟨[],[],[],1⟩) Xe Xf (fn:=Go.Proofs.Tryz.f139) (by kernel_rfl) (Yjz (by kernel_rfl)) (by kernel_rfl) (by kernel_rfl) .top Xm 40 40 121 (by kernel_rfl) (by kernel_rfl) (by kernel_rfl) (by kernel_rfl) (by kernel_rfl) (by kernel_rfl) (by kernel_rfl) (by kernel_rfl) (fun xs=>by kernel_rfl) (fun xs=>by kernel_rfl) (fun xs=>by kernel_rfl) (fun xs=>by kernel_rfl)
theorem Xhw.okB:Ycs Go.Proofs.Tryz.prog 63 (Ycc [.sh] [.cl .sh (.sl (.int .i64))] (fun x=>Ylo x.1) fun y=>⟨[.cl .deep (.sl (.int .i64)) y],[]⟩):=
 Yvn (hn:=⟨[],[],[],0⟩) Xe Xf (fn:=Go.Proofs.Tryz.f63) (by kernel_rfl) (Yjz (by kernel_rfl)) (by kernel_rfl) (by kernel_rfl) .deep (.int .i64) 97 97 2 (by kernel_rfl) (by kernel_rfl) (by kernel_rfl) (by kernel_rfl) (by kernel_rfl) (by kernel_rfl) (by kernel_rfl) (by kernel_rfl) (fun xs=>by kernel_rfl) (fun xs=>by kernel_rfl) (fun xs=>by kernel_rfl) (fun xs=>by kernel_rfl)
theorem Xhw.ok:Ycs Go.Proofs.Tryz.prog 68 Xhw.FS:=
 Ysk ⟨Go.Proofs.Tryz.f68,by kernel_rfl,by kernel_rfl,by kernel_rfl⟩ (fun w A c l hr hl hls=>callsIn_wide.1 (Go.Proofs.Cp.clonePuts_in Fence.wide 1 trivial trivial trivial (jB _) rfl (fun m w A c xs hr hl=>callsIn_wide.2 (Yto Xhw.okA (by decide) Yvt w A c xs hr hl)) (fun m w A c xs hr hl=>callsIn_wide.2 (Yto Xhw.okB (by decide) Yvq w A c xs hr hl)) w A c l hr hl hls))
def Xfx.B (v:Xd) (v2:List (List Int)) (v3:Int) (v5:Xd) (v4:Int) (v6:Xd):Option ((Int×Xd)⊕Xd):=
 cond (decide (v4<v3)) (cond (inB v4 v2.length) ((Xak (v2.getD v4.toNat [])).bind fun v7=>cond (decide ((v6.1++([v7])).length≤2147483648)) (some (.inl (w64 (v4+1),(v6.1++([v7]),v6.2)))) none) none) (some (.inr v6))
def Xfx (v:Xd) (v2:List (List Int)) (v3:Int) (v5:Xd):(Int×Xd)→Option Xd:=
 Yaj fun s=>Xfx.B v v2 v3 v5 s.1 s.2
def Xfb (v:Xd):Option Xd:=
 (Xfx v v.1 (v.1.length:Int) ([],[],()) (0,([],[],()))).bind fun v8=>(Xhw v.2.1).bind fun v9=>some (v8.1,v9,())
namespace Xfb
def G:Gam:=mkG [(63,Xak.FS),(68,Xhw.FS)]
theorem Gok:GOk PR G:=.cons Xak.ok (.cons Xhw.ok .nil)
end Xfb
namespace Xfx
def c:=Yao (Yai Proofs.Tryz.f24) [1,1,0,1,0,0]
def sp:SP:=⟨[(1,.pt Xh),(2,.loc 2 []),(3,.loc 3 []),(7,.cs (.sl SI)),(8,.cs I64),(9,.cs I64)],[(2,.mem,.cd Xh),(3,.mem,.cd Xh)]⟩
def fr:=Yh3 sp (fun x s=>Xfx.B x.1.1 x.1.2.2.2.1 x.1.2.2.2.2.1 x.2.1 s.1 s.2) (fun x=>(x.1.2.2.2.2.2.1,x.2.2.1)) fun x (bb0:Xd) _ kk0=>kk0 (.ex 0) ⟨[(1,.pt Xh x.1.1),(2,.loc 2 []),(3,.loc 3 [])],[(2,some ⟨.mem,.cd Xh x.2.1⟩),(3,some ⟨.mem,.cd Xh bb0⟩)]⟩
theorem ok:Ya9 PR 27 1 (.loop c) fr:=
 Ywi Xe Xf ⟨[1],[],[],0⟩ (G:=Xfb.G) Xfb.Gok [(0,([1,2,3],[2,3]))] (fun x s=>((x.1.1,x.1.2.1,x.1.2.2.1,x.1.2.2.2.1,x.1.2.2.2.2.1,s.1,x.1.2.2.2.2.2.2),(x.2.1,s.2,x.2.2.2)))
  (fun x s=>by simp only[B,mC,mB,mS,mO,mN];kernel_rfl)
end Xfx
namespace Xfb
def pts:List PT:=[.cs Xh]
def FS:FS:=Ycc [.sh] pts (fun x=>Xfb x.1) fun t=>⟨[.cd Xh t],[]⟩
theorem ok:Ycs PR 24 FS:=
 Ywh Xe Xf Proofs.Tryz.f24 ⟨[1],[],[],0⟩ (.R (.R (.L (.R (.one (.fr 0)))))) (G:=G) Gok (L:=mkL [(0,Xfx.fr)]) (l:=[(0,.loop Xfx.c)]) ⟨Lam.cons Xfx.ok,trivial⟩
  (fun x=>by simp only[Xfb,mC,mB,mS,mO,mN];kernel_rfl)
end Xfb
noncomputable def Xms (d:Xd):Option Xd:=Yk0 d
noncomputable def Xms.FS:FS:=Ycc [.mu] [.op (.cl .deep Y6)] (fun x=>Yk0 x.1) fun y=>⟨[],[.op (.cl .deep Y6 y)]⟩
theorem Xms.ok:Ycs Go.Proofs.Tryz.prog 69 Xms.FS:=
 Yu6 ⟨Go.Proofs.Tryz.f69,by kernel_rfl,by kernel_rfl,by kernel_rfl⟩ (fun w A C bd od bB oB bC oC nB cB nC cC at_ hc hb h1 h2 h3 h4 h5 h6 h7 h8 h9=>Go.Proofs.Fl.flush_in w A C bd od bB oB bC oC nB cB nC cC at_ hc hb h1 h2 h3 h4 h5 h6 h7 h8 h9)
def Xlz (v:Xd) (v2:Int) (v3:List Int):Option Xd:=
 (Xak v3).bind fun v4=>cond (decide ((v.2.1++([(v2,v4,())])).length≤2147483648)) (some (v.1,v.2.1++([(v2,v4,())]),v.2.2)) none
namespace Xlz
def G:Gam:=mkG [(63,Xak.FS)]
def pts:List PT:=[.op (.cd Xh),.cs I64,.cs SI]
def FS:FS:=Ycc [.mu,.sh,.sh] pts (fun x=>Xlz x.1 x.2.1 x.2.2.1) fun t=>⟨[],[.op (.cd Xh t)]⟩
theorem ok:Ycs PR 70 FS:=
 Ywh Xe Xf Proofs.Tryz.f70 h0 .no (G:=G) (show GOk PR G from .cons Xak.ok .nil) (L:=mkL []) (l:=[]) hT
  (fun x=>by simp only[Xlz,mC,mB,mS,mO,mN];kernel_rfl)
end Xlz
def Xa8.B (v2:List Xr) (v3:Int) (v4:Int) (v5:Xd):Option ((Int×Xd)⊕(((Int×Xd)⊕Xd))):=
 cond (decide (v4<v3)) (cond (inB v4 v2.length) (cond (v2.getD v4.toNat Xiu).1 ((Xms v5).bind fun v6=>some (.inl (w64 (v4+1),v6))) (cond ((v5.2.1.length:Int) == 200) (some (.inr (.inl (2,v5)))) ((Xlz v5 (v2.getD v4.toNat Xiu).2.1 (v2.getD v4.toNat Xiu).2.2.1).bind fun v7=>some (.inl (w64 (v4+1),v7))))) none) (some (.inr (.inr v5)))
def Xa8 (v2:List Xr) (v3:Int):(Int×Xd)→Option (((Int×Xd)⊕Xd)):=
 Yaj fun s=>Xa8.B v2 v3 s.1 s.2
def Xhe (v:Xd) (v2:List Xr):Option (Int×Xd):=
 (Xa8 v2 (v2.length:Int) (0,v)).bind fun v8=>sel v8 (fun v9=>some (v9.1,v9.2)) (fun v10=>some (0,v10))
namespace Xhe
def G:Gam:=mkG [(69,Xms.FS),(70,Xlz.FS)]
theorem Gok:GOk PR G:=.cons Xms.ok (.cons Xlz.ok .nil)
end Xhe
namespace Xa8
def c:=Yao (Yai Proofs.Tryz.f25) [1,0,1,0,0]
def sp:SP:=⟨[(0,.loc 0 []),(7,.cs (.sl X6)),(8,.cs I64),(9,.cs I64)],[(0,.mem,.cd Xh)]⟩
def fr:=Yh3 sp (fun x s=>Xa8.B x.1.2.1 x.1.2.2.1 s.1 s.2) (fun x=>(x.1.2.2.2.1,x.2.1)) fun x (oo0:((Int×Xd)⊕Xd)) _ kk0=>sel oo0 (fun bb0=>kk0 (.rt) ⟨[(4,.cs I64 bb0.1)],[(0,some ⟨.mem,.cd Xh bb0.2⟩)]⟩) (fun cc0=>kk0 (.ex 0) ⟨[],[(0,some ⟨.mem,.cd Xh cc0⟩)]⟩)
theorem ok:Ya9 PR 32 2 (.loop c) fr:=
 Yst Xe Xf h0 .no (G:=Xhe.G) Xhe.Gok (L:=mkL []) (l:=[]) hT [(0,([],[0]))] ([4],[0]) (fun x s=>((x.1.1,x.1.2.1,x.1.2.2.1,s.1,x.1.2.2.2.2),(s.2,x.2.2)))
  (fun x s=>by simp only[B,mC,mB,mS,mO,mN];kernel_rfl)
end Xa8
namespace Xhe
def pts:List PT:=[.op (.cd Xh),.cs (.sl X6)]
def FS:FS:=Ycc [.mu,.sh] pts (fun x=>Xhe x.1 x.2.1) fun t=>⟨[.cs I64 t.1],[.op (.cd Xh t.2)]⟩
theorem ok:Ycs PR 25 FS:=
 Ywh Xe Xf Proofs.Tryz.f25 h0 (.R (.L (.R (.one (.fr 0))))) (G:=G) Gok (L:=mkL [(0,Xa8.fr)]) (l:=[(0,.loop Xa8.c)]) ⟨Lam.cons Xa8.ok,trivial⟩
  (fun x=>by simp only[Xhe,mC,mB,mS,mO,mN];kernel_rfl)
end Xhe
noncomputable def Xlk (s:List Int):Option (List Int):=Ylo s
noncomputable def Xlk.FS:FS:=Ycc [.sh] [.cl .sh (.sl (.int .u8))] (fun x=>Xlk x.1) fun y=>⟨[.cl .deep (.sl (.int .u8)) y],[]⟩
theorem Xlk.ok:Ycs Go.Proofs.Tryz.prog 140 Xlk.FS:=
 Yvn (hn:=⟨[],[],[],0⟩) Xe Xf (fn:=Go.Proofs.Tryz.f140) (by kernel_rfl) (Yjz (by kernel_rfl)) (by kernel_rfl) (by kernel_rfl) .deep (.int .u8) 33 33 5 (by kernel_rfl) (by kernel_rfl) (by kernel_rfl) (by kernel_rfl) (by kernel_rfl) (by kernel_rfl) (by kernel_rfl) (by kernel_rfl) (fun xs=>by kernel_rfl) (fun xs=>by kernel_rfl) (fun xs=>by kernel_rfl) (fun xs=>by kernel_rfl)
def Xfr.B (v:List (List Int)) (v2:Int) (v3:Int) (v4:List (List Int)):Option ((Int×List (List Int))⊕(List (List Int))):=
 cond (decide (v3<v2)) (cond (inB v3 v.length) ((Xlk (v.getD v3.toNat [])).bind fun v5=>cond (decide ((v4++([v5])).length≤2147483648)) (some (.inl (w64 (v3+1),v4++([v5])))) none) none) (some (.inr v4))
def Xfr (v:List (List Int)) (v2:Int):(Int×List (List Int))→Option (List (List Int)):=
 Yaj fun s=>Xfr.B v v2 s.1 s.2
def Xf3 (v:List (List Int)):Option (List (List Int)):=
 (Xfr v (v.length:Int) (0,[])).bind fun v6=>some v6
namespace Xf3
def G:Gam:=mkG [(140,Xlk.FS)]
theorem Gok:GOk PR G:=.cons Xlk.ok .nil
end Xf3
namespace Xfr
def c:=Yao (Yai Proofs.Tryz.f71) [1,1,0,1,0,0]
def sp:SP:=⟨[(3,.seg 3 []),(6,.cs (.sl SB)),(7,.cs I64),(8,.cs I64)],[(3,.reg,.cd (.sl SB))]⟩
def fr:=Yh3 sp (fun x s=>Xfr.B x.1.2.1 x.1.2.2.1 s.1 s.2) (fun x=>(x.1.2.2.2.1,x.2.1)) fun x (bb0:List (List Int)) _ kk0=>kk0 (.ex 0) ⟨[(3,.seg 3 [])],[sr 3 (.cd (.sl SB) bb0)]⟩
theorem ok:Ya9 PR 19 1 (.loop c) fr:=
 Ywi Xe Xf h0 (G:=Xf3.G) Xf3.Gok [(0,([3],[3]))] (fun x s=>((x.1.1,x.1.2.1,x.1.2.2.1,s.1,x.1.2.2.2.2),(s.2,x.2.2)))
  (fun x s=>by simp only[B,mC,mB,mS,mO,mN];kernel_rfl)
end Xfr
namespace Xf3
def pts:List PT:=[.cs (.sl SB)]
def FS:FS:=Ycc [.sh] pts (fun x=>Xf3 x.1) fun t=>⟨[.cd (.sl SB) t],[]⟩
theorem ok:Ycs PR 71 FS:=
 Ywh Xe Xf Proofs.Tryz.f71 h0 (.R (.R (.L (.R (.one (.fr 0)))))) (G:=G) Gok (L:=mkL [(0,Xfr.fr)]) (l:=[(0,.loop Xfr.c)]) ⟨Lam.cons Xfr.ok,trivial⟩
  (fun x=>by simp only[Xf3,mC,mB,mS,mO,mN];kernel_rfl)
end Xf3
noncomputable def Xl0 (s:List Xg):Option (List Xg):=Ylo s
noncomputable def Xl0.FS:FS:=Ycc [.sh] [.cl .sh (.sl Xi)] (fun x=>Xl0 x.1) fun y=>⟨[.cl .deep (.sl Xi) y],[]⟩
theorem Xl0.ok:Ycs Go.Proofs.Tryz.prog 72 Xl0.FS:=
 Yvn (hn:=⟨[],[],[],0⟩) Xe Xf (fn:=Go.Proofs.Tryz.f72) (by kernel_rfl) (Yjz (by kernel_rfl)) (by kernel_rfl) (by kernel_rfl) .deep Xi 98 98 129 (by kernel_rfl) (by kernel_rfl) (by kernel_rfl) (by kernel_rfl) (by kernel_rfl) (by kernel_rfl) (by kernel_rfl) (by kernel_rfl) (fun xs=>by kernel_rfl) (fun xs=>by kernel_rfl) (fun xs=>by kernel_rfl) (fun xs=>by kernel_rfl)
def Xfh.B (v3:List Xa) (v4:Int) (v6:Fs_) (v5:Int) (v7:Fs_):Option ((Int×Fs_)⊕Fs_):=
 cond (decide (v5<v4)) (cond (inB v5 v3.length) ((Xak (v3.getD v5.toNat Xb).2.2.2.1).bind fun v8=>(Xl0 (v3.getD v5.toNat Xb).2.2.2.2.1).bind fun v9=>(some (v7.1++([((v3.getD v5.toNat Xb).1,(v3.getD v5.toNat Xb).2.1,(v3.getD v5.toNat Xb).2.2.1,v8,v9,(v3.getD v5.toNat Xb).2.2.2.2.2)]))).bind fun v10=>cond (decide (v10.length≤2147483648)) (some (.inl (w64 (v5+1),(v10,v7.2)))) none) none) (some (.inr v7))
def Xfh (v3:List Xa) (v4:Int) (v6:Fs_):(Int×Fs_)→Option Fs_:=
 Yaj fun s=>Xfh.B v3 v4 v6 s.1 s.2
def Xcw (v:Fs_):Option Fs_:=
 (Xf3 v.2.1).bind fun v2=>(Xfh v.1 (v.1.length:Int) ([],[],()) (0,([],v2,()))).bind fun v11=>some (v11.1,v11.2.1,v11.2.2)
namespace Xcw
def G:Gam:=mkG [(71,Xf3.FS),(63,Xak.FS),(72,Xl0.FS)]
theorem Gok:GOk PR G:=.cons Xf3.ok (.cons Xak.ok (.cons Xl0.ok .nil))
end Xcw
namespace Xfh
def c:=Yao (Yai Proofs.Tryz.f26) [1,1,0,1,0,0]
def sp:SP:=⟨[(2,.loc 2 []),(3,.loc 3 []),(11,.cs (.sl Xc)),(12,.cs I64),(13,.cs I64)],[(2,.mem,.cd Xk),(3,.mem,.cd Xk)]⟩
def fr:=Yh3 sp (fun x s=>Xfh.B x.1.2.2.1 x.1.2.2.2.1 x.2.1 s.1 s.2) (fun x=>(x.1.2.2.2.2.1,x.2.2.1)) fun x (bb0:Fs_) _ kk0=>kk0 (.ex 0) ⟨[(2,.loc 2 []),(3,.loc 3 [])],[(2,some ⟨.mem,.cd Xk x.2.1⟩),(3,some ⟨.mem,.cd Xk bb0⟩)]⟩
theorem ok:Ya9 PR 33 1 (.loop c) fr:=
 Ywi Xe Xf ⟨[1],[],[],0⟩ (G:=Xcw.G) Xcw.Gok [(0,([2,3],[2,3]))] (fun x s=>((x.1.1,x.1.2.1,x.1.2.2.1,x.1.2.2.2.1,s.1,x.1.2.2.2.2.2),(x.2.1,s.2,x.2.2.2)))
  (fun x s=>by simp only[B,mC,mB,mS,mO,mN];kernel_rfl)
end Xfh
namespace Xcw
def pts:List PT:=[.cs Xk]
def FS:FS:=Ycc [.sh] pts (fun x=>Xcw x.1) fun t=>⟨[.cd Xk t],[]⟩
theorem ok:Ycs PR 26 FS:=
 Ywh Xe Xf Proofs.Tryz.f26 ⟨[1],[],[],0⟩ (.R (.R (.L (.R (.one (.fr 0)))))) (G:=G) Gok (L:=mkL [(0,Xfh.fr)]) (l:=[(0,.loop Xfh.c)]) ⟨Lam.cons Xfh.ok,trivial⟩
  (fun x=>by simp only[Xcw,mC,mB,mS,mO,mN];kernel_rfl)
end Xcw
def Xhr (v:X0):Option Xaa:=
 (Xgd v).bind fun v2=>cond (v2 != 0) (some (v2,(0,0,0,[],[],([],[],()),()),(([],[],()),([],[],()),([],[],()),()),())) ((Xcq v.1 v.2.1).bind fun v3=>cond (v3.2 != 0) (some (v3.2,(0,0,0,[],[],([],[],()),()),(([],[],()),([],[],()),([],[],()),()),())) ((Xfb v.1).bind fun v4=>(Xhe (v4.1,v4.2.1,v4.2.2) v3.1).bind fun v5=>cond (v5.1 != 0) (some (v5.1,(0,0,0,[],[],([],[],()),()),(([],[],()),([],[],()),([],[],()),()),())) ((Xcw v.2.1).bind fun v6=>(Xcw v.2.1).bind fun v7=>some (0,(0,0,0,[],[],([],[],()),()),((v5.2.1,v5.2.2.1,v5.2.2.2),(v6.1,v6.2.1,v6.2.2),(v7.1,v7.2.1,v7.2.2),()),()))))
namespace Xhr
def G:Gam:=mkG [(22,Xgd.FS),(23,Xcq.FS),(24,Xfb.FS),(25,Xhe.FS),(26,Xcw.FS)]
def pts:List PT:=[.cs Xp]
def FS:FS:=Ycc [.sh] pts (fun x=>Xhr x.1) fun t=>⟨[.cd Xt t],[]⟩
theorem ok:Ycs PR 7 FS:=
 Ywh Xe Xf Proofs.Tryz.f7 ⟨[1],[],[],0⟩ .no (G:=G) (show GOk PR G from .cons Xgd.ok (.cons Xcq.ok (.cons Xfb.ok (.cons Xhe.ok (.cons Xcw.ok .nil))))) (L:=mkL []) (l:=[]) hT
  (fun x=>by simp only[Xhr,mC,mB,mS,mO,mN];kernel_rfl)
end Xhr
def Xd3.B (a:List Int) (b:List Int) (i_:Int):Option (Int⊕((Bool⊕Unit))):=
 cond (decide (i_<(a.length:Int))) (cond (inB i_ a.length) (cond (inB i_ b.length) (cond ((a.getD i_.toNat 0) != (b.getD i_.toNat 0)) (some (.inr (.inl false))) (some (.inl (w64 (i_+1))))) none) none) (some (.inr (.inr ())))
def Xd3 (a:List Int) (b:List Int):Int→Option ((Bool⊕Unit)):=
 Yaj fun s=>Xd3.B a b s
def Xg9 (a:List Int) (b:List Int):Option Bool:=
 cond ((a.length:Int) != (b.length:Int)) (some false) ((Xd3 a b 0).bind fun o=>sel o (fun b2=>some b2) (fun c=>some true))
namespace Xd3
def c:=Yao (Yai Proofs.Tryz.f73) [1,1,0,1,0,0]
def sp:SP:=⟨[(0,.cs SB),(1,.cs SB),(5,.cs I64)],[]⟩
def fr:=Yh3 sp (fun x s=>Xd3.B x.1.1 x.1.2.1 s) (fun x=>x.1.2.2.1) fun x (oo0:(Bool⊕Unit)) _ kk0=>sel oo0 (fun bb0=>kk0 (.rt) ⟨[(4,.cs .bool bb0)],[]⟩) (fun cc0=>kk0 (.ex 0) ⟨[],[]⟩)
theorem ok:Ya9 PR 26 2 (.loop c) fr:=
 Yst Xe Xf h0 .no (G:=(mkG [])) .nil (L:=mkL []) (l:=[]) hT [(0,([],[]))] ([4],[]) (fun x s=>((x.1.1,x.1.2.1,s,x.1.2.2.2),x.2))
  (fun x s=>by simp only[B,mC,mB,mS,mO,mN];kernel_rfl)
end Xd3
namespace Xg9
def pts:List PT:=[.cs SB,.cs SB]
def FS:FS:=Ycc [.sh,.sh] pts (fun x=>Xg9 x.1 x.2.1) fun t=>⟨[.cs .bool t],[]⟩
theorem ok:Ycs PR 73 FS:=
 Ywh Xe Xf Proofs.Tryz.f73 h0 (.R (.R (.L (.R (.one (.fr 0)))))) (G:=(mkG [])) .nil (L:=mkL [(0,Xd3.fr)]) (l:=[(0,.loop Xd3.c)]) ⟨Lam.cons Xd3.ok,trivial⟩
  (fun x=>by simp only[Xg9,mC,mB,mS,mO,mN];kernel_rfl)
end Xg9
def Xe8.B (a:List (List UInt8)) (b:List (List UInt8)) (i_:Int):Option (Int⊕((Bool⊕Unit))):=
 cond (decide (i_<(a.length:Int))) (cond (inB i_ a.length) (cond (inB i_ b.length) (cond (!((a.getD i_.toNat []) == (b.getD i_.toNat []))) (some (.inr (.inl false))) (some (.inl (w64 (i_+1))))) none) none) (some (.inr (.inr ())))
def Xe8 (a:List (List UInt8)) (b:List (List UInt8)):Int→Option ((Bool⊕Unit)):=
 Yaj fun s=>Xe8.B a b s
def Xjc (a:List (List UInt8)) (b:List (List UInt8)):Option Bool:=
 cond ((a.length:Int) != (b.length:Int)) (some false) ((Xe8 a b 0).bind fun o=>sel o (fun b2=>some b2) (fun c=>some true))
namespace Xe8
def c:=Yao (Yai Proofs.Tryz.f74) [1,1,0,1,0,0]
def sp:SP:=⟨[(0,.cs (.sl .str)),(1,.cs (.sl .str)),(5,.cs I64)],[]⟩
def fr:=Yh3 sp (fun x s=>Xe8.B x.1.1 x.1.2.1 s) (fun x=>x.1.2.2.1) fun x (oo0:(Bool⊕Unit)) _ kk0=>sel oo0 (fun bb0=>kk0 (.rt) ⟨[(4,.cs .bool bb0)],[]⟩) (fun cc0=>kk0 (.ex 0) ⟨[],[]⟩)
theorem ok:Ya9 PR 26 2 (.loop c) fr:=
 Yst Xe Xf h0 .no (G:=(mkG [])) .nil (L:=mkL []) (l:=[]) hT [(0,([],[]))] ([4],[]) (fun x s=>((x.1.1,x.1.2.1,s,x.1.2.2.2),x.2))
  (fun x s=>by simp only[B,mC,mB,mS,mO,mN];kernel_rfl)
end Xe8
namespace Xjc
def pts:List PT:=[.cs (.sl .str),.cs (.sl .str)]
def FS:FS:=Ycc [.sh,.sh] pts (fun x=>Xjc x.1 x.2.1) fun t=>⟨[.cs .bool t],[]⟩
theorem ok:Ycs PR 74 FS:=
 Ywh Xe Xf Proofs.Tryz.f74 h0 (.R (.R (.L (.R (.one (.fr 0)))))) (G:=(mkG [])) .nil (L:=mkL [(0,Xe8.fr)]) (l:=[(0,.loop Xe8.c)]) ⟨Lam.cons Xe8.ok,trivial⟩
  (fun x=>by simp only[Xjc,mC,mB,mS,mO,mN];kernel_rfl)
end Xjc
def Xer.B (a:List Int) (b:List Int) (i_:Int):Option (Int⊕((Bool⊕Unit))):=
 cond (decide (i_<(a.length:Int))) (cond (inB i_ a.length) (cond (inB i_ b.length) (cond ((a.getD i_.toNat 0) != (b.getD i_.toNat 0)) (some (.inr (.inl false))) (some (.inl (w64 (i_+1))))) none) none) (some (.inr (.inr ())))
def Xer (a:List Int) (b:List Int):Int→Option ((Bool⊕Unit)):=
 Yaj fun s=>Xer.B a b s
def Xcl (a:List Int) (b:List Int):Option Bool:=
 cond ((a.length:Int) != (b.length:Int)) (some false) ((Xer a b 0).bind fun o=>sel o (fun b2=>some b2) (fun c=>some true))
namespace Xer
def c:=Yao (Yai Proofs.Tryz.f141) [1,1,0,1,0,0]
def sp:SP:=⟨[(0,.cs SI),(1,.cs SI),(5,.cs I64)],[]⟩
def fr:=Yh3 sp (fun x s=>Xer.B x.1.1 x.1.2.1 s) (fun x=>x.1.2.2.1) fun x (oo0:(Bool⊕Unit)) _ kk0=>sel oo0 (fun bb0=>kk0 (.rt) ⟨[(4,.cs .bool bb0)],[]⟩) (fun cc0=>kk0 (.ex 0) ⟨[],[]⟩)
theorem ok:Ya9 PR 26 2 (.loop c) fr:=
 Yst Xe Xf h0 .no (G:=(mkG [])) .nil (L:=mkL []) (l:=[]) hT [(0,([],[]))] ([4],[]) (fun x s=>((x.1.1,x.1.2.1,s,x.1.2.2.2),x.2))
  (fun x s=>by simp only[B,mC,mB,mS,mO,mN];kernel_rfl)
end Xer
namespace Xcl
def pts:List PT:=[.cs SI,.cs SI]
def FS:FS:=Ycc [.sh,.sh] pts (fun x=>Xcl x.1 x.2.1) fun t=>⟨[.cs .bool t],[]⟩
theorem ok:Ycs PR 141 FS:=
 Ywh Xe Xf Proofs.Tryz.f141 h0 (.R (.R (.L (.R (.one (.fr 0)))))) (G:=(mkG [])) .nil (L:=mkL [(0,Xer.fr)]) (l:=[(0,.loop Xer.c)]) ⟨Lam.cons Xer.ok,trivial⟩
  (fun x=>by simp only[Xcl,mC,mB,mS,mO,mN];kernel_rfl)
end Xcl
def Xjk (a:Xg) (b:Xg):Option Bool:=
 cond (!(a.1 == b.1)) (some false) (cond (a.2.1 != b.2.1) (some false) (some true))
namespace Xjk
def pts:List PT:=[.cs Xi,.cs Xi]
def FS:FS:=Ycc [.sh,.sh] pts (fun x=>Xjk x.1 x.2.1) fun t=>⟨[.cs .bool t],[]⟩
theorem ok:Ycs PR 205 FS:=
 Ywh Xe Xf Proofs.Tryz.f205 ⟨[2,3],[],[],0⟩ .no (G:=(mkG [])) .nil (L:=mkL []) (l:=[]) hT
  (fun x=>by simp only[Xjk,mC,mB,mS,mO,mN];kernel_rfl)
end Xjk
def Xf1.B (a:List Xg) (b:List Xg) (i_:Int):Option (Int⊕((Bool⊕Unit))):=
 cond (decide (i_<(a.length:Int))) (cond (inB i_ a.length) (cond (inB i_ b.length) ((Xjk (a.getD i_.toNat Xl) (b.getD i_.toNat Xl)).bind fun r=>cond (!r) (some (.inr (.inl false))) (some (.inl (w64 (i_+1))))) none) none) (some (.inr (.inr ())))
def Xf1 (a:List Xg) (b:List Xg):Int→Option ((Bool⊕Unit)):=
 Yaj fun s=>Xf1.B a b s
def Xe6 (a:List Xg) (b:List Xg):Option Bool:=
 cond ((a.length:Int) != (b.length:Int)) (some false) ((Xf1 a b 0).bind fun o=>sel o (fun b2=>some b2) (fun c=>some true))
namespace Xe6
def G:Gam:=mkG [(205,Xjk.FS)]
theorem Gok:GOk PR G:=.cons Xjk.ok .nil
end Xe6
namespace Xf1
def c:=Yao (Yai Proofs.Tryz.f181) [1,1,0,1,0,0]
def sp:SP:=⟨[(0,.cs (.sl Xi)),(1,.cs (.sl Xi)),(5,.cs I64)],[]⟩
def fr:=Yh3 sp (fun x s=>Xf1.B x.1.1 x.1.2.1 s) (fun x=>x.1.2.2.1) fun x (oo0:(Bool⊕Unit)) _ kk0=>sel oo0 (fun bb0=>kk0 (.rt) ⟨[(4,.cs .bool bb0)],[]⟩) (fun cc0=>kk0 (.ex 0) ⟨[],[]⟩)
theorem ok:Ya9 PR 27 2 (.loop c) fr:=
 Yst Xe Xf h0 .no (G:=Xe6.G) Xe6.Gok (L:=mkL []) (l:=[]) hT [(0,([],[]))] ([4],[]) (fun x s=>((x.1.1,x.1.2.1,s,x.1.2.2.2),x.2))
  (fun x s=>by simp only[B,mC,mB,mS,mO,mN];kernel_rfl)
end Xf1
namespace Xe6
def pts:List PT:=[.cs (.sl Xi),.cs (.sl Xi)]
def FS:FS:=Ycc [.sh,.sh] pts (fun x=>Xe6 x.1 x.2.1) fun t=>⟨[.cs .bool t],[]⟩
theorem ok:Ycs PR 181 FS:=
 Ywh Xe Xf Proofs.Tryz.f181 h0 (.R (.R (.L (.R (.one (.fr 0)))))) (G:=G) Gok (L:=mkL [(0,Xf1.fr)]) (l:=[(0,.loop Xf1.c)]) ⟨Lam.cons Xf1.ok,trivial⟩
  (fun x=>by simp only[Xe6,mC,mB,mS,mO,mN];kernel_rfl)
end Xe6
def Xjb (a:Xa) (b:Xa):Option Bool:=
 cond (a.1 != b.1) (some false) (cond (a.2.1 != b.2.1) (some false) (cond (a.2.2.1 != b.2.2.1) (some false) ((Xcl a.2.2.2.1 b.2.2.2.1).bind fun r=>cond (!r) (some false) ((Xe6 a.2.2.2.2.1 b.2.2.2.2.1).bind fun r2=>cond (!r2) (some false) (some true)))))
namespace Xjb
def G:Gam:=mkG [(141,Xcl.FS),(181,Xe6.FS)]
def pts:List PT:=[.cs Xc,.cs Xc]
def FS:FS:=Ycc [.sh,.sh] pts (fun x=>Xjb x.1 x.2.1) fun t=>⟨[.cs .bool t],[]⟩
theorem ok:Ycs PR 143 FS:=
 Ywh Xe Xf Proofs.Tryz.f143 ⟨[2,3],[],[],0⟩ .no (G:=G) (show GOk PR G from .cons Xcl.ok (.cons Xe6.ok .nil)) (L:=mkL []) (l:=[]) hT
  (fun x=>by simp only[Xjb,mC,mB,mS,mO,mN];kernel_rfl)
end Xjb
def Xev.B (a:List Xa) (b:List Xa) (i_:Int):Option (Int⊕((Bool⊕Unit))):=
 cond (decide (i_<(a.length:Int))) (cond (inB i_ a.length) (cond (inB i_ b.length) ((Xjb (a.getD i_.toNat Xb) (b.getD i_.toNat Xb)).bind fun r=>cond (!r) (some (.inr (.inl false))) (some (.inl (w64 (i_+1))))) none) none) (some (.inr (.inr ())))
def Xev (a:List Xa) (b:List Xa):Int→Option ((Bool⊕Unit)):=
 Yaj fun s=>Xev.B a b s
def Xd7 (a:List Xa) (b:List Xa):Option Bool:=
 cond ((a.length:Int) != (b.length:Int)) (some false) ((Xev a b 0).bind fun o=>sel o (fun b2=>some b2) (fun c=>some true))
namespace Xd7
def G:Gam:=mkG [(143,Xjb.FS)]
theorem Gok:GOk PR G:=.cons Xjb.ok .nil
end Xd7
namespace Xev
def c:=Yao (Yai Proofs.Tryz.f77) [1,1,0,1,0,0]
def sp:SP:=⟨[(0,.cs (.sl Xc)),(1,.cs (.sl Xc)),(5,.cs I64)],[]⟩
def fr:=Yh3 sp (fun x s=>Xev.B x.1.1 x.1.2.1 s) (fun x=>x.1.2.2.1) fun x (oo0:(Bool⊕Unit)) _ kk0=>sel oo0 (fun bb0=>kk0 (.rt) ⟨[(4,.cs .bool bb0)],[]⟩) (fun cc0=>kk0 (.ex 0) ⟨[],[]⟩)
theorem ok:Ya9 PR 27 2 (.loop c) fr:=
 Yst Xe Xf h0 .no (G:=Xd7.G) Xd7.Gok (L:=mkL []) (l:=[]) hT [(0,([],[]))] ([4],[]) (fun x s=>((x.1.1,x.1.2.1,s,x.1.2.2.2),x.2))
  (fun x s=>by simp only[B,mC,mB,mS,mO,mN];kernel_rfl)
end Xev
namespace Xd7
def pts:List PT:=[.cs (.sl Xc),.cs (.sl Xc)]
def FS:FS:=Ycc [.sh,.sh] pts (fun x=>Xd7 x.1 x.2.1) fun t=>⟨[.cs .bool t],[]⟩
theorem ok:Ycs PR 77 FS:=
 Ywh Xe Xf Proofs.Tryz.f77 h0 (.R (.R (.L (.R (.one (.fr 0)))))) (G:=G) Gok (L:=mkL [(0,Xev.fr)]) (l:=[(0,.loop Xev.c)]) ⟨Lam.cons Xev.ok,trivial⟩
  (fun x=>by simp only[Xd7,mC,mB,mS,mO,mN];kernel_rfl)
end Xd7
def Xgb.B (a:List (List Int)) (b:List (List Int)) (i_:Int):Option (Int⊕((Bool⊕Unit))):=
 cond (decide (i_<(a.length:Int))) (cond (inB i_ a.length) (cond (inB i_ b.length) ((Xg9 (a.getD i_.toNat []) (b.getD i_.toNat [])).bind fun r=>cond (!r) (some (.inr (.inl false))) (some (.inl (w64 (i_+1))))) none) none) (some (.inr (.inr ())))
def Xgb (a:List (List Int)) (b:List (List Int)):Int→Option ((Bool⊕Unit)):=
 Yaj fun s=>Xgb.B a b s
def Xe2 (a:List (List Int)) (b:List (List Int)):Option Bool:=
 cond ((a.length:Int) != (b.length:Int)) (some false) ((Xgb a b 0).bind fun o=>sel o (fun b2=>some b2) (fun c=>some true))
namespace Xe2
def G:Gam:=mkG [(73,Xg9.FS)]
theorem Gok:GOk PR G:=.cons Xg9.ok .nil
end Xe2
namespace Xgb
def c:=Yao (Yai Proofs.Tryz.f78) [1,1,0,1,0,0]
def sp:SP:=⟨[(0,.cs (.sl SB)),(1,.cs (.sl SB)),(5,.cs I64)],[]⟩
def fr:=Yh3 sp (fun x s=>Xgb.B x.1.1 x.1.2.1 s) (fun x=>x.1.2.2.1) fun x (oo0:(Bool⊕Unit)) _ kk0=>sel oo0 (fun bb0=>kk0 (.rt) ⟨[(4,.cs .bool bb0)],[]⟩) (fun cc0=>kk0 (.ex 0) ⟨[],[]⟩)
theorem ok:Ya9 PR 27 2 (.loop c) fr:=
 Yst Xe Xf h0 .no (G:=Xe2.G) Xe2.Gok (L:=mkL []) (l:=[]) hT [(0,([],[]))] ([4],[]) (fun x s=>((x.1.1,x.1.2.1,s,x.1.2.2.2),x.2))
  (fun x s=>by simp only[B,mC,mB,mS,mO,mN];kernel_rfl)
end Xgb
namespace Xe2
def pts:List PT:=[.cs (.sl SB),.cs (.sl SB)]
def FS:FS:=Ycc [.sh,.sh] pts (fun x=>Xe2 x.1 x.2.1) fun t=>⟨[.cs .bool t],[]⟩
theorem ok:Ycs PR 78 FS:=
 Ywh Xe Xf Proofs.Tryz.f78 h0 (.R (.R (.L (.R (.one (.fr 0)))))) (G:=G) Gok (L:=mkL [(0,Xgb.fr)]) (l:=[(0,.loop Xgb.c)]) ⟨Lam.cons Xgb.ok,trivial⟩
  (fun x=>by simp only[Xe2,mC,mB,mS,mO,mN];kernel_rfl)
end Xe2
def Xeb (a:Fs_) (b:Fs_):Option Bool:=
 (Xd7 a.1 b.1).bind fun r=>cond (!r) (some false) ((Xe2 a.2.1 b.2.1).bind fun r2=>cond (!r2) (some false) (some true))
namespace Xeb
def G:Gam:=mkG [(77,Xd7.FS),(78,Xe2.FS)]
def pts:List PT:=[.cs Xk,.cs Xk]
def FS:FS:=Ycc [.sh,.sh] pts (fun x=>Xeb x.1 x.2.1) fun t=>⟨[.cs .bool t],[]⟩
theorem ok:Ycs PR 29 FS:=
 Ywh Xe Xf Proofs.Tryz.f29 ⟨[2,3],[],[],0⟩ .no (G:=G) (show GOk PR G from .cons Xd7.ok (.cons Xe2.ok .nil)) (L:=mkL []) (l:=[]) hT
  (fun x=>by simp only[Xeb,mC,mB,mS,mO,mN];kernel_rfl)
end Xeb
def Xjl (a:Xar) (b:Xar):Option Bool:=
 cond (a.1 != b.1) (some false) (cond (a.2.1 != b.2.1) (some false) (cond (a.2.2.1 != b.2.2.1) (some false) ((Xg9 a.2.2.2.1 b.2.2.2.1).bind fun r=>cond (!r) (some false) ((Xjc a.2.2.2.2.1 b.2.2.2.2.1).bind fun r2=>cond (!r2) (some false) ((Xeb a.2.2.2.2.2.1 b.2.2.2.2.2.1).bind fun r3=>cond (!r3) (some false) (some true))))))
namespace Xjl
def G:Gam:=mkG [(73,Xg9.FS),(74,Xjc.FS),(29,Xeb.FS)]
def pts:List PT:=[.cs Xz,.cs Xz]
def FS:FS:=Ycc [.sh,.sh] pts (fun x=>Xjl x.1 x.2.1) fun t=>⟨[.cs .bool t],[]⟩
theorem ok:Ycs PR 27 FS:=
 Ywh Xe Xf Proofs.Tryz.f27 ⟨[2,3],[],[],0⟩ .no (G:=G) (show GOk PR G from .cons Xg9.ok (.cons Xjc.ok (.cons Xeb.ok .nil))) (L:=mkL []) (l:=[]) hT
  (fun x=>by simp only[Xjl,mC,mB,mS,mO,mN];kernel_rfl)
end Xjl
def Xfe.B (a:List (List Int)) (b:List (List Int)) (i_:Int):Option (Int⊕((Bool⊕Unit))):=
 cond (decide (i_<(a.length:Int))) (cond (inB i_ a.length) (cond (inB i_ b.length) ((Xcl (a.getD i_.toNat []) (b.getD i_.toNat [])).bind fun r=>cond (!r) (some (.inr (.inl false))) (some (.inl (w64 (i_+1))))) none) none) (some (.inr (.inr ())))
def Xfe (a:List (List Int)) (b:List (List Int)):Int→Option ((Bool⊕Unit)):=
 Yaj fun s=>Xfe.B a b s
def Xet (a:List (List Int)) (b:List (List Int)):Option Bool:=
 cond ((a.length:Int) != (b.length:Int)) (some false) ((Xfe a b 0).bind fun o=>sel o (fun b2=>some b2) (fun c=>some true))
namespace Xet
def G:Gam:=mkG [(141,Xcl.FS)]
theorem Gok:GOk PR G:=.cons Xcl.ok .nil
end Xet
namespace Xfe
def c:=Yao (Yai Proofs.Tryz.f75) [1,1,0,1,0,0]
def sp:SP:=⟨[(0,.cs (.sl SI)),(1,.cs (.sl SI)),(5,.cs I64)],[]⟩
def fr:=Yh3 sp (fun x s=>Xfe.B x.1.1 x.1.2.1 s) (fun x=>x.1.2.2.1) fun x (oo0:(Bool⊕Unit)) _ kk0=>sel oo0 (fun bb0=>kk0 (.rt) ⟨[(4,.cs .bool bb0)],[]⟩) (fun cc0=>kk0 (.ex 0) ⟨[],[]⟩)
theorem ok:Ya9 PR 27 2 (.loop c) fr:=
 Yst Xe Xf h0 .no (G:=Xet.G) Xet.Gok (L:=mkL []) (l:=[]) hT [(0,([],[]))] ([4],[]) (fun x s=>((x.1.1,x.1.2.1,s,x.1.2.2.2),x.2))
  (fun x s=>by simp only[B,mC,mB,mS,mO,mN];kernel_rfl)
end Xfe
namespace Xet
def pts:List PT:=[.cs (.sl SI),.cs (.sl SI)]
def FS:FS:=Ycc [.sh,.sh] pts (fun x=>Xet x.1 x.2.1) fun t=>⟨[.cs .bool t],[]⟩
theorem ok:Ycs PR 75 FS:=
 Ywh Xe Xf Proofs.Tryz.f75 h0 (.R (.R (.L (.R (.one (.fr 0)))))) (G:=G) Gok (L:=mkL [(0,Xfe.fr)]) (l:=[(0,.loop Xfe.c)]) ⟨Lam.cons Xfe.ok,trivial⟩
  (fun x=>by simp only[Xet,mC,mB,mS,mO,mN];kernel_rfl)
end Xet
def Xja (a:Xj) (b:Xj):Option Bool:=
 cond (a.1 != b.1) (some false) ((Xcl a.2.1 b.2.1).bind fun r=>cond (!r) (some false) (some true))
namespace Xja
def G:Gam:=mkG [(141,Xcl.FS)]
def pts:List PT:=[.cs Xm,.cs Xm]
def FS:FS:=Ycc [.sh,.sh] pts (fun x=>Xja x.1 x.2.1) fun t=>⟨[.cs .bool t],[]⟩
theorem ok:Ycs PR 142 FS:=
 Ywh Xe Xf Proofs.Tryz.f142 ⟨[2,3],[],[],0⟩ .no (G:=G) (show GOk PR G from .cons Xcl.ok .nil) (L:=mkL []) (l:=[]) hT
  (fun x=>by simp only[Xja,mC,mB,mS,mO,mN];kernel_rfl)
end Xja
def Xf8.B (a:List Xj) (b:List Xj) (i_:Int):Option (Int⊕((Bool⊕Unit))):=
 cond (decide (i_<(a.length:Int))) (cond (inB i_ a.length) (cond (inB i_ b.length) ((Xja (a.getD i_.toNat Xv) (b.getD i_.toNat Xv)).bind fun r=>cond (!r) (some (.inr (.inl false))) (some (.inl (w64 (i_+1))))) none) none) (some (.inr (.inr ())))
def Xf8 (a:List Xj) (b:List Xj):Int→Option ((Bool⊕Unit)):=
 Yaj fun s=>Xf8.B a b s
def Xd6 (a:List Xj) (b:List Xj):Option Bool:=
 cond ((a.length:Int) != (b.length:Int)) (some false) ((Xf8 a b 0).bind fun o=>sel o (fun b2=>some b2) (fun c=>some true))
namespace Xd6
def G:Gam:=mkG [(142,Xja.FS)]
theorem Gok:GOk PR G:=.cons Xja.ok .nil
end Xd6
namespace Xf8
def c:=Yao (Yai Proofs.Tryz.f76) [1,1,0,1,0,0]
def sp:SP:=⟨[(0,.cs (.sl Xm)),(1,.cs (.sl Xm)),(5,.cs I64)],[]⟩
def fr:=Yh3 sp (fun x s=>Xf8.B x.1.1 x.1.2.1 s) (fun x=>x.1.2.2.1) fun x (oo0:(Bool⊕Unit)) _ kk0=>sel oo0 (fun bb0=>kk0 (.rt) ⟨[(4,.cs .bool bb0)],[]⟩) (fun cc0=>kk0 (.ex 0) ⟨[],[]⟩)
theorem ok:Ya9 PR 27 2 (.loop c) fr:=
 Yst Xe Xf h0 .no (G:=Xd6.G) Xd6.Gok (L:=mkL []) (l:=[]) hT [(0,([],[]))] ([4],[]) (fun x s=>((x.1.1,x.1.2.1,s,x.1.2.2.2),x.2))
  (fun x s=>by simp only[B,mC,mB,mS,mO,mN];kernel_rfl)
end Xf8
namespace Xd6
def pts:List PT:=[.cs (.sl Xm),.cs (.sl Xm)]
def FS:FS:=Ycc [.sh,.sh] pts (fun x=>Xd6 x.1 x.2.1) fun t=>⟨[.cs .bool t],[]⟩
theorem ok:Ycs PR 76 FS:=
 Ywh Xe Xf Proofs.Tryz.f76 h0 (.R (.R (.L (.R (.one (.fr 0)))))) (G:=G) Gok (L:=mkL [(0,Xf8.fr)]) (l:=[(0,.loop Xf8.c)]) ⟨Lam.cons Xf8.ok,trivial⟩
  (fun x=>by simp only[Xd6,mC,mB,mS,mO,mN];kernel_rfl)
end Xd6
def Xi8 (a:Xd) (b:Xd):Option Bool:=
 (Xet a.1 b.1).bind fun r=>cond (!r) (some false) ((Xd6 a.2.1 b.2.1).bind fun r2=>cond (!r2) (some false) (some true))
namespace Xi8
def G:Gam:=mkG [(75,Xet.FS),(76,Xd6.FS)]
def pts:List PT:=[.cs Xh,.cs Xh]
def FS:FS:=Ycc [.sh,.sh] pts (fun x=>Xi8 x.1 x.2.1) fun t=>⟨[.cs .bool t],[]⟩
theorem ok:Ycs PR 28 FS:=
 Ywh Xe Xf Proofs.Tryz.f28 ⟨[2,3],[],[],0⟩ .no (G:=G) (show GOk PR G from .cons Xet.ok (.cons Xd6.ok .nil)) (L:=mkL []) (l:=[]) hT
  (fun x=>by simp only[Xi8,mC,mB,mS,mO,mN];kernel_rfl)
end Xi8
def Xgs (a:X0) (b:X0):Option Bool:=
 (Xi8 a.1 b.1).bind fun r=>cond (!r) (some false) ((Xeb a.2.1 b.2.1).bind fun r2=>cond (!r2) (some false) ((Xeb a.2.2.1 b.2.2.1).bind fun r3=>cond (!r3) (some false) (some true)))
namespace Xgs
def G:Gam:=mkG [(28,Xi8.FS),(29,Xeb.FS)]
def pts:List PT:=[.cs Xp,.cs Xp]
def FS:FS:=Ycc [.sh,.sh] pts (fun x=>Xgs x.1 x.2.1) fun t=>⟨[.cs .bool t],[]⟩
theorem ok:Ycs PR 9 FS:=
 Ywh Xe Xf Proofs.Tryz.f9 ⟨[2,3],[],[],0⟩ .no (G:=G) (show GOk PR G from .cons Xi8.ok (.cons Xeb.ok .nil)) (L:=mkL []) (l:=[]) hT
  (fun x=>by simp only[Xgs,mC,mB,mS,mO,mN];kernel_rfl)
end Xgs
def Xho (a:Xaa) (b:Xaa):Option Bool:=
 cond (a.1 != b.1) (some false) ((Xjl a.2.1 b.2.1).bind fun r=>cond (!r) (some false) ((Xgs a.2.2.1 b.2.2.1).bind fun r2=>cond (!r2) (some false) (some true)))
namespace Xho
def G:Gam:=mkG [(27,Xjl.FS),(9,Xgs.FS)]
def pts:List PT:=[.cs Xt,.cs Xt]
def FS:FS:=Ycc [.sh,.sh] pts (fun x=>Xho x.1 x.2.1) fun t=>⟨[.cs .bool t],[]⟩
theorem ok:Ycs PR 8 FS:=
 Ywh Xe Xf Proofs.Tryz.f8 ⟨[2,3],[],[],0⟩ .no (G:=G) (show GOk PR G from .cons Xjl.ok (.cons Xgs.ok .nil)) (L:=mkL []) (l:=[]) hT
  (fun x=>by simp only[Xho,mC,mB,mS,mO,mN];kernel_rfl)
end Xho
def Xc8.B (k_:Int) (i_:Int) (a_:List Int):Option ((Int×Int×List Int)⊕(Int×List Int)):=
 cond (decide (i_<(a_.length:Int))) (cond (inB i_ a_.length) (some (.inl (w64 (k_+1),w64 (i_+1),a_.set i_.toNat k_))) none) (some (.inr (k_,a_)))
def Xc8 :(Int×Int×List Int)→Option (Int×List Int):=
 Yaj fun s=>Xc8.B s.1 s.2.1 s.2.2
def Xcn (a:List Int) (k:Int):Option (Int×List Int):=
 (Xc8 (k,0,a)).bind fun o=>some (o.1,o.2)
namespace Xc8
def c:=Yao (Yai Proofs.Tryz.f144) [1,0,1,0,0]
def sp:SP:=⟨[(0,.seg 0 []),(1,.cs I64),(5,.cs I64)],[(0,.reg,.cd SI)]⟩
def fr:=Yh3 sp (fun x s=>Xc8.B  s.1 s.2.1 s.2.2) (fun x=>(x.1.2.1,x.1.2.2.1,x.2.1)) fun x (bb0:Int×List Int) _ kk0=>kk0 (.ex 0) ⟨[(1,.cs I64 bb0.1)],[sr 0 (.cd SI bb0.2)]⟩
theorem ok:Ya9 PR 19 2 (.loop c) fr:=
 Yv8 Xe Xf h0 [(0,([1],[0]))] (fun x s=>((x.1.1,s.1,s.2.1,x.1.2.2.2),(s.2.2,x.2.2)))
  (fun x s=>by simp only[B,mC,mB,mS,mO,mN];kernel_rfl)
end Xc8
namespace Xcn
def pts:List PT:=[.cd SI,.cs I64]
def FS:FS:=Ycc [.mu,.sh] pts (fun x=>Xcn x.1 x.2.1) fun t=>⟨[.cs I64 t.1],[.cd SI t.2]⟩
theorem ok:Ycs PR 144 FS:=
 Ywh Xe Xf Proofs.Tryz.f144 h0 (.R (.L (.R (.one (.fr 0))))) (G:=(mkG [])) .nil (L:=mkL [(0,Xc8.fr)]) (l:=[(0,.loop Xc8.c)]) ⟨Lam.cons Xc8.ok,trivial⟩
  (fun x=>by simp only[Xcn,mC,mB,mS,mO,mN];kernel_rfl)
end Xcn
def Xc3.B (k_:Int) (i_:Int) (a_:List (List Int)):Option ((Int×Int×List (List Int))⊕(Int×List (List Int))):=
 cond (decide (i_<(a_.length:Int))) (cond (inB i_ a_.length) ((Xcn (a_.getD i_.toNat []) k_).bind fun r=>some (.inl (r.1,w64 (i_+1),a_.set i_.toNat r.2))) none) (some (.inr (k_,a_)))
def Xc3 :(Int×Int×List (List Int))→Option (Int×List (List Int)):=
 Yaj fun s=>Xc3.B s.1 s.2.1 s.2.2
def Xef (a:List (List Int)) (k:Int):Option (Int×List (List Int)):=
 (Xc3 (k,0,a)).bind fun o=>some (o.1,o.2)
namespace Xef
def G:Gam:=mkG [(144,Xcn.FS)]
theorem Gok:GOk PR G:=.cons Xcn.ok .nil
end Xef
namespace Xc3
def c:=Yao (Yai Proofs.Tryz.f79) [1,0,1,0,0]
def sp:SP:=⟨[(0,.seg 0 []),(1,.cs I64),(5,.cs I64)],[(0,.reg,.cd (.sl SI))]⟩
def fr:=Yh3 sp (fun x s=>Xc3.B  s.1 s.2.1 s.2.2) (fun x=>(x.1.2.1,x.1.2.2.1,x.2.1)) fun x (bb0:Int×List (List Int)) _ kk0=>kk0 (.ex 0) ⟨[(1,.cs I64 bb0.1)],[sr 0 (.cd (.sl SI) bb0.2)]⟩
theorem ok:Ya9 PR 19 2 (.loop c) fr:=
 Ywi Xe Xf h0 (G:=Xef.G) Xef.Gok [(0,([1],[0]))] (fun x s=>((x.1.1,s.1,s.2.1,x.1.2.2.2),(s.2.2,x.2.2)))
  (fun x s=>by simp only[B,mC,mB,mS,mO,mN];kernel_rfl)
end Xc3
namespace Xef
def pts:List PT:=[.cd (.sl SI),.cs I64]
def FS:FS:=Ycc [.mu,.sh] pts (fun x=>Xef x.1 x.2.1) fun t=>⟨[.cs I64 t.1],[.cd (.sl SI) t.2]⟩
theorem ok:Ycs PR 79 FS:=
 Ywh Xe Xf Proofs.Tryz.f79 h0 (.R (.L (.R (.one (.fr 0))))) (G:=G) Gok (L:=mkL [(0,Xc3.fr)]) (l:=[(0,.loop Xc3.c)]) ⟨Lam.cons Xc3.ok,trivial⟩
  (fun x=>by simp only[Xef,mC,mB,mS,mO,mN];kernel_rfl)
end Xef
def Xda.B (k_:Int) (i_:Int) (a_:List Xj):Option ((Int×Int×List Xj)⊕(Int×List Xj)):=
 cond (decide (i_<(a_.length:Int))) (cond (inB i_ a_.length) (cond (inB i_ ((a_.set i_.toNat (k_,(a_.getD i_.toNat Xv).2)).length)) ((Xcn ((a_.set i_.toNat (k_,(a_.getD i_.toNat Xv).2)).getD i_.toNat Xv).2.1 (w64 (k_+1))).bind fun r=>some (.inl (r.1,w64 (i_+1),(a_.set i_.toNat (k_,(a_.getD i_.toNat Xv).2)).set i_.toNat (((a_.set i_.toNat (k_,(a_.getD i_.toNat Xv).2)).getD i_.toNat Xv).1,r.2,((a_.set i_.toNat (k_,(a_.getD i_.toNat Xv).2)).getD i_.toNat Xv).2.2)))) none) none) (some (.inr (k_,a_)))
def Xda :(Int×Int×List Xj)→Option (Int×List Xj):=
 Yaj fun s=>Xda.B s.1 s.2.1 s.2.2
def Xel (a:List Xj) (k:Int):Option (Int×List Xj):=
 (Xda (k,0,a)).bind fun o=>some (o.1,o.2)
namespace Xel
def G:Gam:=mkG [(144,Xcn.FS)]
theorem Gok:GOk PR G:=.cons Xcn.ok .nil
end Xel
namespace Xda
def c:=Yao (Yai Proofs.Tryz.f80) [1,0,1,0,0]
def sp:SP:=⟨[(0,.seg 0 []),(1,.cs I64),(5,.cs I64)],[(0,.reg,.cd (.sl Xm))]⟩
def fr:=Yh3 sp (fun x s=>Xda.B  s.1 s.2.1 s.2.2) (fun x=>(x.1.2.1,x.1.2.2.1,x.2.1)) fun x (bb0:Int×List Xj) _ kk0=>kk0 (.ex 0) ⟨[(1,.cs I64 bb0.1)],[sr 0 (.cd (.sl Xm) bb0.2)]⟩
theorem ok:Ya9 PR 27 2 (.loop c) fr:=
 Ywi Xe Xf h0 (G:=Xel.G) Xel.Gok [(0,([1],[0]))] (fun x s=>((x.1.1,s.1,s.2.1,x.1.2.2.2),(s.2.2,x.2.2)))
  (fun x s=>by simp only[B,mC,mB,mS,mO,mN];kernel_rfl)
end Xda
namespace Xel
def pts:List PT:=[.cd (.sl Xm),.cs I64]
def FS:FS:=Ycc [.mu,.sh] pts (fun x=>Xel x.1 x.2.1) fun t=>⟨[.cs I64 t.1],[.cd (.sl Xm) t.2]⟩
theorem ok:Ycs PR 80 FS:=
 Ywh Xe Xf Proofs.Tryz.f80 h0 (.R (.L (.R (.one (.fr 0))))) (G:=G) Gok (L:=mkL [(0,Xda.fr)]) (l:=[(0,.loop Xda.c)]) ⟨Lam.cons Xda.ok,trivial⟩
  (fun x=>by simp only[Xel,mC,mB,mS,mO,mN];kernel_rfl)
end Xel
def Xhn (a:Xd) (k:Int):Option (Int×Xd):=
 (Xef a.1 k).bind fun r=>(Xel a.2.1 r.1).bind fun r2=>some (r2.1,(r.2,r2.2,a.2.2))
namespace Xhn
def G:Gam:=mkG [(79,Xef.FS),(80,Xel.FS)]
def pts:List PT:=[.cd Xh,.cs I64]
def FS:FS:=Ycc [.mu,.sh] pts (fun x=>Xhn x.1 x.2.1) fun t=>⟨[.cs I64 t.1],[.cd Xh t.2]⟩
theorem ok:Ycs PR 30 FS:=
 Ywh Xe Xf Proofs.Tryz.f30 ⟨[2],[],[],0⟩ .no (G:=G) (show GOk PR G from .cons Xef.ok (.cons Xel.ok .nil)) (L:=mkL []) (l:=[]) hT
  (fun x=>by simp only[Xhn,mC,mB,mS,mO,mN];kernel_rfl)
end Xhn
def Xf0.B (k_:Int) (out_:List UInt8):Option ((Int×List UInt8)⊕(List UInt8)):=
 cond (decide (k_>0)) (cond (!((10:Int) == 0)) ((some (IntKind.u8.wrap (w64 ((48:Int)+(k_.tmod 10))))).bind fun v=>cond (decide ((([v]).map fun n=>UInt8.ofNat n.toNat).length+out_.length≤2147483648)) (cond (!((10:Int) == 0)) (some (.inl (w64 (k_.tdiv 10),(([v]).map fun n=>UInt8.ofNat n.toNat)++out_))) none) none) none) (some (.inr out_))
def Xf0 :(Int×List UInt8)→Option (List UInt8):=
 Yaj fun s=>Xf0.B s.1 s.2
def Xbo (k:Int):Option (List UInt8):=
 cond (decide (k≤0)) (some ([109,48]:List UInt8)) ((Xf0 (k,([]:List UInt8))).bind fun o=>cond (decide (([109]:List UInt8).length+o.length≤2147483648)) (some (([109]:List UInt8)++o)) none)
namespace Xf0
def c:=Yao (Yai Proofs.Tryz.f146) [1,1,1,0,0,0]
def sp:SP:=⟨[(0,.cs I64),(3,.cs .str)],[]⟩
def fr:=Yh3 sp (fun x s=>Xf0.B  s.1 s.2) (fun x=>(x.1.1,x.1.2.1)) fun x (bb0:List UInt8) _ kk0=>kk0 (.ex 0) ⟨[(3,.cs .str bb0)],[]⟩
theorem ok:Ya9 PR 20 1 (.loop c) fr:=
 Yv8 Xe Xf h0 [(0,([3],[]))] (fun x s=>((s.1,s.2,x.1.2.2),x.2))
  (fun x s=>by simp only[B,mC,mB,mS,mO,mN];kernel_rfl)
end Xf0
namespace Xbo
def pts:List PT:=[.cs I64]
def FS:FS:=Ycc [.sh] pts (fun x=>Xbo x.1) fun t=>⟨[.cs .str t],[]⟩
theorem ok:Ycs PR 146 FS:=
 Ywh Xe Xf Proofs.Tryz.f146 h0 (.R (.R (.R (.L (.one (.fr 0)))))) (G:=(mkG [])) .nil (L:=mkL [(0,Xf0.fr)]) (l:=[(0,.loop Xf0.c)]) ⟨Lam.cons Xf0.ok,trivial⟩
  (fun x=>by simp only[Xbo,mC,mB,mS,mO,mN];kernel_rfl)
end Xbo
def Xdl.B (k_:Int) (i_:Int) (a_:List Xg):Option ((Int×Int×List Xg)⊕(Int×List Xg)):=
 cond (decide (i_<(a_.length:Int))) ((Xbo k_).bind fun r=>cond (inB i_ a_.length) ((some (a_.set i_.toNat (r,(a_.getD i_.toNat Xl).2))).bind fun a_2=>cond (inB i_ a_2.length) ((some (a_2.set i_.toNat ((a_2.getD i_.toNat Xl).1,w64 (k_+1),(a_2.getD i_.toNat Xl).2.2))).bind fun a_3=>some (.inl (w64 ((w64 (k_+1))+1),w64 (i_+1),a_3))) none) none) (some (.inr (k_,a_)))
def Xdl :(Int×Int×List Xg)→Option (Int×List Xg):=
 Yaj fun s=>Xdl.B s.1 s.2.1 s.2.2
def Xfy (a:List Xg) (k:Int):Option (Int×List Xg):=
 (Xdl (k,0,a)).bind fun o=>some (o.1,o.2)
namespace Xfy
def G:Gam:=mkG [(146,Xbo.FS)]
theorem Gok:GOk PR G:=.cons Xbo.ok .nil
end Xfy
namespace Xdl
def c:=Yao (Yai Proofs.Tryz.f145) [1,0,1,0,0]
def sp:SP:=⟨[(0,.seg 0 []),(1,.cs I64),(5,.cs I64)],[(0,.reg,.cd (.sl Xi))]⟩
def fr:=Yh3 sp (fun x s=>Xdl.B  s.1 s.2.1 s.2.2) (fun x=>(x.1.2.1,x.1.2.2.1,x.2.1)) fun x (bb0:Int×List Xg) _ kk0=>kk0 (.ex 0) ⟨[(1,.cs I64 bb0.1)],[sr 0 (.cd (.sl Xi) bb0.2)]⟩
theorem ok:Ya9 PR 28 2 (.loop c) fr:=
 Ywi Xe Xf h0 (G:=Xfy.G) Xfy.Gok [(0,([1],[0]))] (fun x s=>((x.1.1,s.1,s.2.1,x.1.2.2.2),(s.2.2,x.2.2)))
  (fun x s=>by simp only[B,mC,mB,mS,mO,mN];kernel_rfl)
end Xdl
namespace Xfy
def pts:List PT:=[.cd (.sl Xi),.cs I64]
def FS:FS:=Ycc [.mu,.sh] pts (fun x=>Xfy x.1 x.2.1) fun t=>⟨[.cs I64 t.1],[.cd (.sl Xi) t.2]⟩
theorem ok:Ycs PR 145 FS:=
 Ywh Xe Xf Proofs.Tryz.f145 h0 (.R (.L (.R (.one (.fr 0))))) (G:=G) Gok (L:=mkL [(0,Xdl.fr)]) (l:=[(0,.loop Xdl.c)]) ⟨Lam.cons Xdl.ok,trivial⟩
  (fun x=>by simp only[Xfy,mC,mB,mS,mO,mN];kernel_rfl)
end Xfy
def Xdb.B (k_:Int) (i_:Int) (a_:List Xa):Option ((Int×Int×List Xa)⊕(Int×List Xa)):=
 cond (decide (i_<(a_.length:Int))) (cond (inB i_ a_.length) ((some (a_.set i_.toNat (k_,(a_.getD i_.toNat Xb).2))).bind fun a_2=>cond (inB i_ a_2.length) ((some (a_2.set i_.toNat ((a_2.getD i_.toNat Xb).1,w64 (k_+1),(a_2.getD i_.toNat Xb).2.2))).bind fun a_3=>cond (inB i_ a_3.length) ((some (a_3.set i_.toNat ((a_3.getD i_.toNat Xb).1,(a_3.getD i_.toNat Xb).2.1,w64 ((w64 (k_+1))+1),(a_3.getD i_.toNat Xb).2.2.2))).bind fun a_4=>cond (inB i_ a_4.length) ((Xcn (a_4.getD i_.toNat Xb).2.2.2.1 (w64 ((w64 ((w64 (k_+1))+1))+1))).bind fun r=>cond (inB i_ ((a_4.set i_.toNat ((a_4.getD i_.toNat Xb).1,(a_4.getD i_.toNat Xb).2.1,(a_4.getD i_.toNat Xb).2.2.1,r.2,(a_4.getD i_.toNat Xb).2.2.2.2)).length)) ((Xfy ((a_4.set i_.toNat ((a_4.getD i_.toNat Xb).1,(a_4.getD i_.toNat Xb).2.1,(a_4.getD i_.toNat Xb).2.2.1,r.2,(a_4.getD i_.toNat Xb).2.2.2.2)).getD i_.toNat Xb).2.2.2.2.1 r.1).bind fun r2=>some (.inl (r2.1,w64 (i_+1),(a_4.set i_.toNat ((a_4.getD i_.toNat Xb).1,(a_4.getD i_.toNat Xb).2.1,(a_4.getD i_.toNat Xb).2.2.1,r.2,(a_4.getD i_.toNat Xb).2.2.2.2)).set i_.toNat (((a_4.set i_.toNat ((a_4.getD i_.toNat Xb).1,(a_4.getD i_.toNat Xb).2.1,(a_4.getD i_.toNat Xb).2.2.1,r.2,(a_4.getD i_.toNat Xb).2.2.2.2)).getD i_.toNat Xb).1,((a_4.set i_.toNat ((a_4.getD i_.toNat Xb).1,(a_4.getD i_.toNat Xb).2.1,(a_4.getD i_.toNat Xb).2.2.1,r.2,(a_4.getD i_.toNat Xb).2.2.2.2)).getD i_.toNat Xb).2.1,((a_4.set i_.toNat ((a_4.getD i_.toNat Xb).1,(a_4.getD i_.toNat Xb).2.1,(a_4.getD i_.toNat Xb).2.2.1,r.2,(a_4.getD i_.toNat Xb).2.2.2.2)).getD i_.toNat Xb).2.2.1,((a_4.set i_.toNat ((a_4.getD i_.toNat Xb).1,(a_4.getD i_.toNat Xb).2.1,(a_4.getD i_.toNat Xb).2.2.1,r.2,(a_4.getD i_.toNat Xb).2.2.2.2)).getD i_.toNat Xb).2.2.2.1,r2.2,((a_4.set i_.toNat ((a_4.getD i_.toNat Xb).1,(a_4.getD i_.toNat Xb).2.1,(a_4.getD i_.toNat Xb).2.2.1,r.2,(a_4.getD i_.toNat Xb).2.2.2.2)).getD i_.toNat Xb).2.2.2.2.2)))) none) none) none) none) none) (some (.inr (k_,a_)))
def Xdb :(Int×Int×List Xa)→Option (Int×List Xa):=
 Yaj fun s=>Xdb.B s.1 s.2.1 s.2.2
def Xgg (a:List Xa) (k:Int):Option (Int×List Xa):=
 (Xdb (k,0,a)).bind fun o=>some (o.1,o.2)
namespace Xgg
def G:Gam:=mkG [(144,Xcn.FS),(145,Xfy.FS)]
theorem Gok:GOk PR G:=.cons Xcn.ok (.cons Xfy.ok .nil)
end Xgg
namespace Xdb
def c:=Yao (Yai Proofs.Tryz.f81) [1,0,1,0,0]
def sp:SP:=⟨[(0,.seg 0 []),(1,.cs I64),(5,.cs I64)],[(0,.reg,.cd (.sl Xc))]⟩
def fr:=Yh3 sp (fun x s=>Xdb.B  s.1 s.2.1 s.2.2) (fun x=>(x.1.2.1,x.1.2.2.1,x.2.1)) fun x (bb0:Int×List Xa) _ kk0=>kk0 (.ex 0) ⟨[(1,.cs I64 bb0.1)],[sr 0 (.cd (.sl Xc) bb0.2)]⟩
theorem ok:Ya9 PR 48 2 (.loop c) fr:=
 Ywi Xe Xf h0 (G:=Xgg.G) Xgg.Gok [(0,([1],[0]))] (fun x s=>((x.1.1,s.1,s.2.1,x.1.2.2.2),(s.2.2,x.2.2)))
  (fun x s=>by simp only[B,mC,mB,mS,mO,mN];kernel_rfl)
end Xdb
namespace Xgg
def pts:List PT:=[.cd (.sl Xc),.cs I64]
def FS:FS:=Ycc [.mu,.sh] pts (fun x=>Xgg x.1 x.2.1) fun t=>⟨[.cs I64 t.1],[.cd (.sl Xc) t.2]⟩
theorem ok:Ycs PR 81 FS:=
 Ywh Xe Xf Proofs.Tryz.f81 h0 (.R (.L (.R (.one (.fr 0))))) (G:=G) Gok (L:=mkL [(0,Xdb.fr)]) (l:=[(0,.loop Xdb.c)]) ⟨Lam.cons Xdb.ok,trivial⟩
  (fun x=>by simp only[Xgg,mC,mB,mS,mO,mN];kernel_rfl)
end Xgg
def Xc9.B (k_:Int) (i_:Int) (a_:List Int):Option ((Int×Int×List Int)⊕(Int×List Int)):=
 cond (decide (i_<(a_.length:Int))) (cond (inB i_ a_.length) (some (.inl (w64 (k_+1),w64 (i_+1),a_.set i_.toNat (IntKind.u8.wrap k_)))) none) (some (.inr (k_,a_)))
def Xc9 :(Int×Int×List Int)→Option (Int×List Int):=
 Yaj fun s=>Xc9.B s.1 s.2.1 s.2.2
def Xgy (a:List Int) (k:Int):Option (Int×List Int):=
 (Xc9 (k,0,a)).bind fun o=>some (o.1,o.2)
namespace Xc9
def c:=Yao (Yai Proofs.Tryz.f83) [1,0,1,0,0]
def sp:SP:=⟨[(0,.seg 0 []),(1,.cs I64),(5,.cs I64)],[(0,.reg,.cd SB)]⟩
def fr:=Yh3 sp (fun x s=>Xc9.B  s.1 s.2.1 s.2.2) (fun x=>(x.1.2.1,x.1.2.2.1,x.2.1)) fun x (bb0:Int×List Int) _ kk0=>kk0 (.ex 0) ⟨[(1,.cs I64 bb0.1)],[sr 0 (.cd SB bb0.2)]⟩
theorem ok:Ya9 PR 20 2 (.loop c) fr:=
 Yv8 Xe Xf h0 [(0,([1],[0]))] (fun x s=>((x.1.1,s.1,s.2.1,x.1.2.2.2),(s.2.2,x.2.2)))
  (fun x s=>by simp only[B,mC,mB,mS,mO,mN];kernel_rfl)
end Xc9
namespace Xgy
def pts:List PT:=[.cd SB,.cs I64]
def FS:FS:=Ycc [.mu,.sh] pts (fun x=>Xgy x.1 x.2.1) fun t=>⟨[.cs I64 t.1],[.cd SB t.2]⟩
theorem ok:Ycs PR 83 FS:=
 Ywh Xe Xf Proofs.Tryz.f83 h0 (.R (.L (.R (.one (.fr 0))))) (G:=(mkG [])) .nil (L:=mkL [(0,Xc9.fr)]) (l:=[(0,.loop Xc9.c)]) ⟨Lam.cons Xc9.ok,trivial⟩
  (fun x=>by simp only[Xgy,mC,mB,mS,mO,mN];kernel_rfl)
end Xgy
def Xc4.B (k_:Int) (i_:Int) (a_:List (List Int)):Option ((Int×Int×List (List Int))⊕(Int×List (List Int))):=
 cond (decide (i_<(a_.length:Int))) (cond (inB i_ a_.length) ((Xgy (a_.getD i_.toNat []) k_).bind fun r=>some (.inl (r.1,w64 (i_+1),a_.set i_.toNat r.2))) none) (some (.inr (k_,a_)))
def Xc4 :(Int×Int×List (List Int))→Option (Int×List (List Int)):=
 Yaj fun s=>Xc4.B s.1 s.2.1 s.2.2
def Xeu (a:List (List Int)) (k:Int):Option (Int×List (List Int)):=
 (Xc4 (k,0,a)).bind fun o=>some (o.1,o.2)
namespace Xeu
def G:Gam:=mkG [(83,Xgy.FS)]
theorem Gok:GOk PR G:=.cons Xgy.ok .nil
end Xeu
namespace Xc4
def c:=Yao (Yai Proofs.Tryz.f82) [1,0,1,0,0]
def sp:SP:=⟨[(0,.seg 0 []),(1,.cs I64),(5,.cs I64)],[(0,.reg,.cd (.sl SB))]⟩
def fr:=Yh3 sp (fun x s=>Xc4.B  s.1 s.2.1 s.2.2) (fun x=>(x.1.2.1,x.1.2.2.1,x.2.1)) fun x (bb0:Int×List (List Int)) _ kk0=>kk0 (.ex 0) ⟨[(1,.cs I64 bb0.1)],[sr 0 (.cd (.sl SB) bb0.2)]⟩
theorem ok:Ya9 PR 19 2 (.loop c) fr:=
 Ywi Xe Xf h0 (G:=Xeu.G) Xeu.Gok [(0,([1],[0]))] (fun x s=>((x.1.1,s.1,s.2.1,x.1.2.2.2),(s.2.2,x.2.2)))
  (fun x s=>by simp only[B,mC,mB,mS,mO,mN];kernel_rfl)
end Xc4
namespace Xeu
def pts:List PT:=[.cd (.sl SB),.cs I64]
def FS:FS:=Ycc [.mu,.sh] pts (fun x=>Xeu x.1 x.2.1) fun t=>⟨[.cs I64 t.1],[.cd (.sl SB) t.2]⟩
theorem ok:Ycs PR 82 FS:=
 Ywh Xe Xf Proofs.Tryz.f82 h0 (.R (.L (.R (.one (.fr 0))))) (G:=G) Gok (L:=mkL [(0,Xc4.fr)]) (l:=[(0,.loop Xc4.c)]) ⟨Lam.cons Xc4.ok,trivial⟩
  (fun x=>by simp only[Xeu,mC,mB,mS,mO,mN];kernel_rfl)
end Xeu
def Xb4 (a:Fs_) (k:Int):Option (Int×Fs_):=
 (Xgg a.1 k).bind fun r=>(Xeu a.2.1 r.1).bind fun r2=>some (r2.1,(r.2,r2.2,a.2.2))
namespace Xb4
def G:Gam:=mkG [(81,Xgg.FS),(82,Xeu.FS)]
def pts:List PT:=[.cd Xk,.cs I64]
def FS:FS:=Ycc [.mu,.sh] pts (fun x=>Xb4 x.1 x.2.1) fun t=>⟨[.cs I64 t.1],[.cd Xk t.2]⟩
theorem ok:Ycs PR 31 FS:=
 Ywh Xe Xf Proofs.Tryz.f31 ⟨[2],[],[],0⟩ .no (G:=G) (show GOk PR G from .cons Xgg.ok (.cons Xeu.ok .nil)) (L:=mkL []) (l:=[]) hT
  (fun x=>by simp only[Xb4,mC,mB,mS,mO,mN];kernel_rfl)
end Xb4
def Xd9 (a:X0) (k:Int):Option (Int×X0):=
 (Xhn (a.1.1,a.1.2.1,a.1.2.2) k).bind fun r=>(Xb4 (a.2.1.1,a.2.1.2.1,a.2.1.2.2) r.1).bind fun r2=>(Xb4 (a.2.2.1.1,a.2.2.1.2.1,a.2.2.1.2.2) r2.1).bind fun r3=>some (r3.1,((r.2.1,r.2.2.1,a.1.2.2),(r2.2.1,r2.2.2.1,a.2.1.2.2),(r3.2.1,r3.2.2.1,a.2.2.1.2.2),a.2.2.2))
namespace Xd9
def G:Gam:=mkG [(30,Xhn.FS),(31,Xb4.FS)]
def pts:List PT:=[.cd Xp,.cs I64]
def FS:FS:=Ycc [.mu,.sh] pts (fun x=>Xd9 x.1 x.2.1) fun t=>⟨[.cs I64 t.1],[.cd Xp t.2]⟩
theorem ok:Ycs PR 10 FS:=
 Ywh Xe Xf Proofs.Tryz.f10 ⟨[2],[],[],0⟩ .no (G:=G) (show GOk PR G from .cons Xhn.ok (.cons Xb4.ok .nil)) (L:=mkL []) (l:=[]) hT
  (fun x=>by simp only[Xd9,mC,mB,mS,mO,mN];kernel_rfl)
end Xd9
def Xdf.B (k_:Int) (i_:Int) (a_:List (List UInt8)):Option ((Int×Int×List (List UInt8))⊕(Int×List (List UInt8))):=
 cond (decide (i_<(a_.length:Int))) ((Xbo k_).bind fun r=>cond (inB i_ a_.length) (some (.inl (w64 (k_+1),w64 (i_+1),a_.set i_.toNat r))) none) (some (.inr (k_,a_)))
def Xdf :(Int×Int×List (List UInt8))→Option (Int×List (List UInt8)):=
 Yaj fun s=>Xdf.B s.1 s.2.1 s.2.2
def Xfw (a:List (List UInt8)) (k:Int):Option (Int×List (List UInt8)):=
 (Xdf (k,0,a)).bind fun o=>some (o.1,o.2)
namespace Xfw
def G:Gam:=mkG [(146,Xbo.FS)]
theorem Gok:GOk PR G:=.cons Xbo.ok .nil
end Xfw
namespace Xdf
def c:=Yao (Yai Proofs.Tryz.f84) [1,0,1,0,0]
def sp:SP:=⟨[(0,.seg 0 []),(1,.cs I64),(5,.cs I64)],[(0,.reg,.cd (.sl .str))]⟩
def fr:=Yh3 sp (fun x s=>Xdf.B  s.1 s.2.1 s.2.2) (fun x=>(x.1.2.1,x.1.2.2.1,x.2.1)) fun x (bb0:Int×List (List UInt8)) _ kk0=>kk0 (.ex 0) ⟨[(1,.cs I64 bb0.1)],[sr 0 (.cd (.sl .str) bb0.2)]⟩
theorem ok:Ya9 PR 20 2 (.loop c) fr:=
 Ywi Xe Xf h0 (G:=Xfw.G) Xfw.Gok [(0,([1],[0]))] (fun x s=>((x.1.1,s.1,s.2.1,x.1.2.2.2),(s.2.2,x.2.2)))
  (fun x s=>by simp only[B,mC,mB,mS,mO,mN];kernel_rfl)
end Xdf
namespace Xfw
def pts:List PT:=[.cd (.sl .str),.cs I64]
def FS:FS:=Ycc [.mu,.sh] pts (fun x=>Xfw x.1 x.2.1) fun t=>⟨[.cs I64 t.1],[.cd (.sl .str) t.2]⟩
theorem ok:Ycs PR 84 FS:=
 Ywh Xe Xf Proofs.Tryz.f84 h0 (.R (.L (.R (.one (.fr 0))))) (G:=G) Gok (L:=mkL [(0,Xdf.fr)]) (l:=[(0,.loop Xdf.c)]) ⟨Lam.cons Xdf.ok,trivial⟩
  (fun x=>by simp only[Xfw,mC,mB,mS,mO,mN];kernel_rfl)
end Xfw
def Xid (a:Xar) (k:Int):Option (Int×Xar):=
 (Xgy a.2.2.2.1 k).bind fun r=>(Xfw a.2.2.2.2.1 r.1).bind fun r2=>(Xb4 (a.2.2.2.2.2.1.1,a.2.2.2.2.2.1.2.1,a.2.2.2.2.2.1.2.2) r2.1).bind fun r3=>some (r3.1,(a.1,a.2.1,a.2.2.1,r.2,r2.2,(r3.2.1,r3.2.2.1,a.2.2.2.2.2.1.2.2),a.2.2.2.2.2.2))
namespace Xid
def G:Gam:=mkG [(83,Xgy.FS),(84,Xfw.FS),(31,Xb4.FS)]
def pts:List PT:=[.cd Xz,.cs I64]
def FS:FS:=Ycc [.mu,.sh] pts (fun x=>Xid x.1 x.2.1) fun t=>⟨[.cs I64 t.1],[.cd Xz t.2]⟩
theorem ok:Ycs PR 32 FS:=
 Ywh Xe Xf Proofs.Tryz.f32 ⟨[2],[],[],0⟩ .no (G:=G) (show GOk PR G from .cons Xgy.ok (.cons Xfw.ok (.cons Xb4.ok .nil))) (L:=mkL []) (l:=[]) hT
  (fun x=>by simp only[Xid,mC,mB,mS,mO,mN];kernel_rfl)
end Xid
def Xi2 (a:Xaa) (k:Int):Option (Int×Xaa):=
 (Xid (a.2.1.1,a.2.1.2.1,a.2.1.2.2.1,a.2.1.2.2.2.1,a.2.1.2.2.2.2.1,(a.2.1.2.2.2.2.2.1.1,a.2.1.2.2.2.2.2.1.2.1,a.2.1.2.2.2.2.2.1.2.2),a.2.1.2.2.2.2.2.2) k).bind fun r=>(Xd9 ((a.2.2.1.1.1,a.2.2.1.1.2.1,a.2.2.1.1.2.2),(a.2.2.1.2.1.1,a.2.2.1.2.1.2.1,a.2.2.1.2.1.2.2),(a.2.2.1.2.2.1.1,a.2.2.1.2.2.1.2.1,a.2.2.1.2.2.1.2.2),a.2.2.1.2.2.2) r.1).bind fun r2=>some (r2.1,(a.1,(a.2.1.1,a.2.1.2.1,a.2.1.2.2.1,r.2.2.2.2.1,r.2.2.2.2.2.1,(r.2.2.2.2.2.2.1.1,r.2.2.2.2.2.2.1.2.1,a.2.1.2.2.2.2.2.1.2.2),a.2.1.2.2.2.2.2.2),((r2.2.1.1,r2.2.1.2.1,a.2.2.1.1.2.2),(r2.2.2.1.1,r2.2.2.1.2.1,a.2.2.1.2.1.2.2),(r2.2.2.2.1.1,r2.2.2.2.1.2.1,a.2.2.1.2.2.1.2.2),a.2.2.1.2.2.2),a.2.2.2))
namespace Xi2
def G:Gam:=mkG [(32,Xid.FS),(10,Xd9.FS)]
def pts:List PT:=[.cd Xt,.cs I64]
def FS:FS:=Ycc [.mu,.sh] pts (fun x=>Xi2 x.1 x.2.1) fun t=>⟨[.cs I64 t.1],[.cd Xt t.2]⟩
theorem ok:Ycs PR 11 FS:=
 Ywh Xe Xf Proofs.Tryz.f11 ⟨[2],[],[],0⟩ .no (G:=G) (show GOk PR G from .cons Xid.ok (.cons Xd9.ok .nil)) (L:=mkL []) (l:=[]) hT
  (fun x=>by simp only[Xi2,mC,mB,mS,mO,mN];kernel_rfl)
end Xi2
def Xdr.B (a:List Int) (k_:Int) (i_:Int):Option ((Int×Int)⊕((Int⊕Int))):=
 cond (decide (i_<(a.length:Int))) (cond (inB i_ a.length) (cond ((a.getD i_.toNat 0) != (IntKind.u8.wrap k_)) (some (.inr (.inl (-1)))) (some (.inl (w64 (k_+1),w64 (i_+1))))) none) (some (.inr (.inr k_)))
def Xdr (a:List Int):(Int×Int)→Option ((Int⊕Int)):=
 Yaj fun s=>Xdr.B a s.1 s.2
def Xgq (a:List Int) (k:Int):Option Int:=
 (Xdr a (k,0)).bind fun o=>sel o (fun b=>some b) (fun c=>some c)
namespace Xdr
def c:=Yao (Yai Proofs.Tryz.f85) [1,0,1,0,0]
def sp:SP:=⟨[(0,.cs SB),(1,.cs I64),(5,.cs I64)],[]⟩
def fr:=Yh3 sp (fun x s=>Xdr.B x.1.1 s.1 s.2) (fun x=>(x.1.2.1,x.1.2.2.1)) fun x (oo0:(Int⊕Int)) _ kk0=>sel oo0 (fun bb0=>kk0 (.rt) ⟨[(4,.cs I64 bb0)],[]⟩) (fun cc0=>kk0 (.ex 0) ⟨[(1,.cs I64 cc0)],[]⟩)
theorem ok:Ya9 PR 22 2 (.loop c) fr:=
 Yst Xe Xf h0 .no (G:=(mkG [])) .nil (L:=mkL []) (l:=[]) hT [(0,([1],[]))] ([4],[]) (fun x s=>((x.1.1,s.1,s.2,x.1.2.2.2),x.2))
  (fun x s=>by simp only[B,mC,mB,mS,mO,mN];kernel_rfl)
end Xdr
namespace Xgq
def pts:List PT:=[.cs SB,.cs I64]
def FS:FS:=Ycc [.sh,.sh] pts (fun x=>Xgq x.1 x.2.1) fun t=>⟨[.cs I64 t],[]⟩
theorem ok:Ycs PR 85 FS:=
 Ywh Xe Xf Proofs.Tryz.f85 h0 (.R (.L (.R (.one (.fr 0))))) (G:=(mkG [])) .nil (L:=mkL [(0,Xdr.fr)]) (l:=[(0,.loop Xdr.c)]) ⟨Lam.cons Xdr.ok,trivial⟩
  (fun x=>by simp only[Xgq,mC,mB,mS,mO,mN];kernel_rfl)
end Xgq
def Xcr.B (a:List (List UInt8)) (k_:Int) (i_:Int):Option ((Int×Int)⊕((Int⊕Int))):=
 cond (decide (i_<(a.length:Int))) (cond (inB i_ a.length) ((Xbo k_).bind fun r=>cond (!((a.getD i_.toNat []) == r)) (some (.inr (.inl (-1)))) (some (.inl (w64 (k_+1),w64 (i_+1))))) none) (some (.inr (.inr k_)))
def Xcr (a:List (List UInt8)):(Int×Int)→Option ((Int⊕Int)):=
 Yaj fun s=>Xcr.B a s.1 s.2
def Xew (a:List (List UInt8)) (k:Int):Option Int:=
 (Xcr a (k,0)).bind fun o=>sel o (fun b=>some b) (fun c=>some c)
namespace Xew
def G:Gam:=mkG [(146,Xbo.FS)]
theorem Gok:GOk PR G:=.cons Xbo.ok .nil
end Xew
namespace Xcr
def c:=Yao (Yai Proofs.Tryz.f86) [1,0,1,0,0]
def sp:SP:=⟨[(0,.cs (.sl .str)),(1,.cs I64),(5,.cs I64)],[]⟩
def fr:=Yh3 sp (fun x s=>Xcr.B x.1.1 s.1 s.2) (fun x=>(x.1.2.1,x.1.2.2.1)) fun x (oo0:(Int⊕Int)) _ kk0=>sel oo0 (fun bb0=>kk0 (.rt) ⟨[(4,.cs I64 bb0)],[]⟩) (fun cc0=>kk0 (.ex 0) ⟨[(1,.cs I64 cc0)],[]⟩)
theorem ok:Ya9 PR 22 2 (.loop c) fr:=
 Yst Xe Xf h0 .no (G:=Xew.G) Xew.Gok (L:=mkL []) (l:=[]) hT [(0,([1],[]))] ([4],[]) (fun x s=>((x.1.1,s.1,s.2,x.1.2.2.2),x.2))
  (fun x s=>by simp only[B,mC,mB,mS,mO,mN];kernel_rfl)
end Xcr
namespace Xew
def pts:List PT:=[.cs (.sl .str),.cs I64]
def FS:FS:=Ycc [.sh,.sh] pts (fun x=>Xew x.1 x.2.1) fun t=>⟨[.cs I64 t],[]⟩
theorem ok:Ycs PR 86 FS:=
 Ywh Xe Xf Proofs.Tryz.f86 h0 (.R (.L (.R (.one (.fr 0))))) (G:=G) Gok (L:=mkL [(0,Xcr.fr)]) (l:=[(0,.loop Xcr.c)]) ⟨Lam.cons Xcr.ok,trivial⟩
  (fun x=>by simp only[Xew,mC,mB,mS,mO,mN];kernel_rfl)
end Xew
def Xc6.B (a:List Int) (k_:Int) (i_:Int):Option ((Int×Int)⊕((Int⊕Int))):=
 cond (decide (i_<(a.length:Int))) (cond (inB i_ a.length) (cond ((a.getD i_.toNat 0) != k_) (some (.inr (.inl (-1)))) (some (.inl (w64 (k_+1),w64 (i_+1))))) none) (some (.inr (.inr k_)))
def Xc6 (a:List Int):(Int×Int)→Option ((Int⊕Int)):=
 Yaj fun s=>Xc6.B a s.1 s.2
def Xci (a:List Int) (k:Int):Option Int:=
 (Xc6 a (k,0)).bind fun o=>sel o (fun b=>some b) (fun c=>some c)
namespace Xc6
def c:=Yao (Yai Proofs.Tryz.f182) [1,0,1,0,0]
def sp:SP:=⟨[(0,.cs SI),(1,.cs I64),(5,.cs I64)],[]⟩
def fr:=Yh3 sp (fun x s=>Xc6.B x.1.1 s.1 s.2) (fun x=>(x.1.2.1,x.1.2.2.1)) fun x (oo0:(Int⊕Int)) _ kk0=>sel oo0 (fun bb0=>kk0 (.rt) ⟨[(4,.cs I64 bb0)],[]⟩) (fun cc0=>kk0 (.ex 0) ⟨[(1,.cs I64 cc0)],[]⟩)
theorem ok:Ya9 PR 21 2 (.loop c) fr:=
 Yst Xe Xf h0 .no (G:=(mkG [])) .nil (L:=mkL []) (l:=[]) hT [(0,([1],[]))] ([4],[]) (fun x s=>((x.1.1,s.1,s.2,x.1.2.2.2),x.2))
  (fun x s=>by simp only[B,mC,mB,mS,mO,mN];kernel_rfl)
end Xc6
namespace Xci
def pts:List PT:=[.cs SI,.cs I64]
def FS:FS:=Ycc [.sh,.sh] pts (fun x=>Xci x.1 x.2.1) fun t=>⟨[.cs I64 t],[]⟩
theorem ok:Ycs PR 182 FS:=
 Ywh Xe Xf Proofs.Tryz.f182 h0 (.R (.L (.R (.one (.fr 0))))) (G:=(mkG [])) .nil (L:=mkL [(0,Xc6.fr)]) (l:=[(0,.loop Xc6.c)]) ⟨Lam.cons Xc6.ok,trivial⟩
  (fun x=>by simp only[Xci,mC,mB,mS,mO,mN];kernel_rfl)
end Xci
def Xdg.B (a:List Xg) (k_:Int) (i_:Int):Option ((Int×Int)⊕((Int⊕Int))):=
 cond (decide (i_<(a.length:Int))) (cond (inB i_ a.length) ((Xbo k_).bind fun r=>cond (!((a.getD i_.toNat Xl).1 == r)) (some (.inr (.inl (-1)))) (cond (inB i_ a.length) ((some ((a.getD i_.toNat Xl).2.1 != (w64 (k_+1)))).bind fun v=>cond v (some (.inr (.inl (-1)))) (some (.inl (w64 ((w64 (k_+1))+1),w64 (i_+1))))) none)) none) (some (.inr (.inr k_)))
def Xdg (a:List Xg):(Int×Int)→Option ((Int⊕Int)):=
 Yaj fun s=>Xdg.B a s.1 s.2
def Xfi (a:List Xg) (k:Int):Option Int:=
 (Xdg a (k,0)).bind fun o=>sel o (fun b=>some b) (fun c=>some c)
namespace Xfi
def G:Gam:=mkG [(146,Xbo.FS)]
theorem Gok:GOk PR G:=.cons Xbo.ok .nil
end Xfi
namespace Xdg
def c:=Yao (Yai Proofs.Tryz.f183) [1,0,1,0,0]
def sp:SP:=⟨[(0,.cs (.sl Xi)),(1,.cs I64),(5,.cs I64)],[]⟩
def fr:=Yh3 sp (fun x s=>Xdg.B x.1.1 s.1 s.2) (fun x=>(x.1.2.1,x.1.2.2.1)) fun x (oo0:(Int⊕Int)) _ kk0=>sel oo0 (fun bb0=>kk0 (.rt) ⟨[(4,.cs I64 bb0)],[]⟩) (fun cc0=>kk0 (.ex 0) ⟨[(1,.cs I64 cc0)],[]⟩)
theorem ok:Ya9 PR 32 2 (.loop c) fr:=
 Yst Xe Xf h0 .no (G:=Xfi.G) Xfi.Gok (L:=mkL []) (l:=[]) hT [(0,([1],[]))] ([4],[]) (fun x s=>((x.1.1,s.1,s.2,x.1.2.2.2),x.2))
  (fun x s=>by simp only[B,mC,mB,mS,mO,mN];kernel_rfl)
end Xdg
namespace Xfi
def pts:List PT:=[.cs (.sl Xi),.cs I64]
def FS:FS:=Ycc [.sh,.sh] pts (fun x=>Xfi x.1 x.2.1) fun t=>⟨[.cs I64 t],[]⟩
theorem ok:Ycs PR 183 FS:=
 Ywh Xe Xf Proofs.Tryz.f183 h0 (.R (.L (.R (.one (.fr 0))))) (G:=G) Gok (L:=mkL [(0,Xdg.fr)]) (l:=[(0,.loop Xdg.c)]) ⟨Lam.cons Xdg.ok,trivial⟩
  (fun x=>by simp only[Xfi,mC,mB,mS,mO,mN];kernel_rfl)
end Xfi
def Xdo.B (a:List Xa) (k_:Int) (i_:Int):Option ((Int×Int)⊕((Int⊕Int))):=
 cond (decide (i_<(a.length:Int))) (cond (inB i_ a.length) (cond ((a.getD i_.toNat Xb).1 != k_) (some (.inr (.inl (-1)))) (cond (inB i_ a.length) ((some ((a.getD i_.toNat Xb).2.1 != (w64 (k_+1)))).bind fun v=>cond v (some (.inr (.inl (-1)))) (cond (inB i_ a.length) ((some ((a.getD i_.toNat Xb).2.2.1 != (w64 ((w64 (k_+1))+1)))).bind fun v2=>cond v2 (some (.inr (.inl (-1)))) (cond (inB i_ a.length) ((Xci (a.getD i_.toNat Xb).2.2.2.1 (w64 ((w64 ((w64 (k_+1))+1))+1))).bind fun r=>cond (decide (r<0)) (some (.inr (.inl (-1)))) (cond (inB i_ a.length) ((Xfi (a.getD i_.toNat Xb).2.2.2.2.1 r).bind fun r2=>cond (decide (r2<0)) (some (.inr (.inl (-1)))) (some (.inl (r2,w64 (i_+1))))) none)) none)) none)) none)) none) (some (.inr (.inr k_)))
def Xdo (a:List Xa):(Int×Int)→Option ((Int⊕Int)):=
 Yaj fun s=>Xdo.B a s.1 s.2
def Xfc (a:List Xa) (k:Int):Option Int:=
 (Xdo a (k,0)).bind fun o=>sel o (fun b=>some b) (fun c=>some c)
namespace Xfc
def G:Gam:=mkG [(182,Xci.FS),(183,Xfi.FS)]
theorem Gok:GOk PR G:=.cons Xci.ok (.cons Xfi.ok .nil)
end Xfc
namespace Xdo
def c:=Yao (Yai Proofs.Tryz.f147) [1,0,1,0,0]
def sp:SP:=⟨[(0,.cs (.sl Xc)),(1,.cs I64),(5,.cs I64)],[]⟩
def fr:=Yh3 sp (fun x s=>Xdo.B x.1.1 s.1 s.2) (fun x=>(x.1.2.1,x.1.2.2.1)) fun x (oo0:(Int⊕Int)) _ kk0=>sel oo0 (fun bb0=>kk0 (.rt) ⟨[(4,.cs I64 bb0)],[]⟩) (fun cc0=>kk0 (.ex 0) ⟨[(1,.cs I64 cc0)],[]⟩)
theorem ok:Ya9 PR 58 2 (.loop c) fr:=
 Yst Xe Xf h0 .no (G:=Xfc.G) Xfc.Gok (L:=mkL []) (l:=[]) hT [(0,([1],[]))] ([4],[]) (fun x s=>((x.1.1,s.1,s.2,x.1.2.2.2),x.2))
  (fun x s=>by simp only[B,mC,mB,mS,mO,mN];kernel_rfl)
end Xdo
namespace Xfc
def pts:List PT:=[.cs (.sl Xc),.cs I64]
def FS:FS:=Ycc [.sh,.sh] pts (fun x=>Xfc x.1 x.2.1) fun t=>⟨[.cs I64 t],[]⟩
theorem ok:Ycs PR 147 FS:=
 Ywh Xe Xf Proofs.Tryz.f147 h0 (.R (.L (.R (.one (.fr 0))))) (G:=G) Gok (L:=mkL [(0,Xdo.fr)]) (l:=[(0,.loop Xdo.c)]) ⟨Lam.cons Xdo.ok,trivial⟩
  (fun x=>by simp only[Xfc,mC,mB,mS,mO,mN];kernel_rfl)
end Xfc
def Xcu.B (a:List (List Int)) (k_:Int) (i_:Int):Option ((Int×Int)⊕((Int⊕Int))):=
 cond (decide (i_<(a.length:Int))) (cond (inB i_ a.length) ((Xgq (a.getD i_.toNat []) k_).bind fun r=>cond (decide (r<0)) (some (.inr (.inl (-1)))) (some (.inl (r,w64 (i_+1))))) none) (some (.inr (.inr k_)))
def Xcu (a:List (List Int)):(Int×Int)→Option ((Int⊕Int)):=
 Yaj fun s=>Xcu.B a s.1 s.2
def Xei (a:List (List Int)) (k:Int):Option Int:=
 (Xcu a (k,0)).bind fun o=>sel o (fun b=>some b) (fun c=>some c)
namespace Xei
def G:Gam:=mkG [(85,Xgq.FS)]
theorem Gok:GOk PR G:=.cons Xgq.ok .nil
end Xei
namespace Xcu
def c:=Yao (Yai Proofs.Tryz.f148) [1,0,1,0,0]
def sp:SP:=⟨[(0,.cs (.sl SB)),(1,.cs I64),(5,.cs I64)],[]⟩
def fr:=Yh3 sp (fun x s=>Xcu.B x.1.1 s.1 s.2) (fun x=>(x.1.2.1,x.1.2.2.1)) fun x (oo0:(Int⊕Int)) _ kk0=>sel oo0 (fun bb0=>kk0 (.rt) ⟨[(4,.cs I64 bb0)],[]⟩) (fun cc0=>kk0 (.ex 0) ⟨[(1,.cs I64 cc0)],[]⟩)
theorem ok:Ya9 PR 21 2 (.loop c) fr:=
 Yst Xe Xf h0 .no (G:=Xei.G) Xei.Gok (L:=mkL []) (l:=[]) hT [(0,([1],[]))] ([4],[]) (fun x s=>((x.1.1,s.1,s.2,x.1.2.2.2),x.2))
  (fun x s=>by simp only[B,mC,mB,mS,mO,mN];kernel_rfl)
end Xcu
namespace Xei
def pts:List PT:=[.cs (.sl SB),.cs I64]
def FS:FS:=Ycc [.sh,.sh] pts (fun x=>Xei x.1 x.2.1) fun t=>⟨[.cs I64 t],[]⟩
theorem ok:Ycs PR 148 FS:=
 Ywh Xe Xf Proofs.Tryz.f148 h0 (.R (.L (.R (.one (.fr 0))))) (G:=G) Gok (L:=mkL [(0,Xcu.fr)]) (l:=[(0,.loop Xcu.c)]) ⟨Lam.cons Xcu.ok,trivial⟩
  (fun x=>by simp only[Xei,mC,mB,mS,mO,mN];kernel_rfl)
end Xei
def Xb2 (a:Fs_) (k:Int):Option Int:=
 (Xfc a.1 k).bind fun r=>cond (decide (r<0)) (some (-1)) ((Xei a.2.1 r).bind fun r2=>cond (decide (r2<0)) (some (-1)) (some r2))
namespace Xb2
def G:Gam:=mkG [(147,Xfc.FS),(148,Xei.FS)]
def pts:List PT:=[.cs Xk,.cs I64]
def FS:FS:=Ycc [.sh,.sh] pts (fun x=>Xb2 x.1 x.2.1) fun t=>⟨[.cs I64 t],[]⟩
theorem ok:Ycs PR 87 FS:=
 Ywh Xe Xf Proofs.Tryz.f87 ⟨[2],[],[],0⟩ .no (G:=G) (show GOk PR G from .cons Xfc.ok (.cons Xei.ok .nil)) (L:=mkL []) (l:=[]) hT
  (fun x=>by simp only[Xb2,mC,mB,mS,mO,mN];kernel_rfl)
end Xb2
def Xil (a:Xar) (k:Int):Option Int:=
 (Xgq a.2.2.2.1 k).bind fun r=>cond (decide (r<0)) (some (-1)) ((Xew a.2.2.2.2.1 r).bind fun r2=>cond (decide (r2<0)) (some (-1)) ((Xb2 a.2.2.2.2.2.1 r2).bind fun r3=>cond (decide (r3<0)) (some (-1)) (some r3)))
namespace Xil
def G:Gam:=mkG [(85,Xgq.FS),(86,Xew.FS),(87,Xb2.FS)]
def pts:List PT:=[.cs Xz,.cs I64]
def FS:FS:=Ycc [.sh,.sh] pts (fun x=>Xil x.1 x.2.1) fun t=>⟨[.cs I64 t],[]⟩
theorem ok:Ycs PR 33 FS:=
 Ywh Xe Xf Proofs.Tryz.f33 ⟨[2],[],[],0⟩ .no (G:=G) (show GOk PR G from .cons Xgq.ok (.cons Xew.ok (.cons Xb2.ok .nil))) (L:=mkL []) (l:=[]) hT
  (fun x=>by simp only[Xil,mC,mB,mS,mO,mN];kernel_rfl)
end Xil
def Xdk.B (a:List (List Int)) (k_:Int) (i_:Int):Option ((Int×Int)⊕((Int⊕Int))):=
 cond (decide (i_<(a.length:Int))) (cond (inB i_ a.length) ((Xci (a.getD i_.toNat []) k_).bind fun r=>cond (decide (r<0)) (some (.inr (.inl (-1)))) (some (.inl (r,w64 (i_+1))))) none) (some (.inr (.inr k_)))
def Xdk (a:List (List Int)):(Int×Int)→Option ((Int⊕Int)):=
 Yaj fun s=>Xdk.B a s.1 s.2
def Xf6 (a:List (List Int)) (k:Int):Option Int:=
 (Xdk a (k,0)).bind fun o=>sel o (fun b=>some b) (fun c=>some c)
namespace Xf6
def G:Gam:=mkG [(182,Xci.FS)]
theorem Gok:GOk PR G:=.cons Xci.ok .nil
end Xf6
namespace Xdk
def c:=Yao (Yai Proofs.Tryz.f149) [1,0,1,0,0]
def sp:SP:=⟨[(0,.cs (.sl SI)),(1,.cs I64),(5,.cs I64)],[]⟩
def fr:=Yh3 sp (fun x s=>Xdk.B x.1.1 s.1 s.2) (fun x=>(x.1.2.1,x.1.2.2.1)) fun x (oo0:(Int⊕Int)) _ kk0=>sel oo0 (fun bb0=>kk0 (.rt) ⟨[(4,.cs I64 bb0)],[]⟩) (fun cc0=>kk0 (.ex 0) ⟨[(1,.cs I64 cc0)],[]⟩)
theorem ok:Ya9 PR 21 2 (.loop c) fr:=
 Yst Xe Xf h0 .no (G:=Xf6.G) Xf6.Gok (L:=mkL []) (l:=[]) hT [(0,([1],[]))] ([4],[]) (fun x s=>((x.1.1,s.1,s.2,x.1.2.2.2),x.2))
  (fun x s=>by simp only[B,mC,mB,mS,mO,mN];kernel_rfl)
end Xdk
namespace Xf6
def pts:List PT:=[.cs (.sl SI),.cs I64]
def FS:FS:=Ycc [.sh,.sh] pts (fun x=>Xf6 x.1 x.2.1) fun t=>⟨[.cs I64 t],[]⟩
theorem ok:Ycs PR 149 FS:=
 Ywh Xe Xf Proofs.Tryz.f149 h0 (.R (.L (.R (.one (.fr 0))))) (G:=G) Gok (L:=mkL [(0,Xdk.fr)]) (l:=[(0,.loop Xdk.c)]) ⟨Lam.cons Xdk.ok,trivial⟩
  (fun x=>by simp only[Xf6,mC,mB,mS,mO,mN];kernel_rfl)
end Xf6
def Xct.B (a:List Xj) (k_:Int) (i_:Int):Option ((Int×Int)⊕((Int⊕Int))):=
 cond (decide (i_<(a.length:Int))) (cond (inB i_ a.length) (cond ((a.getD i_.toNat Xv).1 != k_) (some (.inr (.inl (-1)))) (cond (inB i_ a.length) ((Xci (a.getD i_.toNat Xv).2.1 (w64 (k_+1))).bind fun r=>cond (decide (r<0)) (some (.inr (.inl (-1)))) (some (.inl (r,w64 (i_+1))))) none)) none) (some (.inr (.inr k_)))
def Xct (a:List Xj):(Int×Int)→Option ((Int⊕Int)):=
 Yaj fun s=>Xct.B a s.1 s.2
def Xe4 (a:List Xj) (k:Int):Option Int:=
 (Xct a (k,0)).bind fun o=>sel o (fun b=>some b) (fun c=>some c)
namespace Xe4
def G:Gam:=mkG [(182,Xci.FS)]
theorem Gok:GOk PR G:=.cons Xci.ok .nil
end Xe4
namespace Xct
def c:=Yao (Yai Proofs.Tryz.f150) [1,0,1,0,0]
def sp:SP:=⟨[(0,.cs (.sl Xm)),(1,.cs I64),(5,.cs I64)],[]⟩
def fr:=Yh3 sp (fun x s=>Xct.B x.1.1 s.1 s.2) (fun x=>(x.1.2.1,x.1.2.2.1)) fun x (oo0:(Int⊕Int)) _ kk0=>sel oo0 (fun bb0=>kk0 (.rt) ⟨[(4,.cs I64 bb0)],[]⟩) (fun cc0=>kk0 (.ex 0) ⟨[(1,.cs I64 cc0)],[]⟩)
theorem ok:Ya9 PR 31 2 (.loop c) fr:=
 Yst Xe Xf h0 .no (G:=Xe4.G) Xe4.Gok (L:=mkL []) (l:=[]) hT [(0,([1],[]))] ([4],[]) (fun x s=>((x.1.1,s.1,s.2,x.1.2.2.2),x.2))
  (fun x s=>by simp only[B,mC,mB,mS,mO,mN];kernel_rfl)
end Xct
namespace Xe4
def pts:List PT:=[.cs (.sl Xm),.cs I64]
def FS:FS:=Ycc [.sh,.sh] pts (fun x=>Xe4 x.1 x.2.1) fun t=>⟨[.cs I64 t],[]⟩
theorem ok:Ycs PR 150 FS:=
 Ywh Xe Xf Proofs.Tryz.f150 h0 (.R (.L (.R (.one (.fr 0))))) (G:=G) Gok (L:=mkL [(0,Xct.fr)]) (l:=[(0,.loop Xct.c)]) ⟨Lam.cons Xct.ok,trivial⟩
  (fun x=>by simp only[Xe4,mC,mB,mS,mO,mN];kernel_rfl)
end Xe4
def Xhk (a:Xd) (k:Int):Option Int:=
 (Xf6 a.1 k).bind fun r=>cond (decide (r<0)) (some (-1)) ((Xe4 a.2.1 r).bind fun r2=>cond (decide (r2<0)) (some (-1)) (some r2))
namespace Xhk
def G:Gam:=mkG [(149,Xf6.FS),(150,Xe4.FS)]
def pts:List PT:=[.cs Xh,.cs I64]
def FS:FS:=Ycc [.sh,.sh] pts (fun x=>Xhk x.1 x.2.1) fun t=>⟨[.cs I64 t],[]⟩
theorem ok:Ycs PR 88 FS:=
 Ywh Xe Xf Proofs.Tryz.f88 ⟨[2],[],[],0⟩ .no (G:=G) (show GOk PR G from .cons Xf6.ok (.cons Xe4.ok .nil)) (L:=mkL []) (l:=[]) hT
  (fun x=>by simp only[Xhk,mC,mB,mS,mO,mN];kernel_rfl)
end Xhk
def Xik (a:X0) (k:Int):Option Int:=
 (Xhk a.1 k).bind fun r=>cond (decide (r<0)) (some (-1)) ((Xb2 a.2.1 r).bind fun r2=>cond (decide (r2<0)) (some (-1)) ((Xb2 a.2.2.1 r2).bind fun r3=>cond (decide (r3<0)) (some (-1)) (some r3)))
namespace Xik
def G:Gam:=mkG [(88,Xhk.FS),(87,Xb2.FS)]
def pts:List PT:=[.cs Xp,.cs I64]
def FS:FS:=Ycc [.sh,.sh] pts (fun x=>Xik x.1 x.2.1) fun t=>⟨[.cs I64 t],[]⟩
theorem ok:Ycs PR 34 FS:=
 Ywh Xe Xf Proofs.Tryz.f34 ⟨[2],[],[],0⟩ .no (G:=G) (show GOk PR G from .cons Xhk.ok (.cons Xb2.ok .nil)) (L:=mkL []) (l:=[]) hT
  (fun x=>by simp only[Xik,mC,mB,mS,mO,mN];kernel_rfl)
end Xik
def Xij (a:Xaa) (k:Int):Option Int:=
 (Xil a.2.1 k).bind fun r=>cond (decide (r<0)) (some (-1)) ((Xik a.2.2.1 r).bind fun r2=>cond (decide (r2<0)) (some (-1)) (some r2))
namespace Xij
def G:Gam:=mkG [(33,Xil.FS),(34,Xik.FS)]
def pts:List PT:=[.cs Xt,.cs I64]
def FS:FS:=Ycc [.sh,.sh] pts (fun x=>Xij x.1 x.2.1) fun t=>⟨[.cs I64 t],[]⟩
theorem ok:Ycs PR 12 FS:=
 Ywh Xe Xf Proofs.Tryz.f12 ⟨[2],[],[],0⟩ .no (G:=G) (show GOk PR G from .cons Xil.ok (.cons Xik.ok .nil)) (L:=mkL []) (l:=[]) hT
  (fun x=>by simp only[Xij,mC,mB,mS,mO,mN];kernel_rfl)
end Xij
def Xlw (aW:X0):Option Bool:=
 (Xob aW 1048576).bind fun r=>cond (decide (r<0)) (some true) ((Xl2 aW).bind fun r2=>(Xic ((r2.1.1,r2.1.2.1,r2.1.2.2),(r2.2.1.1,r2.2.1.2.1,r2.2.1.2.2),(r2.2.2.1.1,r2.2.2.1.2.1,r2.2.2.1.2.2),r2.2.2.2)).bind fun r3=>(Xl2 aW).bind fun r4=>(Xhr ((r4.1.1,r4.1.2.1,r4.1.2.2),(r4.2.1.1,r4.2.1.2.1,r4.2.1.2.2),(r4.2.2.1.1,r4.2.2.1.2.1,r4.2.2.1.2.2),r4.2.2.2)).bind fun r5=>(Xho (r5.1,(r5.2.1.1,r5.2.1.2.1,r5.2.1.2.2.1,r5.2.1.2.2.2.1,r5.2.1.2.2.2.2.1,(r5.2.1.2.2.2.2.2.1.1,r5.2.1.2.2.2.2.2.1.2.1,r5.2.1.2.2.2.2.2.1.2.2),r5.2.1.2.2.2.2.2.2),((r5.2.2.1.1.1,r5.2.2.1.1.2.1,r5.2.2.1.1.2.2),(r5.2.2.1.2.1.1,r5.2.2.1.2.1.2.1,r5.2.2.1.2.1.2.2),(r5.2.2.1.2.2.1.1,r5.2.2.1.2.2.1.2.1,r5.2.2.1.2.2.1.2.2),r5.2.2.1.2.2.2),r5.2.2.2) (r3.1,(r3.2.1.1,r3.2.1.2.1,r3.2.1.2.2.1,r3.2.1.2.2.2.1,r3.2.1.2.2.2.2.1,(r3.2.1.2.2.2.2.2.1.1,r3.2.1.2.2.2.2.2.1.2.1,r3.2.1.2.2.2.2.2.1.2.2),r3.2.1.2.2.2.2.2.2),((r3.2.2.1.1.1,r3.2.2.1.1.2.1,r3.2.2.1.1.2.2),(r3.2.2.1.2.1.1,r3.2.2.1.2.1.2.1,r3.2.2.1.2.1.2.2),(r3.2.2.1.2.2.1.1,r3.2.2.1.2.2.1.2.1,r3.2.2.1.2.2.1.2.2),r3.2.2.1.2.2.2),r3.2.2.2)).bind fun r6=>cond (!r6) (some false) ((Xl2 aW).bind fun r7=>(Xgs ((r4.1.1,r4.1.2.1,r4.1.2.2),(r4.2.1.1,r4.2.1.2.1,r4.2.1.2.2),(r4.2.2.1.1,r4.2.2.1.2.1,r4.2.2.1.2.2),r4.2.2.2) ((r7.1.1,r7.1.2.1,r7.1.2.2),(r7.2.1.1,r7.2.1.2.1,r7.2.1.2.2),(r7.2.2.1.1,r7.2.2.1.2.1,r7.2.2.1.2.2),r7.2.2.2)).bind fun r8=>cond (!r8) (some false) ((Xd9 ((r4.1.1,r4.1.2.1,r4.1.2.2),(r4.2.1.1,r4.2.1.2.1,r4.2.1.2.2),(r4.2.2.1.1,r4.2.2.1.2.1,r4.2.2.1.2.2),r4.2.2.2) 1).bind fun r9=>cond (decide (r9.1<0)) (some false) ((Xho (r5.1,(r5.2.1.1,r5.2.1.2.1,r5.2.1.2.2.1,r5.2.1.2.2.2.1,r5.2.1.2.2.2.2.1,(r5.2.1.2.2.2.2.2.1.1,r5.2.1.2.2.2.2.2.1.2.1,r5.2.1.2.2.2.2.2.1.2.2),r5.2.1.2.2.2.2.2.2),((r5.2.2.1.1.1,r5.2.2.1.1.2.1,r5.2.2.1.1.2.2),(r5.2.2.1.2.1.1,r5.2.2.1.2.1.2.1,r5.2.2.1.2.1.2.2),(r5.2.2.1.2.2.1.1,r5.2.2.1.2.2.1.2.1,r5.2.2.1.2.2.1.2.2),r5.2.2.1.2.2.2),r5.2.2.2) (r3.1,(r3.2.1.1,r3.2.1.2.1,r3.2.1.2.2.1,r3.2.1.2.2.2.1,r3.2.1.2.2.2.2.1,(r3.2.1.2.2.2.2.2.1.1,r3.2.1.2.2.2.2.2.1.2.1,r3.2.1.2.2.2.2.2.1.2.2),r3.2.1.2.2.2.2.2.2),((r3.2.2.1.1.1,r3.2.2.1.1.2.1,r3.2.2.1.1.2.2),(r3.2.2.1.2.1.1,r3.2.2.1.2.1.2.1,r3.2.2.1.2.1.2.2),(r3.2.2.1.2.2.1.1,r3.2.2.1.2.2.1.2.1,r3.2.2.1.2.2.1.2.2),r3.2.2.1.2.2.2),r3.2.2.2)).bind fun r10=>cond (!r10) (some false) ((Xi2 (r5.1,(r5.2.1.1,r5.2.1.2.1,r5.2.1.2.2.1,r5.2.1.2.2.2.1,r5.2.1.2.2.2.2.1,(r5.2.1.2.2.2.2.2.1.1,r5.2.1.2.2.2.2.2.1.2.1,r5.2.1.2.2.2.2.2.1.2.2),r5.2.1.2.2.2.2.2.2),((r5.2.2.1.1.1,r5.2.2.1.1.2.1,r5.2.2.1.1.2.2),(r5.2.2.1.2.1.1,r5.2.2.1.2.1.2.1,r5.2.2.1.2.1.2.2),(r5.2.2.1.2.2.1.1,r5.2.2.1.2.2.1.2.1,r5.2.2.1.2.2.1.2.2),r5.2.2.1.2.2.2),r5.2.2.2) 1).bind fun r11=>(Xij (r5.1,(r5.2.1.1,r5.2.1.2.1,r5.2.1.2.2.1,r11.2.2.1.2.2.2.1,r11.2.2.1.2.2.2.2.1,(r11.2.2.1.2.2.2.2.2.1.1,r11.2.2.1.2.2.2.2.2.1.2.1,r5.2.1.2.2.2.2.2.1.2.2),r5.2.1.2.2.2.2.2.2),((r11.2.2.2.1.1.1,r11.2.2.2.1.1.2.1,r5.2.2.1.1.2.2),(r11.2.2.2.1.2.1.1,r11.2.2.2.1.2.1.2.1,r5.2.2.1.2.1.2.2),(r11.2.2.2.1.2.2.1.1,r11.2.2.2.1.2.2.1.2.1,r5.2.2.1.2.2.1.2.2),r5.2.2.1.2.2.2),r5.2.2.2) 1).bind fun r12=>cond (decide (r12<0)) (some false) (cond (r12 != r11.1) (some false) ((Xl2 aW).bind fun r13=>(Xhr ((r13.1.1,r13.1.2.1,r13.1.2.2),(r13.2.1.1,r13.2.1.2.1,r13.2.1.2.2),(r13.2.2.1.1,r13.2.2.1.2.1,r13.2.2.1.2.2),r13.2.2.2)).bind fun r14=>(Xho (r14.1,(r14.2.1.1,r14.2.1.2.1,r14.2.1.2.2.1,r14.2.1.2.2.2.1,r14.2.1.2.2.2.2.1,(r14.2.1.2.2.2.2.2.1.1,r14.2.1.2.2.2.2.2.1.2.1,r14.2.1.2.2.2.2.2.1.2.2),r14.2.1.2.2.2.2.2.2),((r14.2.2.1.1.1,r14.2.2.1.1.2.1,r14.2.2.1.1.2.2),(r14.2.2.1.2.1.1,r14.2.2.1.2.1.2.1,r14.2.2.1.2.1.2.2),(r14.2.2.1.2.2.1.1,r14.2.2.1.2.2.1.2.1,r14.2.2.1.2.2.1.2.2),r14.2.2.1.2.2.2),r14.2.2.2) (r3.1,(r3.2.1.1,r3.2.1.2.1,r3.2.1.2.2.1,r3.2.1.2.2.2.1,r3.2.1.2.2.2.2.1,(r3.2.1.2.2.2.2.2.1.1,r3.2.1.2.2.2.2.2.1.2.1,r3.2.1.2.2.2.2.2.1.2.2),r3.2.1.2.2.2.2.2.2),((r3.2.2.1.1.1,r3.2.2.1.1.2.1,r3.2.2.1.1.2.2),(r3.2.2.1.2.1.1,r3.2.2.1.2.1.2.1,r3.2.2.1.2.1.2.2),(r3.2.2.1.2.2.1.1,r3.2.2.1.2.2.1.2.1,r3.2.2.1.2.2.1.2.2),r3.2.2.1.2.2.2),r3.2.2.2)).bind fun r15=>cond (!r15) (some false) ((Xij (r5.1,(r5.2.1.1,r5.2.1.2.1,r5.2.1.2.2.1,r11.2.2.1.2.2.2.1,r11.2.2.1.2.2.2.2.1,(r11.2.2.1.2.2.2.2.2.1.1,r11.2.2.1.2.2.2.2.2.1.2.1,r5.2.1.2.2.2.2.2.1.2.2),r5.2.1.2.2.2.2.2.2),((r11.2.2.2.1.1.1,r11.2.2.2.1.1.2.1,r5.2.2.1.1.2.2),(r11.2.2.2.1.2.1.1,r11.2.2.2.1.2.1.2.1,r5.2.2.1.2.1.2.2),(r11.2.2.2.1.2.2.1.1,r11.2.2.2.1.2.2.1.2.1,r5.2.2.1.2.2.1.2.2),r5.2.2.1.2.2.2),r5.2.2.2) 1).bind fun r16=>cond (decide (r16<0)) (some false) (cond (r16 != r11.1) (some false) (some true))))))))))
namespace Xlw
def G:Gam:=mkG [(4,Xob.FS),(6,Xl2.FS),(5,Xic.FS),(7,Xhr.FS),(8,Xho.FS),(9,Xgs.FS),(10,Xd9.FS),(11,Xi2.FS),(12,Xij.FS)]
def pts:List PT:=[.cs Xp]
def FS:FS:=Ycc [.sh] pts (fun x=>Xlw x.1) fun t=>⟨[.cs .bool t],[]⟩
theorem ok:Ycs PR 3 FS:=
 Ywh Xe Xf Proofs.Tryz.f3 ⟨[1],[],[],0⟩ .no (G:=G) (show GOk PR G from .cons Xob.ok (.cons Xl2.ok (.cons Xic.ok (.cons Xhr.ok (.cons Xho.ok (.cons Xgs.ok (.cons Xd9.ok (.cons Xi2.ok (.cons Xij.ok .nil))))))))) (L:=mkL []) (l:=[]) hT
  (fun x=>by simp only[Xlw,mC,mB,mS,mO,mN];kernel_rfl)
end Xlw
end Mf
