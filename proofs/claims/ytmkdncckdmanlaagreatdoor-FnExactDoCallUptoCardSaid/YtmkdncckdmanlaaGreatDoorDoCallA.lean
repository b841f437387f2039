import Derived.Test.YtmkdncckdmanlaaGreatDoorDoCallA1
set_option linter.unusedVariables false
set_option linter.unusedSimpArgs false
noncomputable section
namespace Mf
open Go
set_option maxRecDepth 100000
def Xdy.B (v2:List UInt8) (v3:Int) (v8:Int) (v7:List UInt8) (v9:Int) (v10:List (List UInt8)):Option (((List UInt8)×Int×List (List UInt8))⊕((List UInt8)×Int×List (List UInt8))):=
 cond (decide (v9<v8)) ((Xh3 v7 v2).bind fun v11=>cond (decide (v11<0)) (some (.inr (v7,v9,v10))) (cond (decide ((0:Int)≤(w64 (v11+v3)))&&decide ((w64 (v11+v3))≤(v7.length:Int))) (cond (inB v9 v10.length) ((some (v10.set v9.toNat ((v7.take ((w64 (v11+v3)).toNat)).drop 0))).bind fun v12=>cond (decide ((0:Int)≤(w64 (v11+(v2.length:Int))))&&decide ((w64 (v11+(v2.length:Int)))≤(v7.length:Int))) ((some ((v7.take v7.length).drop ((w64 (v11+(v2.length:Int))).toNat))).bind fun v13=>some (.inl (v13,w64 (v9+1),v12))) none) none) none)) (some (.inr (v7,v9,v10)))
def Xdy (v2:List UInt8) (v3:Int) (v8:Int):((List UInt8)×Int×List (List UInt8))→Option ((List UInt8)×Int×List (List UInt8)):=
 Yan fun s=>Xdy.B v2 v3 v8 s.1 s.2.1 s.2.2
def Xfo (v:List UInt8) (v2:List UInt8) (v3:Int) (v4:Int):Option (List (List UInt8)):=
 cond (v4 == 0) (some []) (cond (v2 == ([]:List UInt8)) none (cond (decide (v4<0)) ((Xld v v2).bind fun v5=>(some (cond (decide ((w64 ((v.length:Int)+1))<(w64 (v5+1)))) (w64 ((v.length:Int)+1)) (w64 (v5+1)))).bind fun v6=>cond (decide ((0:Int)≤v6)&&(decide (v6≤v6)&&decide (v6≤2147483648))) ((Xdy v2 v3 (w64 (v6-1)) (v,0,List.replicate v6.toNat ([]:List UInt8))).bind fun v14=>cond (inB v14.2.1 v14.2.2.length) (cond (decide ((0:Int)≤(w64 (v14.2.1+1)))&&decide ((w64 (v14.2.1+1))≤((v14.2.2.set v14.2.1.toNat v14.1).length:Int))) ((some (((v14.2.2.set v14.2.1.toNat v14.1).drop 0).take (((w64 (v14.2.1+1)).toNat)-0))).bind fun v15=>some v15) none) none) none) ((some (cond (decide ((w64 ((v.length:Int)+1))<v4)) (w64 ((v.length:Int)+1)) v4)).bind fun v16=>cond (decide ((0:Int)≤v16)&&(decide (v16≤v16)&&decide (v16≤2147483648))) ((Xdy v2 v3 (w64 (v16-1)) (v,0,List.replicate v16.toNat ([]:List UInt8))).bind fun v17=>cond (inB v17.2.1 v17.2.2.length) (cond (decide ((0:Int)≤(w64 (v17.2.1+1)))&&decide ((w64 (v17.2.1+1))≤((v17.2.2.set v17.2.1.toNat v17.1).length:Int))) ((some (((v17.2.2.set v17.2.1.toNat v17.1).drop 0).take (((w64 (v17.2.1+1)).toNat)-0))).bind fun v18=>some v18) none) none) none)))
namespace Xfo
def G:Gam:=mkG [(213,Xld.FS),(214,Xh3.FS)]
theorem Gok:GOk PR G:=.cons Xld.ok (.cons Xh3.ok .nil)
end Xfo
namespace Xdy
noncomputable def c:=Yar (Yag Proofs.Tryz.f192) [1,1,1,1,1,1,1,1,0,0,0]
def sp:SP:=⟨[(0,.cs .str),(1,.cs .str),(2,.cs I64),(3,.cs I64),(9,.seg 9 []),(10,.cs I64)],[(9,.reg,.cd (.sl .str))]⟩
def fr:=Yja sp (fun x s=>Xdy.B x.1.2.1 x.1.2.2.1 x.1.2.2.2.1 s.1 s.2.1 s.2.2) (fun x=>(x.1.1,x.1.2.2.2.2.2.1,x.2.1)) fun x (bb0:(List UInt8)×Int×List (List UInt8)) _ kk0=>kk0 (.ex 0) ⟨[(0,.cs .str bb0.1),(9,.seg 9 []),(10,.cs I64 bb0.2.1)],[sr 9 (.cd (.sl .str) bb0.2.2)]⟩
theorem ok:Ya2 PR 66 4 (.loop c) fr:=
 Yw9 Xf Xe h0 (G:=Xfo.G) Xfo.Gok [(0,([0,9,10],[9]))] (fun x s=>((s.1,x.1.2.1,x.1.2.2.1,x.1.2.2.2.1,x.1.2.2.2.2.1,s.2.1,x.1.2.2.2.2.2.2),(s.2.2,x.2.2)))
  (fun x s=>by simp only[B,mC,mB,mS,mO,mN];kernel_rfl)
end Xdy
namespace Xfo
def pts:List PT:=[.cs .str,.cs .str,.cs I64,.cs I64]
def FS:FS:=Ycx [.sh,.sh,.sh,.sh] pts (fun x=>Xfo x.1 x.2.1 x.2.2.1 x.2.2.2.1) fun t=>⟨[.cd (.sl .str) t],[]⟩
theorem ok:Ycm PR 192 FS:=
 Yw7 Xf Xe Proofs.Tryz.f192 h0 (.R (.R (.R (.R (.R (.R (.R (.R (.L (.one (.fr 0))))))))))) (G:=G) Gok (L:=mkL [(0,Xdy.fr)]) (l:=[(0,.loop Xdy.c)]) ⟨Lam.cons Xdy.ok,trivial⟩
  (fun x=>by simp only[Xfo,mC,mB,mS,mO,mN];kernel_rfl)
end Xfo
def Xh4 (v:List UInt8) (v2:List UInt8):Option (List (List UInt8)):=
 (Xfo v v2 0 (-1)).bind fun v3=>some v3
namespace Xh4
def G:Gam:=mkG [(192,Xfo.FS)]
def pts:List PT:=[.cs .str,.cs .str]
def FS:FS:=Ycx [.sh,.sh] pts (fun x=>Xh4 x.1 x.2.1) fun t=>⟨[.cd (.sl .str) t],[]⟩
theorem ok:Ycm PR 169 FS:=
 Yw7 Xf Xe Proofs.Tryz.f169 h0 .no (G:=G) (show GOk PR G from .cons Xfo.ok .nil) (L:=mkL []) (l:=[]) hT
  (fun x=>by simp only[Xh4,mC,mB,mS,mO,mN];kernel_rfl)
end Xh4
def Xdz.B (v5:Int) (v4:List (List UInt8)) (v6:Int):Option (Int⊕(((Int×List (List UInt8))⊕Unit))):=
 cond (decide (v6<v5)) (cond (inB v6 v4.length) ((Xff (v4.getD v6.toNat [])).bind fun v7=>cond (v7 != 0) (some (.inr (.inl (v7,[])))) (some (.inl (w64 (v6+1))))) none) (some (.inr (.inr ())))
def Xdz (v5:Int) (v4:List (List UInt8)):Int→Option (((Int×List (List UInt8))⊕Unit)):=
 Yan fun s=>Xdz.B v5 v4 s
def Xbz (v:List UInt8):Option ((List (List UInt8))×Int):=
 cond (decide ((v.length:Int)>30)) (some ([],2)) (cond (v == ([47]:List UInt8)) (some ([],0)) ((Xh1 v ([47]:List UInt8)).bind fun v2=>cond (!v2) (some ([],5)) ((Xh2 v ([47]:List UInt8)).bind fun v3=>cond v3 (some ([],5)) (cond (decide ((0:Int)≤(1:Int))&&decide ((1:Int)≤(v.length:Int))) ((Xh4 ((v.take v.length).drop ((1:Int).toNat)) ([47]:List UInt8)).bind fun v4=>cond (decide ((v4.length:Int)>6)) (some ([],2)) ((Xdz (v4.length:Int) v4 0).bind fun v8=>sel v8 (fun v9=>some (v9.2,v9.1)) (fun v10=>some (v4,0)))) none))))
namespace Xbz
def G:Gam:=mkG [(167,Xh1.FS),(168,Xh2.FS),(169,Xh4.FS),(170,Xff.FS)]
theorem Gok:GOk PR G:=.cons Xh1.ok (.cons Xh2.ok (.cons Xh4.ok (.cons Xff.ok .nil)))
end Xbz
namespace Xdz
noncomputable def c:=Yar (Yag Proofs.Tryz.f131) [1,1,1,1,1,1,0,1,0,0]
def sp:SP:=⟨[(4,.seg 4 []),(26,.seg 4 []),(27,.cs I64),(28,.cs I64)],[(4,.reg,.cd (.sl .str))]⟩
def fr:=Yja sp (fun x s=>Xdz.B x.1.2.2.1 x.2.1 s) (fun x=>x.1.2.2.2.1) fun x (oo0:((Int×List (List UInt8))⊕Unit)) _ kk0=>sel oo0 (fun bb0=>kk0 (.rt) ⟨[(2,.seg 2 []),(3,.cs I64 bb0.1)],[sr 2 (.cd (.sl .str) bb0.2)]⟩) (fun cc0=>kk0 (.ex 0) ⟨[(4,.seg 4 [])],[sr 4 (.cd (.sl .str) x.2.1)]⟩)
theorem ok:Ya2 PR 39 1 (.loop c) fr:=
 Yth Xf Xe h0 .no (G:=Xbz.G) Xbz.Gok (L:=mkL []) (l:=[]) hT [(0,([4],[4]))] ([2,3],[2]) (fun x s=>((x.1.1,x.1.2.1,x.1.2.2.1,s,x.1.2.2.2.2),x.2))
  (fun x s=>by simp only[B,mC,mB,mS,mO,mN];kernel_rfl)
end Xdz
namespace Xbz
def pts:List PT:=[.cs .str]
def FS:FS:=Ycx [.sh] pts (fun x=>Xbz x.1) fun t=>⟨[.cd (.sl .str) t.1,.cs I64 t.2],[]⟩
theorem ok:Ycm PR 131 FS:=
 Yw7 Xf Xe Proofs.Tryz.f131 h0 (.R (.R (.R (.R (.R (.R (.L (.R (.one (.fr 0)))))))))) (G:=G) Gok (L:=mkL [(0,Xdz.fr)]) (l:=[(0,.loop Xdz.c)]) ⟨Lam.cons Xdz.ok,trivial⟩
  (fun x=>by simp only[Xbz,mC,mB,mS,mO,mN];kernel_rfl)
end Xbz
def Xfp.B (v3:List UInt8) (v5:List Xg) (v4:Int) (v6:Int):Option (Int⊕((Int⊕Unit))):=
 cond (decide (v6<v4)) (cond (inB v6 v5.length) (cond ((v5.getD v6.toNat Xk).1 == v3) (some (.inr (.inl (v5.getD v6.toNat Xk).2.1))) (some (.inl (w64 (v6+1))))) none) (some (.inr (.inr ())))
def Xfp (v3:List UInt8) (v5:List Xg) (v4:Int):Int→Option ((Int⊕Unit)):=
 Yan fun s=>Xfp.B v3 v5 v4 s
def Xam (v:Fs_) (v2:Int) (v3:List UInt8):Option Int:=
 cond (inB v2 v.1.length) ((some ((v.1.getD v2.toNat Xa).2.2.2.2.1.length:Int)).bind fun v4=>(Xfp v3 (v.1.getD v2.toNat Xa).2.2.2.2.1 v4 0).bind fun v7=>sel v7 (fun v8=>some v8) (fun v9=>some (-1))) none
namespace Xfp
noncomputable def c:=Yar (Yag Proofs.Tryz.f122) [1,0,1,0,0]
def sp:SP:=⟨[(2,.cs .str),(16,.cs (.sl Xi)),(17,.cs I64),(18,.cs I64)],[]⟩
def fr:=Yja sp (fun x s=>Xfp.B x.1.1 x.1.2.1 x.1.2.2.1 s) (fun x=>x.1.2.2.2.1) fun x (oo0:(Int⊕Unit)) _ kk0=>sel oo0 (fun bb0=>kk0 (.rt) ⟨[(6,.cs I64 bb0)],[]⟩) (fun cc0=>kk0 (.ex 0) ⟨[],[]⟩)
theorem ok:Ya2 PR 29 3 (.loop c) fr:=
 Yth Xf Xe h0 .no (G:=(mkG [])) .nil (L:=mkL []) (l:=[]) hT [(0,([],[]))] ([6],[]) (fun x s=>((x.1.1,x.1.2.1,x.1.2.2.1,s,x.1.2.2.2.2),x.2))
  (fun x s=>by simp only[B,mC,mB,mS,mO,mN];kernel_rfl)
end Xfp
namespace Xam
def pts:List PT:=[.pt Xh,.cs I64,.cs .str]
def FS:FS:=Ycx [.sh,.sh,.sh] pts (fun x=>Xam x.1 x.2.1 x.2.2.1) fun t=>⟨[.cs I64 t],[]⟩
theorem ok:Ycm PR 122 FS:=
 Yw7 Xf Xe Proofs.Tryz.f122 h0 (.R (.L (.R (.one (.fr 0))))) (G:=(mkG [])) .nil (L:=mkL [(0,Xfp.fr)]) (l:=[(0,.loop Xfp.c)]) ⟨Lam.cons Xfp.ok,trivial⟩
  (fun x=>by simp only[Xam,mC,mB,mS,mO,mN];kernel_rfl)
end Xam
def Xd0.B (v:Fs_) (v2:List (List UInt8)) (v4:Int) (v3:Int) (v5:Int):Option ((Int×Int)⊕(((Int×Int)⊕Int))):=
 cond (decide (v5<v4)) (cond (inB v5 v2.length) (cond (inB v3 v.1.length) (cond ((v.1.getD v3.toNat Xa).1 != 2) (some (.inr (.inl (0,9)))) ((Xam v v3 (v2.getD v5.toNat [])).bind fun v6=>cond (decide (v6<0)) (some (.inr (.inl (0,4)))) (some (.inl (v6,w64 (v5+1)))))) none) none) (some (.inr (.inr v3)))
def Xd0 (v:Fs_) (v2:List (List UInt8)) (v4:Int):(Int×Int)→Option (((Int×Int)⊕Int)):=
 Yan fun s=>Xd0.B v v2 v4 s.1 s.2
def Xb0 (v:Fs_) (v2:List (List UInt8)):Option (Int×Int):=
 (Xd0 v v2 (v2.length:Int) (0,0)).bind fun v7=>sel v7 (fun v8=>some (v8.1,v8.2)) (fun v9=>some (v9,0))
namespace Xb0
def G:Gam:=mkG [(122,Xam.FS)]
theorem Gok:GOk PR G:=.cons Xam.ok .nil
end Xb0
namespace Xd0
noncomputable def c:=Yar (Yag Proofs.Tryz.f132) [1,1,0,1,0,0]
def sp:SP:=⟨[(0,.pt Xh),(6,.cs I64),(9,.cs (.sl .str)),(10,.cs I64),(11,.cs I64)],[]⟩
def fr:=Yja sp (fun x s=>Xd0.B x.1.1 x.1.2.2.1 x.1.2.2.2.1 s.1 s.2) (fun x=>(x.1.2.1,x.1.2.2.2.2.1)) fun x (oo0:((Int×Int)⊕Int)) _ kk0=>sel oo0 (fun bb0=>kk0 (.rt) ⟨[(4,.cs I64 bb0.1),(5,.cs I64 bb0.2)],[]⟩) (fun cc0=>kk0 (.ex 0) ⟨[(6,.cs I64 cc0)],[]⟩)
theorem ok:Ya2 PR 32 2 (.loop c) fr:=
 Yth Xf Xe h0 .no (G:=Xb0.G) Xb0.Gok (L:=mkL []) (l:=[]) hT [(0,([6],[]))] ([4,5],[]) (fun x s=>((x.1.1,s.1,x.1.2.2.1,x.1.2.2.2.1,s.2,x.1.2.2.2.2.2),x.2))
  (fun x s=>by simp only[B,mC,mB,mS,mO,mN];kernel_rfl)
end Xd0
namespace Xb0
def pts:List PT:=[.pt Xh,.cs (.sl .str)]
def FS:FS:=Ycx [.sh,.sh] pts (fun x=>Xb0 x.1 x.2.1) fun t=>⟨[.cs I64 t.1,.cs I64 t.2],[]⟩
theorem ok:Ycm PR 132 FS:=
 Yw7 Xf Xe Proofs.Tryz.f132 h0 (.R (.R (.L (.R (.one (.fr 0)))))) (G:=G) Gok (L:=mkL [(0,Xd0.fr)]) (l:=[(0,.loop Xd0.c)]) ⟨Lam.cons Xd0.ok,trivial⟩
  (fun x=>by simp only[Xb0,mC,mB,mS,mO,mN];kernel_rfl)
end Xb0
def Xax (v:Fs_) (v2:List UInt8):Option (Int×(List UInt8)×Int):=
 (Xbz v2).bind fun v3=>cond (v3.2 != 0) (some (0,([]:List UInt8),v3.2)) (cond ((v3.1.length:Int) == 0) (some (0,([]:List UInt8),4)) (cond (decide ((0:Int)≤(w64 ((v3.1.length:Int)-1)))&&decide ((w64 ((v3.1.length:Int)-1))≤(v3.1.length:Int))) ((Xb0 v ((v3.1.drop 0).take (((w64 ((v3.1.length:Int)-1)).toNat)-0))).bind fun v4=>cond (v4.2 != 0) (some (0,([]:List UInt8),v4.2)) (cond (inB v4.1 v.1.length) (cond ((v.1.getD v4.1.toNat Xa).1 != 2) (some (0,([]:List UInt8),9)) (cond (inB (w64 ((v3.1.length:Int)-1)) v3.1.length) ((some (v3.1.getD ((w64 ((v3.1.length:Int)-1)).toNat) [])).bind fun v5=>some (v4.1,v5,0)) none)) none)) none))
namespace Xax
def G:Gam:=mkG [(131,Xbz.FS),(132,Xb0.FS)]
def pts:List PT:=[.pt Xh,.cs .str]
def FS:FS:=Ycx [.sh,.sh] pts (fun x=>Xax x.1 x.2.1) fun t=>⟨[.cs I64 t.1,.cs .str t.2.1,.cs I64 t.2.2],[]⟩
theorem ok:Ycm PR 121 FS:=
 Yw7 Xf Xe Proofs.Tryz.f121 h0 .no (G:=G) (show GOk PR G from .cons Xbz.ok (.cons Xb0.ok .nil)) (L:=mkL []) (l:=[]) hT
  (fun x=>by simp only[Xax,mC,mB,mS,mO,mN];kernel_rfl)
end Xax
def Xj9 (v:Xb):Option Bool:=
 some (v.1 == 0)
namespace Xj9
def pts:List PT:=[.cs Xd]
def FS:FS:=Ycx [.sh] pts (fun x=>Xj9 x.1) fun t=>⟨[.cs .bool t],[]⟩
theorem ok:Ycm PR 159 FS:=
 Yw7 Xf Xe Proofs.Tryz.f159 ⟨[1],[],[],0⟩ .no (G:=(mkG [])) .nil (L:=mkL []) (l:=[]) hT
  (fun x=>by simp only[Xj9,mC,mB,mS,mO,mN];kernel_rfl)
end Xj9
def Xfq.B (v:List Xb) (v2:Unit) (v3:Int) (v4:Int):Option (Int⊕((Int⊕Unit))):=
 cond (decide (v4<v3)) (cond (inB v4 v.length) ((Xj9 (v.getD v4.toNat Xa)).bind fun v5=>cond v5 (some (.inr (.inl v4))) (some (.inl (w64 (v4+1))))) none) (some (.inr (.inr ())))
def Xfq (v:List Xb) (v2:Unit) (v3:Int):Int→Option ((Int⊕Unit)):=
 Yan fun s=>Xfq.B v v2 v3 s
def Xfr (v:List Xb) (v2:Unit):Option Int:=
 (Xfq v v2 (v.length:Int) 0).bind fun v6=>sel v6 (fun v7=>some v7) (fun v8=>some (-1))
namespace Xfr
def G:Gam:=mkG [(159,Xj9.FS)]
theorem Gok:GOk PR G:=.cons Xj9.ok .nil
end Xfr
namespace Xfq
noncomputable def c:=Yar (Yag Proofs.Tryz.f158) [1,0,1,0,0]
def sp:SP:=⟨[(0,.cs (.sl Xd)),(1,.clo 159 (.cs .unit)),(7,.cs I64),(8,.cs I64)],[]⟩
def fr:=Yja sp (fun x s=>Xfq.B x.1.1 x.1.2.1 x.1.2.2.1 s) (fun x=>x.1.2.2.2.1) fun x (oo0:(Int⊕Unit)) _ kk0=>sel oo0 (fun bb0=>kk0 (.rt) ⟨[(4,.cs I64 bb0)],[]⟩) (fun cc0=>kk0 (.ex 0) ⟨[],[]⟩)
theorem ok:Ya2 PR 19 2 (.loop c) fr:=
 Yth Xf Xe h0 .no (G:=Xfr.G) Xfr.Gok (L:=mkL []) (l:=[]) hT [(0,([],[]))] ([4],[]) (fun x s=>((x.1.1,x.1.2.1,x.1.2.2.1,s,x.1.2.2.2.2),x.2))
  (fun x s=>by simp only[B,mC,mB,mS,mO,mN];kernel_rfl)
end Xfq
namespace Xfr
def pts:List PT:=[.cs (.sl Xd),.clo 159 (.cs .unit)]
def FS:FS:=Ycx [.sh,.sh] pts (fun x=>Xfr x.1 x.2.1) fun t=>⟨[.cs I64 t],[]⟩
theorem ok:Ycm PR 158 FS:=
 Yw7 Xf Xe Proofs.Tryz.f158 h0 (.R (.L (.R (.one (.fr 0))))) (G:=G) Gok (L:=mkL [(0,Xfq.fr)]) (l:=[(0,.loop Xfq.c)]) ⟨Lam.cons Xfq.ok,trivial⟩
  (fun x=>by simp only[Xfr,mC,mB,mS,mO,mN];kernel_rfl)
end Xfr
def Xh5 (v:List Xb):Option (Int×Int):=
 (Xfr v ()).bind fun v2=>cond (decide (v2≥0)) (some (v2,0)) (cond ((v.length:Int) == 10) (some (0,8)) ((Xa1 v).bind fun v3=>some (v3,0)))
namespace Xh5
def G:Gam:=mkG [(158,Xfr.FS),(113,Xa1.FS)]
def pts:List PT:=[.cs (.sl Xd)]
def FS:FS:=Ycx [.sh] pts (fun x=>Xh5 x.1) fun t=>⟨[.cs I64 t.1,.cs I64 t.2],[]⟩
theorem ok:Ycm PR 123 FS:=
 Yw7 Xf Xe Proofs.Tryz.f123 h0 .no (G:=G) (show GOk PR G from .cons Xfr.ok (.cons Xa1.ok .nil)) (L:=mkL []) (l:=[]) hT
  (fun x=>by simp only[Xh5,mC,mB,mS,mO,mN];kernel_rfl)
end Xh5
noncomputable def Xaq (f:Fs_) (dir:Int) (name:List UInt8) (at_:Int):Option Fs_:=cond (decide (List.length f.1≤1152921504606846976)) (Ye4 f dir name at_) none
noncomputable def Xaq.FS:FS:=Ycx [.mu,.sh,.sh,.sh] [.op (.cl .deep Yd7),.cl .sh (.int .i64),.cl .sh .str,.cl .sh (.int .i64)] (fun x=>cond (decide (List.length x.1.1≤1152921504606846976)) (Ye4 x.1 x.2.1 x.2.2.1 x.2.2.2.1) none) fun y=>⟨[],[.op (.cl .deep Yd7 y)]⟩
theorem Xaq.ok:Ycm Go.Proofs.Tryz.prog 124 Xaq.FS:=
 Yud ⟨Go.Proofs.Tryz.f124,by kernel_rfl,by kernel_rfl,by kernel_rfl⟩ Go.Proofs.Pe.put
def Xg6 (v:Fs_) (v2:List UInt8) (v3:Bool):Option (Int×Int×Fs_):=
 (Xax v v2).bind fun v4=>cond (v4.2.2 != 0) (some (0,v4.2.2,v)) ((Xam v v4.1 v4.2.1).bind fun v5=>cond (decide (v5≥0)) (some (0,7,v)) (cond (inB v4.1 v.1.length) ((some ((v.1.getD v4.1.toNat Xa).2.2.2.2.1.length:Int)).bind fun v6=>cond (v6 == 6) (some (0,2,v)) ((Xh5 v.1).bind fun v7=>cond (v7.2 != 0) (some (0,v7.2,v)) (cond v3 ((Xa1 v.1).bind fun v8=>cond (v7.1 == v8) (cond (decide ((v.1++([(2,0,0,[],[],())])).length≤2147483648)) ((Xaq (v.1++([(2,0,0,[],[],())]),v.2) v4.1 v4.2.1 v7.1).bind fun v9=>some (v7.1,0,v9)) none) (cond (inB v7.1 v.1.length) ((Xaq (v.1.set v7.1.toNat (2,0,0,[],[],()),v.2) v4.1 v4.2.1 v7.1).bind fun v10=>some (v7.1,0,v10)) none)) ((Xa1 v.1).bind fun v11=>cond (v7.1 == v11) (cond (decide ((v.1++([(1,1,0,[],[],())])).length≤2147483648)) ((Xaq (v.1++([(1,1,0,[],[],())]),v.2) v4.1 v4.2.1 v7.1).bind fun v12=>some (v7.1,0,v12)) none) (cond (inB v7.1 v.1.length) ((Xaq (v.1.set v7.1.toNat (1,1,0,[],[],()),v.2) v4.1 v4.2.1 v7.1).bind fun v13=>some (v7.1,0,v13)) none))))) none))
namespace Xg6
def G:Gam:=mkG [(121,Xax.FS),(122,Xam.FS),(123,Xh5.FS),(113,Xa1.FS),(124,Xaq.FS)]
def pts:List PT:=[.op (.cd Xh),.cs .str,.cs .bool]
def FS:FS:=Ycx [.mu,.sh,.sh] pts (fun x=>Xg6 x.1 x.2.1 x.2.2.1) fun t=>⟨[.cs I64 t.1,.cs I64 t.2.1],[.op (.cd Xh t.2.2)]⟩
theorem ok:Ycm PR 68 FS:=
 Yw7 Xf Xe Proofs.Tryz.f68 h0 .no (G:=G) (show GOk PR G from .cons Xax.ok (.cons Xam.ok (.cons Xh5.ok (.cons Xa1.ok (.cons Xaq.ok .nil))))) (L:=mkL []) (l:=[]) hT
  (fun x=>by simp only[Xg6,mC,mB,mS,mO,mN];kernel_rfl)
end Xg6
abbrev Zq216.N:Nat:=69
theorem Zq216.ok:Yui Go.Proofs.Tryz.prog 69:=
 ⟨⟨Go.Proofs.Tryz.f69,by kernel_rfl,by kernel_rfl,by kernel_rfl⟩,Go.Proofs.Dn.done⟩
def Xb7 (v:Fs_) (v2:List UInt8):Option (Int×Int):=
 (Xbz v2).bind fun v3=>cond (v3.2 != 0) (some (0,v3.2)) ((Xb0 v v3.1).bind fun v4=>some (v4.1,v4.2))
namespace Xb7
def G:Gam:=mkG [(131,Xbz.FS),(132,Xb0.FS)]
def pts:List PT:=[.pt Xh,.cs .str]
def FS:FS:=Ycx [.sh,.sh] pts (fun x=>Xb7 x.1 x.2.1) fun t=>⟨[.cs I64 t.1,.cs I64 t.2],[]⟩
theorem ok:Ycm PR 75 FS:=
 Yw7 Xf Xe Proofs.Tryz.f75 h0 .no (G:=G) (show GOk PR G from .cons Xbz.ok (.cons Xb0.ok .nil)) (L:=mkL []) (l:=[]) hT
  (fun x=>by simp only[Xb7,mC,mB,mS,mO,mN];kernel_rfl)
end Xb7
def Xd1.B (v:Fs_) (v4:List Int) (v3:Int) (v5:Int) (v6:List Int):Option ((Int×List Int)⊕(List Int)):=
 cond (decide (v5<v3)) (cond (inB v5 v4.length) (cond (inB (v4.getD v5.toNat 0) v.2.1.length) (cond (decide ((v6++(v.2.1.getD (v4.getD v5.toNat 0).toNat [])).length≤2147483648)) (some (.inl (w64 (v5+1),v6++(v.2.1.getD (v4.getD v5.toNat 0).toNat [])))) none) none) none) (some (.inr v6))
def Xd1 (v:Fs_) (v4:List Int) (v3:Int):(Int×List Int)→Option (List Int):=
 Yan fun s=>Xd1.B v v4 v3 s.1 s.2
def Xb8 (v:Fs_) (v2:Int):Option (List Int):=
 cond (inB v2 v.1.length) ((some ((v.1.getD v2.toNat Xa).2.2.2.1.length:Int)).bind fun v3=>(Xd1 v (v.1.getD v2.toNat Xa).2.2.2.1 v3 (0,[])).bind fun v7=>some v7) none
namespace Xd1
noncomputable def c:=Yar (Yag Proofs.Tryz.f161) [1,1,0,1,0,0]
def sp:SP:=⟨[(0,.pt Xh),(5,.seg 5 []),(15,.cs SI),(16,.cs I64),(17,.cs I64)],[(5,.reg,.cd SB)]⟩
def fr:=Yja sp (fun x s=>Xd1.B x.1.1 x.1.2.2.1 x.1.2.2.2.1 s.1 s.2) (fun x=>(x.1.2.2.2.2.1,x.2.1)) fun x (bb0:List Int) _ kk0=>kk0 (.ex 0) ⟨[(5,.seg 5 [])],[sr 5 (.cd SB bb0)]⟩
theorem ok:Ya2 PR 32 2 (.loop c) fr:=
 Yw0 Xf Xe h0 [(0,([5],[5]))] (fun x s=>((x.1.1,x.1.2.1,x.1.2.2.1,x.1.2.2.2.1,s.1,x.1.2.2.2.2.2),(s.2,x.2.2)))
  (fun x s=>by simp only[B,mC,mB,mS,mO,mN];kernel_rfl)
end Xd1
namespace Xb8
def pts:List PT:=[.pt Xh,.cs I64]
def FS:FS:=Ycx [.sh,.sh] pts (fun x=>Xb8 x.1 x.2.1) fun t=>⟨[.cd SB t],[]⟩
theorem ok:Ycm PR 161 FS:=
 Yw7 Xf Xe Proofs.Tryz.f161 h0 (.R (.R (.L (.R (.one (.fr 0)))))) (G:=(mkG [])) .nil (L:=mkL [(0,Xd1.fr)]) (l:=[(0,.loop Xd1.c)]) ⟨Lam.cons Xd1.ok,trivial⟩
  (fun x=>by simp only[Xb8,mC,mB,mS,mO,mN];kernel_rfl)
end Xb8
def Xh6 (v:Fs_) (v2:Int) (v3:Int) (v4:Int):Option ((List Int)×Int):=
 (X0 v3 0 1000).bind fun v5=>cond (!v5) (some ([],3)) ((X0 v4 0 100).bind fun v6=>cond (!v6) (some ([],3)) ((Xb8 v v2).bind fun v7=>(Xaa v7).bind fun v8=>(Xaa v7).bind fun v9=>(some (cond (decide (v9<(w64 ((cond (decide (v8<v3)) v8 v3)+v4)))) v9 (w64 ((cond (decide (v8<v3)) v8 v3)+v4)))).bind fun v10=>cond (decide ((0:Int)≤v10)&&decide (v10≤(v7.length:Int))&&(decide ((0:Int)≤(cond (decide (v8<v3)) v8 v3))&&decide ((cond (decide (v8<v3)) v8 v3)≤v10))) ((Xby ((v7.drop ((cond (decide (v8<v3)) v8 v3).toNat)).take (v10.toNat-((cond (decide (v8<v3)) v8 v3).toNat)))).bind fun v11=>some (v11,0)) none))
namespace Xh6
def G:Gam:=mkG [(62,X0.FS),(161,Xb8.FS),(118,Xaa.FS),(120,Xby.FS)]
def pts:List PT:=[.pt Xh,.cs I64,.cs I64,.cs I64]
def FS:FS:=Ycx [.sh,.sh,.sh,.sh] pts (fun x=>Xh6 x.1 x.2.1 x.2.2.1 x.2.2.2.1) fun t=>⟨[.cd SB t.1,.cs I64 t.2],[]⟩
theorem ok:Ycm PR 125 FS:=
 Yw7 Xf Xe Proofs.Tryz.f125 h0 .no (G:=G) (show GOk PR G from .cons X0.ok (.cons Xb8.ok (.cons Xaa.ok (.cons Xby.ok .nil)))) (L:=mkL []) (l:=[]) hT
  (fun x=>by simp only[Xh6,mC,mB,mS,mO,mN];kernel_rfl)
end Xh6
def Xd2.B (v2:Int) (v3:List Int):Option ((List Int)⊕(List Int)):=
 (Xaa v3).bind fun v4=>cond (decide (v4<v2)) (cond (decide ((v3++([0])).length≤2147483648)) (some (.inl (v3++([0])))) none) (some (.inr v3))
def Xd2 (v2:Int):(List Int)→Option (List Int):=
 Yan fun s=>Xd2.B v2 s
def Xb1 (v:List Int) (v2:Int):Option (List Int):=
 (Xd2 v2 v).bind fun v5=>some v5
namespace Xb1
def G:Gam:=mkG [(118,Xaa.FS)]
theorem Gok:GOk PR G:=.cons Xaa.ok .nil
end Xb1
namespace Xd2
noncomputable def c:=Yar (Yag Proofs.Tryz.f162) [1,0,0,0]
def sp:SP:=⟨[(0,.seg 0 []),(1,.cs I64)],[(0,.reg,.cd SB)]⟩
def fr:=Yja sp (fun x s=>Xd2.B x.1.2.1 s) (fun x=>x.2.1) fun x (bb0:List Int) _ kk0=>kk0 (.ex 0) ⟨[(0,.seg 0 [])],[sr 0 (.cd SB bb0)]⟩
theorem ok:Ya2 PR 13 0 (.loop c) fr:=
 Yw9 Xf Xe h0 (G:=Xb1.G) Xb1.Gok [(0,([0],[0]))] (fun x s=>(x.1,(s,x.2.2)))
  (fun x s=>by simp only[B,mC,mB,mS,mO,mN];kernel_rfl)
end Xd2
namespace Xb1
def pts:List PT:=[.cd SB,.cs I64]
def FS:FS:=Ycx [.mu,.sh] pts (fun x=>Xb1 x.1 x.2.1) fun t=>⟨[.cd SB t],[.dead 1]⟩
theorem ok:Ycm PR 162 FS:=
 Ywt Xf Xe Proofs.Tryz.f162 h0 (.R (.L (.one (.fr 0)))) (G:=G) Gok (L:=mkL [(0,Xd2.fr)]) (l:=[(0,.loop Xd2.c)]) ⟨Lam.cons Xd2.ok,trivial⟩
  (fun x=>by simp only[Xb1,mC,mB,mS,mO,mN];kernel_rfl)
end Xb1
def Xfs.B (v2:List Int) (v6:List Int) (v7:Bool) (v8:Unit) (v4:Int) (v5:List Int):Option ((Int×List Int)⊕(List Int)):=
 cond (decide (v4<20)) ((Xa4 v6 v4).bind fun v9=>cond (!v9) ((Xa4 v2 v4).bind fun v10=>cond (!v10) (cond (decide ((v5++([v4])).length≤2147483648)) (some (.inl (w64 (v4+1),v5++([v4])))) none) (some (.inl (w64 (v4+1),v5)))) (some (.inl (w64 (v4+1),v5)))) (some (.inr v5))
def Xfs (v2:List Int) (v6:List Int) (v7:Bool) (v8:Unit):(Int×List Int)→Option (List Int):=
 Yan fun s=>Xfs.B v2 v6 v7 v8 s.1 s.2
def Xd3 (v:List Xb) (v2:List Int):Option (List Int):=
 (Xbx v).bind fun v3=>(Xfs v2 v3.1 v3.2 () (0,[])).bind fun v11=>some v11
namespace Xd3
def G:Gam:=mkG [(112,Xbx.FS),(116,Xa4.FS)]
theorem Gok:GOk PR G:=.cons Xbx.ok (.cons Xa4.ok .nil)
end Xd3
namespace Xfs
noncomputable def c:=Yar (Yag Proofs.Tryz.f210) [1,1,1,0,1,0,0]
def sp:SP:=⟨[(1,.cs SI),(5,.seg 11 [.f1]),(7,.seg 7 []),(14,.cs I64)],[(7,.reg,.cd SI),(11,.reg,.pr (.cd SI) (.pr (.cs .bool) (.cs .unit)))]⟩
def fr:=Yja sp (fun x s=>Xfs.B x.1.1 x.2.2.1.1 x.2.2.1.2.1 x.2.2.1.2.2 s.1 s.2) (fun x=>(x.1.2.2.2.1,x.2.1)) fun x (bb0:List Int) _ kk0=>kk0 (.ex 0) ⟨[(7,.seg 7 [])],[sr 7 (.cd SI bb0)]⟩
theorem ok:Ya2 PR 33 2 (.loop c) fr:=
 Yw9 Xf Xe h0 (G:=Xd3.G) Xd3.Gok [(0,([7],[7]))] (fun x s=>((x.1.1,x.1.2.1,x.1.2.2.1,s.1,x.1.2.2.2.2),(s.2,x.2.2)))
  (fun x s=>by simp only[B,mC,mB,mS,mO,mN];kernel_rfl)
end Xfs
namespace Xd3
def pts:List PT:=[.cs (.sl Xd),.cs SI]
def FS:FS:=Ycx [.sh,.sh] pts (fun x=>Xd3 x.1 x.2.1) fun t=>⟨[.cd SI t],[]⟩
theorem ok:Ycm PR 210 FS:=
 Yw7 Xf Xe Proofs.Tryz.f210 h0 (.R (.R (.R (.L (.R (.one (.fr 0))))))) (G:=G) Gok (L:=mkL [(0,Xfs.fr)]) (l:=[(0,.loop Xfs.c)]) ⟨Lam.cons Xfs.ok,trivial⟩
  (fun x=>by simp only[Xd3,mC,mB,mS,mO,mN];kernel_rfl)
end Xd3
def Xka (v:List Xb) (v2:List Int) (v3:Int):Option ((List Int)×Int):=
 (X0 v3 0 4).bind fun v4=>cond (!v4) (some ([],3)) ((Xd3 v v2).bind fun v5=>(Xe9 v5).bind fun v6=>cond (decide (v6<v3)) (some ([],8)) (cond (decide ((0:Int)≤v3)&&decide (v3≤(v5.length:Int))) (some ((v5.drop 0).take (v3.toNat-0),0)) none))
namespace Xka
def G:Gam:=mkG [(62,X0.FS),(210,Xd3.FS),(211,Xe9.FS)]
def pts:List PT:=[.cs (.sl Xd),.cs SI,.cs I64]
def FS:FS:=Ycx [.sh,.sh,.sh] pts (fun x=>Xka x.1 x.2.1 x.2.2.1) fun t=>⟨[.cd SI t.1,.cs I64 t.2],[]⟩
theorem ok:Ycm PR 186 FS:=
 Yw7 Xf Xe Proofs.Tryz.f186 h0 .no (G:=G) (show GOk PR G from .cons X0.ok (.cons Xd3.ok (.cons Xe9.ok .nil))) (L:=mkL []) (l:=[]) hT
  (fun x=>by simp only[Xka,mC,mB,mS,mO,mN];kernel_rfl)
end Xka
def Xbn.B (v4:Nat) (v3:Int) (v5:Int) (v6:Fs_):Option ((Int×Fs_)⊕Fs_):=
 cond (decide (v5<v3)) (cond (inB v5 ((v6.1.getD v4 Xa).2.2.2.1.length)) ((some ((v6.1.getD v4 Xa).2.2.2.1.getD v5.toNat 0)).bind fun v7=>cond (inB v7 v6.2.1.length) (some (.inl (w64 (v5+1),(v6.1,v6.2.1.set v7.toNat [],v6.2.2)))) none) none) (some (.inr v6))
def Xbn (v4:Nat) (v3:Int):(Int×Fs_)→Option Fs_:=
 Yan fun s=>Xbn.B v4 v3 s.1 s.2
def Xd4 (v:Fs_) (v2:Int):Option Fs_:=
 cond (inB v2 v.1.length) ((some ((v.1.getD v2.toNat Xa).2.2.2.1.length:Int)).bind fun v3=>(Xbn v2.toNat v3 (0,v)).bind fun v8=>some v8) none
namespace Xbn
noncomputable def c:=Yar (Yag Proofs.Tryz.f188) [1,0,0]
def sp:SP:=⟨[(0,.loc 0 []),(13,.seg 0 [.f1,.el,.f2,.f2,.f2,.f1]),(14,.cs I64),(15,.cs I64)],[(0,.mem,.cd Xh)]⟩
def fr:=Yja sp (fun x s=>Xbn.B x.1.2.1.1 x.1.2.2.1 s.1 s.2) (fun x=>(x.1.2.2.2.1,x.2.1)) fun x (bb0:Fs_) _ kk0=>kk0 (.ex 0) ⟨[],[(0,some ⟨.mem,.cd Xh bb0⟩)]⟩
theorem ok:Ya2 PR 26 2 (.loop c) fr:=
 Yw0 Xf Xe h0 [(0,([],[0]))] (fun x s=>((x.1.1,x.1.2.1,x.1.2.2.1,s.1,x.1.2.2.2.2),(s.2,x.2.2)))
  (fun x s=>by simp only[B,mC,mB,mS,mO,mN];kernel_rfl)
end Xbn
namespace Xd4
def pts:List PT:=[.op (.cd Xh),.cs I64]
def FS:FS:=Ycx [.mu,.sh] pts (fun x=>Xd4 x.1 x.2.1) fun t=>⟨[],[.op (.cd Xh t)]⟩
theorem ok:Ycm PR 188 FS:=
 Yw7 Xf Xe Proofs.Tryz.f188 h0 (.R (.one (.fr 0))) (G:=(mkG [])) .nil (L:=mkL [(0,Xbn.fr)]) (l:=[(0,.loop Xbn.c)]) ⟨Lam.cons Xbn.ok,trivial⟩
  (fun x=>by simp only[Xd4,mC,mB,mS,mO,mN];kernel_rfl)
end Xd4
def Xd5.B (v2:Int) (v3:List Int) (v9:Int) (v12:List Int) (v13:Int) (v14:Unit) (v10:Int) (v11:Fs_):Option ((Int×Fs_)⊕Fs_):=
 cond (decide (v10<v9)) (cond (inB v10 v12.length) ((some (cond (decide ((v3.length:Int)<(w64 ((w64 (v10+1))*8)))) (v3.length:Int) (w64 ((w64 (v10+1))*8)))).bind fun v15=>cond (decide ((0:Int)≤v15)&&decide (v15≤(v3.length:Int))&&(decide ((0:Int)≤(w64 (v10*8)))&&decide ((w64 (v10*8))≤v15))) ((Xby ((v3.take v15.toNat).drop ((w64 (v10*8)).toNat))).bind fun v16=>cond (inB (v12.getD v10.toNat 0) v11.2.1.length) (some (.inl (w64 (v10+1),(v11.1,v11.2.1.set ((v12.getD v10.toNat 0).toNat) v16,v11.2.2)))) none) none) none) (some (.inr v11))
def Xd5 (v2:Int) (v3:List Int) (v9:Int) (v12:List Int) (v13:Int) (v14:Unit):(Int×Fs_)→Option Fs_:=
 Yan fun s=>Xd5.B v2 v3 v9 v12 v13 v14 s.1 s.2
def Xb2 (v:Fs_) (v2:Int) (v3:List Int) (v4:List Int):Option (Int×Fs_):=
 (Xaa v3).bind fun v5=>(Xfa v5).bind fun v6=>(Xka v.1 v4 v6).bind fun v7=>cond (v7.2 != 0) (some (v7.2,v)) ((Xd4 v v2).bind fun v8=>(Xd5 v2 v3 (v7.1.length:Int) v7.1 v7.2 () (0,v8)).bind fun v17=>cond (inB v2 v17.1.length) ((Xaa v3).bind fun v18=>(some (v17.1.set v2.toNat ((v17.1.getD v2.toNat Xa).1,(v17.1.getD v2.toNat Xa).2.1,(v17.1.getD v2.toNat Xa).2.2.1,v7.1,(v17.1.getD v2.toNat Xa).2.2.2.2))).bind fun v19=>(some (v19.set v2.toNat ((v19.getD v2.toNat Xa).1,(v19.getD v2.toNat Xa).2.1,v18,(v19.getD v2.toNat Xa).2.2.2))).bind fun v20=>some (0,(v20,v17.2))) none)
namespace Xb2
def G:Gam:=mkG [(118,Xaa.FS),(187,Xfa.FS),(186,Xka.FS),(188,Xd4.FS),(120,Xby.FS)]
theorem Gok:GOk PR G:=.cons Xaa.ok (.cons Xfa.ok (.cons Xka.ok (.cons Xd4.ok (.cons Xby.ok .nil))))
end Xb2
namespace Xd5
noncomputable def c:=Yar (Yag Proofs.Tryz.f163) [1,1,1,1,0,1,0,0]
def sp:SP:=⟨[(0,.loc 0 []),(1,.cs I64),(2,.cs SB),(9,.seg 24 [.f1]),(33,.seg 24 [.f1]),(34,.cs I64),(35,.cs I64)],[(0,.mem,.cd Xh),(24,.reg,.pr (.cd SI) (.pr (.cs I64) (.cs .unit)))]⟩
def fr:=Yja sp (fun x s=>Xd5.B x.1.2.1 x.1.2.2.1 x.1.2.2.2.2.2.1 x.2.2.1.1 x.2.2.1.2.1 x.2.2.1.2.2 s.1 s.2) (fun x=>(x.1.2.2.2.2.2.2.1,x.2.1)) fun x (bb0:Fs_) _ kk0=>kk0 (.ex 0) ⟨[(0,.loc 0 []),(1,.cs I64 x.1.2.1),(2,.cs SB x.1.2.2.1),(9,.seg 24 [.f1])],[(0,some ⟨.mem,.cd Xh bb0⟩),(24,some ⟨.reg,.pr (.cd SI x.2.2.1.1) (.pr (.cs I64 x.2.2.1.2.1) (.cs .unit x.2.2.1.2.2))⟩)]⟩
theorem ok:Ya2 PR 74 4 (.loop c) fr:=
 Yw9 Xf Xe h0 (G:=Xb2.G) Xb2.Gok [(0,([0,1,2,9],[0,24]))] (fun x s=>((x.1.1,x.1.2.1,x.1.2.2.1,x.1.2.2.2.1,x.1.2.2.2.2.1,x.1.2.2.2.2.2.1,s.1,x.1.2.2.2.2.2.2.2),(s.2,x.2.2)))
  (fun x s=>by simp only[B,mC,mB,mS,mO,mN];kernel_rfl)
end Xd5
namespace Xb2
def pts:List PT:=[.op (.cd Xh),.cs I64,.cs SB,.cs SI]
def FS:FS:=Ycx [.mu,.sh,.sh,.sh] pts (fun x=>Xb2 x.1 x.2.1 x.2.2.1 x.2.2.2.1) fun t=>⟨[.cs I64 t.1],[.op (.cd Xh t.2)]⟩
theorem ok:Ycm PR 163 FS:=
 Yw7 Xf Xe Proofs.Tryz.f163 h0 (.R (.R (.R (.R (.L (.R (.one (.fr 0)))))))) (G:=G) Gok (L:=mkL [(0,Xd5.fr)]) (l:=[(0,.loop Xd5.c)]) ⟨Lam.cons Xd5.ok,trivial⟩
  (fun x=>by simp only[Xb2,mC,mB,mS,mO,mN];kernel_rfl)
end Xb2
def Xh7 (v:Fs_) (v2:Int) (v3:Int) (v4:List Int) (v5:List Int):Option (Int×Fs_):=
 (X0 v3 0 1000).bind fun v6=>cond (!v6) (some (3,v)) ((Xaa v4).bind fun v7=>cond (decide ((w64 (v3+v7))>32)) (some (2,v)) (cond ((v4.length:Int) == 0) (some (0,v)) ((Xb8 v v2).bind fun v8=>(Xaa v4).bind fun v9=>(Xb1 v8 (w64 (v3+v9))).bind fun v10=>cond (decide ((0:Int)≤v3)&&decide (v3≤(v10.length:Int))) ((some (splice v10 v3.toNat (v4.take (v10.length-v3.toNat)))).bind fun v11=>(Xb2 v v2 v11 v5).bind fun v12=>some (v12.1,v12.2)) none)))
namespace Xh7
def G:Gam:=mkG [(62,X0.FS),(118,Xaa.FS),(161,Xb8.FS),(162,Xb1.FS),(163,Xb2.FS)]
def pts:List PT:=[.op (.cd Xh),.cs I64,.cs I64,.cs SB,.cs SI]
def FS:FS:=Ycx [.mu,.sh,.sh,.sh,.sh] pts (fun x=>Xh7 x.1 x.2.1 x.2.2.1 x.2.2.2.1 x.2.2.2.2.1) fun t=>⟨[.cs I64 t.1],[.op (.cd Xh t.2)]⟩
theorem ok:Ycm PR 126 FS:=
 Yw7 Xf Xe Proofs.Tryz.f126 h0 .no (G:=G) (show GOk PR G from .cons X0.ok (.cons Xaa.ok (.cons Xb8.ok (.cons Xb1.ok (.cons Xb2.ok .nil))))) (L:=mkL []) (l:=[]) hT
  (fun x=>by simp only[Xh7,mC,mB,mS,mO,mN];kernel_rfl)
end Xh7
def Xh8 (v:Fs_) (v2:Int) (v3:Int) (v4:List Int):Option (Int×Fs_):=
 (X0 v3 0 32).bind fun v5=>cond (!v5) (some (3,v)) ((Xb8 v v2).bind fun v6=>(Xb1 v6 v3).bind fun v7=>cond (decide ((0:Int)≤v3)&&decide (v3≤(v7.length:Int))) ((Xb2 v v2 ((v7.drop 0).take (v3.toNat-0)) v4).bind fun v8=>some (v8.1,v8.2)) none)
namespace Xh8
def G:Gam:=mkG [(62,X0.FS),(161,Xb8.FS),(162,Xb1.FS),(163,Xb2.FS)]
def pts:List PT:=[.op (.cd Xh),.cs I64,.cs I64,.cs SI]
def FS:FS:=Ycx [.mu,.sh,.sh,.sh] pts (fun x=>Xh8 x.1 x.2.1 x.2.2.1 x.2.2.2.1) fun t=>⟨[.cs I64 t.1],[.op (.cd Xh t.2)]⟩
theorem ok:Ycm PR 127 FS:=
 Yw7 Xf Xe Proofs.Tryz.f127 h0 .no (G:=G) (show GOk PR G from .cons X0.ok (.cons Xb8.ok (.cons Xb1.ok (.cons Xb2.ok .nil)))) (L:=mkL []) (l:=[]) hT
  (fun x=>by simp only[Xh8,mC,mB,mS,mO,mN];kernel_rfl)
end Xh8
def Xf7 (v:Fs_) (v2:Xap) (v3:List Int):Option (Xo×Fs_):=
 (Xb7 v v2.2.1).bind fun v4=>cond (v4.2 != 0) (some ((0,v4.2,0,[],[],([],[],()),()),v)) (cond (inB v4.1 v.1.length) (cond ((v.1.getD v4.1.toNat Xa).1 == 2) (some ((0,9,0,[],[],([],[],()),()),v)) (cond (v2.1 == 4) ((Xh6 v v4.1 v2.2.2.2.1 v2.2.2.2.2.1).bind fun v5=>(Xaa v5.1).bind fun v6=>some ((0,v5.2,v6,v5.1,[],([],[],()),()),v)) (cond (v2.1 == 3) ((Xh7 v v4.1 v2.2.2.2.1 v2.2.2.2.2.2.1 v3).bind fun v7=>cond (v7.1 != 0) (some ((0,v7.1,0,[],[],([],[],()),()),v7.2)) (cond (inB v4.1 v7.2.1.length) (some ((0,0,(v7.2.1.getD v4.1.toNat Xa).2.2.1,[],[],([],[],()),()),v7.2)) none)) ((Xh8 v v4.1 v2.2.2.2.2.1 v3).bind fun v8=>cond (v8.1 != 0) (some ((0,v8.1,0,[],[],([],[],()),()),v8.2)) (cond (inB v4.1 v8.2.1.length) (some ((0,0,(v8.2.1.getD v4.1.toNat Xa).2.2.1,[],[],([],[],()),()),v8.2)) none))))) none)
namespace Xf7
def G:Gam:=mkG [(75,Xb7.FS),(125,Xh6.FS),(118,Xaa.FS),(126,Xh7.FS),(127,Xh8.FS)]
def pts:List PT:=[.op (.cd Xh),.cs Xv,.cs SI]
def FS:FS:=Ycx [.mu,.sh,.sh] pts (fun x=>Xf7 x.1 x.2.1 x.2.2.1) fun t=>⟨[.cd Xj t.1],[.op (.cd Xh t.2)]⟩
theorem ok:Ycm PR 70 FS:=
 Yw7 Xf Xe Proofs.Tryz.f70 ⟨[4],[],[],0⟩ .no (G:=G) (show GOk PR G from .cons Xb7.ok (.cons Xh6.ok (.cons Xaa.ok (.cons Xh7.ok (.cons Xh8.ok .nil))))) (L:=mkL []) (l:=[]) hT
  (fun x=>by simp only[Xf7,mC,mB,mS,mO,mN];kernel_rfl)
end Xf7
noncomputable def Xau (f:Fs_) (dir:Int) (name:List UInt8):Option Fs_:=cond (decide (List.length f.1≤1152921504606846976)) (Yd9 f dir name) none
noncomputable def Xau.FS:FS:=Ycx [.mu,.sh,.sh] [.op (.cl .deep Yd7),.cl .sh (.int .i64),.cl .sh .str] (fun x=>cond (decide (List.length x.1.1≤1152921504606846976)) (Yd9 x.1 x.2.1 x.2.2.1) none) fun y=>⟨[],[.op (.cl .deep Yd7 y)]⟩
theorem Xau.ok:Ycm Go.Proofs.Tryz.prog 129 Xau.FS:=
 Yt3 ⟨Go.Proofs.Tryz.f129,by kernel_rfl,by kernel_rfl,by kernel_rfl⟩ Go.Proofs.Te.take
def Xg7 (v:Fs_) (v2:Int):Option Fs_:=
 (Xd4 v v2).bind fun v3=>cond (inB v2 v3.1.length) (some (v3.1.set v2.toNat (0,0,0,[],[],()),v3.2)) none
namespace Xg7
def G:Gam:=mkG [(188,Xd4.FS)]
def pts:List PT:=[.op (.cd Xh),.cs I64]
def FS:FS:=Ycx [.mu,.sh] pts (fun x=>Xg7 x.1 x.2.1) fun t=>⟨[],[.op (.cd Xh t)]⟩
theorem ok:Ycm PR 164 FS:=
 Yw7 Xf Xe Proofs.Tryz.f164 h0 .no (G:=G) (show GOk PR G from .cons Xd4.ok .nil) (L:=mkL []) (l:=[]) hT
  (fun x=>by simp only[Xg7,mC,mB,mS,mO,mN];kernel_rfl)
end Xg7
def Xcu (v:Fs_) (v2:Int) (v3:List UInt8):Option Fs_:=
 (Xam v v2 v3).bind fun v4=>(Xau v v2 v3).bind fun v5=>cond (inB v4 v5.1.length) (cond ((v5.1.getD v4.toNat Xa).1 != 1) (some v5) ((some (decide ((v5.1.getD v4.toNat Xa).2.1>1))).bind fun v6=>cond v6 ((some (v5.1.set v4.toNat ((v5.1.getD v4.toNat Xa).1,w64 ((v5.1.getD v4.toNat Xa).2.1-1),(v5.1.getD v4.toNat Xa).2.2))).bind fun v7=>some (v7,v5.2)) ((Xdr v5.1 v4).bind fun v8=>cond (v8 == 0) ((Xg7 v5 v4).bind fun v9=>some v9) (some v5)))) none
namespace Xcu
def G:Gam:=mkG [(122,Xam.FS),(129,Xau.FS),(115,Xdr.FS),(164,Xg7.FS)]
def pts:List PT:=[.op (.cd Xh),.cs I64,.cs .str]
def FS:FS:=Ycx [.mu,.sh,.sh] pts (fun x=>Xcu x.1 x.2.1 x.2.2.1) fun t=>⟨[],[.op (.cd Xh t)]⟩
theorem ok:Ycm PR 128 FS:=
 Yw7 Xf Xe Proofs.Tryz.f128 h0 .no (G:=G) (show GOk PR G from .cons Xam.ok (.cons Xau.ok (.cons Xdr.ok (.cons Xg7.ok .nil)))) (L:=mkL []) (l:=[]) hT
  (fun x=>by simp only[Xcu,mC,mB,mS,mO,mN];kernel_rfl)
end Xcu
def Xh9 (v:Fs_) (v2:List UInt8):Option (Int×Fs_):=
 (Xax v v2).bind fun v3=>cond (v3.2.2 != 0) (some (v3.2.2,v)) ((Xam v v3.1 v3.2.1).bind fun v4=>cond (decide (v4<0)) (some (4,v)) (cond (inB v4 v.1.length) (cond ((v.1.getD v4.toNat Xa).1 == 2) (some (9,v)) ((Xcu v v3.1 v3.2.1).bind fun v5=>some (0,v5))) none))
namespace Xh9
def G:Gam:=mkG [(121,Xax.FS),(122,Xam.FS),(128,Xcu.FS)]
def pts:List PT:=[.op (.cd Xh),.cs .str]
def FS:FS:=Ycx [.mu,.sh] pts (fun x=>Xh9 x.1 x.2.1) fun t=>⟨[.cs I64 t.1],[.op (.cd Xh t.2)]⟩
theorem ok:Ycm PR 71 FS:=
 Yw7 Xf Xe Proofs.Tryz.f71 h0 .no (G:=G) (show GOk PR G from .cons Xax.ok (.cons Xam.ok (.cons Xcu.ok .nil))) (L:=mkL []) (l:=[]) hT
  (fun x=>by simp only[Xh9,mC,mB,mS,mO,mN];kernel_rfl)
end Xh9
def Xia (v:Fs_) (v2:List UInt8):Option (Int×Fs_):=
 (Xax v v2).bind fun v3=>cond (v3.2.2 != 0) (some (v3.2.2,v)) ((Xam v v3.1 v3.2.1).bind fun v4=>cond (decide (v4<0)) (some (4,v)) (cond (inB v4 v.1.length) (cond ((v.1.getD v4.toNat Xa).1 != 2) (some (1,v)) (cond (inB v4 v.1.length) ((some ((v.1.getD v4.toNat Xa).2.2.2.2.1.length:Int)).bind fun v5=>cond (decide (v5>0)) (some (8,v)) ((Xau v v3.1 v3.2.1).bind fun v6=>cond (inB v4 v6.1.length) (some (0,(v6.1.set v4.toNat (0,0,0,[],[],()),v6.2))) none)) none)) none))
namespace Xia
def G:Gam:=mkG [(121,Xax.FS),(122,Xam.FS),(129,Xau.FS)]
def pts:List PT:=[.op (.cd Xh),.cs .str]
def FS:FS:=Ycx [.mu,.sh] pts (fun x=>Xia x.1 x.2.1) fun t=>⟨[.cs I64 t.1],[.op (.cd Xh t.2)]⟩
theorem ok:Ycm PR 72 FS:=
 Yw7 Xf Xe Proofs.Tryz.f72 h0 .no (G:=G) (show GOk PR G from .cons Xax.ok (.cons Xam.ok (.cons Xau.ok .nil))) (L:=mkL []) (l:=[]) hT
  (fun x=>by simp only[Xia,mC,mB,mS,mO,mN];kernel_rfl)
end Xia
def Xib (v:Fs_) (v2:Int) (v3:List UInt8) (v4:Int):Option (Int×Fs_):=
 (Xam v v2 v3).bind fun v5=>cond (decide (v5≥0)) (some (7,v)) ((Xa1 v.1).bind fun v6=>(X0 v4 0 (w64 (v6-1))).bind fun v7=>cond (cond (!(!v7)) (inB v4 v.1.length) true) ((some (cond (!v7) true ((v.1.getD v4.toNat Xa).1 == 0))).bind fun v8=>cond v8 (some (4,v)) (cond (inB v2 v.1.length) ((some ((v.1.getD v2.toNat Xa).2.2.2.2.1.length:Int)).bind fun v9=>cond (cond (!(v9 == 6)) (inB v4 v.1.length) true) ((some (cond (v9 == 6) true ((v.1.getD v4.toNat Xa).2.1 == 60))).bind fun v10=>cond v10 (some (2,v)) ((Xaq v v2 v3 v4).bind fun v11=>cond (inB v4 v11.1.length) (cond ((v11.1.getD v4.toNat Xa).1 == 1) (cond (inB v4 v11.1.length) (cond (inB v4 v11.1.length) ((some (v11.1.set v4.toNat ((v11.1.getD v4.toNat Xa).1,w64 ((v11.1.getD v4.toNat Xa).2.1+1),(v11.1.getD v4.toNat Xa).2.2))).bind fun v12=>some (0,(v12,v11.2))) none) none) (some (0,v11))) none)) none) none)) none)
namespace Xib
def G:Gam:=mkG [(122,Xam.FS),(113,Xa1.FS),(62,X0.FS),(124,Xaq.FS)]
def pts:List PT:=[.op (.cd Xh),.cs I64,.cs .str,.cs I64]
def FS:FS:=Ycx [.mu,.sh,.sh,.sh] pts (fun x=>Xib x.1 x.2.1 x.2.2.1 x.2.2.2.1) fun t=>⟨[.cs I64 t.1],[.op (.cd Xh t.2)]⟩
theorem ok:Ycm PR 130 FS:=
 Yw7 Xf Xe Proofs.Tryz.f130 h0 .no (G:=G) (show GOk PR G from .cons Xam.ok (.cons Xa1.ok (.cons X0.ok (.cons Xaq.ok .nil)))) (L:=mkL []) (l:=[]) hT
  (fun x=>by simp only[Xib,mC,mB,mS,mO,mN];kernel_rfl)
end Xib
def Xic (v:Fs_) (v2:List UInt8) (v3:List UInt8):Option (Int×Fs_):=
 (Xb7 v v2).bind fun v4=>cond (v4.2 != 0) (some (v4.2,v)) (cond (inB v4.1 v.1.length) (cond ((v.1.getD v4.1.toNat Xa).1 == 2) (some (9,v)) ((Xax v v3).bind fun v5=>cond (v5.2.2 != 0) (some (v5.2.2,v)) ((Xib v v5.1 v5.2.1 v4.1).bind fun v6=>some (v6.1,v6.2)))) none)
namespace Xic
def G:Gam:=mkG [(75,Xb7.FS),(121,Xax.FS),(130,Xib.FS)]
def pts:List PT:=[.op (.cd Xh),.cs .str,.cs .str]
def FS:FS:=Ycx [.mu,.sh,.sh] pts (fun x=>Xic x.1 x.2.1 x.2.2.1) fun t=>⟨[.cs I64 t.1],[.op (.cd Xh t.2)]⟩
theorem ok:Ycm PR 73 FS:=
 Yw7 Xf Xe Proofs.Tryz.f73 h0 .no (G:=G) (show GOk PR G from .cons Xb7.ok (.cons Xax.ok (.cons Xib.ok .nil))) (L:=mkL []) (l:=[]) hT
  (fun x=>by simp only[Xic,mC,mB,mS,mO,mN];kernel_rfl)
end Xic
def Xid (v:Fs_) (v2:List UInt8) (v3:List UInt8):Option (Int×Fs_):=
 (Xax v v2).bind fun v4=>cond (v4.2.2 != 0) (some (v4.2.2,v)) ((Xam v v4.1 v4.2.1).bind fun v5=>cond (decide (v5<0)) (some (4,v)) ((Xax v v3).bind fun v6=>cond (v6.2.2 != 0) (some (v6.2.2,v)) (cond (inB v5 v.1.length) ((Xam v v6.1 v6.2.1).bind fun v7=>cond ((v.1.getD v5.toNat Xa).1 == 2) ((Xcq v.1 v5).bind fun v8=>(Xa4 v8 v6.1).bind fun v9=>cond v9 (some (1,v)) (cond (v7 == v5) (some (0,v)) (cond (cond (decide (v7<0)) (inB v6.1 v.1.length) true) ((some (cond (decide (v7<0)) (((v.1.getD v6.1.toNat Xa).2.2.2.2.1.length:Int) == 6) false)).bind fun v10=>cond (cond v10 (v6.1 != v4.1) false) (some (2,v)) (cond (cond (decide (v7≥0)) (inB v7 v.1.length) true) ((some (cond (decide (v7≥0)) (!(((v.1.getD v5.toNat Xa).1 == 2) == ((v.1.getD v7.toNat Xa).1 == 2))) false)).bind fun v11=>cond v11 (some (9,v)) (cond (cond (decide (v7≥0)) (inB v7 v.1.length) true) ((some (cond (decide (v7≥0)) (decide (((v.1.getD v7.toNat Xa).2.2.2.2.1.length:Int)>0)) false)).bind fun v12=>cond v12 (some (8,v)) (cond (decide (v7≥0)) ((Xcu v v6.1 v6.2.1).bind fun v13=>cond ((v.1.getD v5.toNat Xa).1 == 2) (cond (inB v7 v13.1.length) ((Xau (v13.1.set v7.toNat (0,0,0,[],[],()),v13.2) v4.1 v4.2.1).bind fun v14=>(Xaq v14 v6.1 v6.2.1 v5).bind fun v15=>some (0,v15)) none) ((Xau v13 v4.1 v4.2.1).bind fun v16=>(Xaq v16 v6.1 v6.2.1 v5).bind fun v17=>some (0,v17))) ((Xau v v4.1 v4.2.1).bind fun v18=>(Xaq v18 v6.1 v6.2.1 v5).bind fun v19=>some (0,v19)))) none)) none)) none))) (cond (v7 == v5) (some (0,v)) (cond (cond (decide (v7<0)) (inB v6.1 v.1.length) true) ((some (cond (decide (v7<0)) (((v.1.getD v6.1.toNat Xa).2.2.2.2.1.length:Int) == 6) false)).bind fun v20=>cond (cond v20 (v6.1 != v4.1) false) (some (2,v)) (cond (cond (decide (v7≥0)) (inB v7 v.1.length) true) ((some (cond (decide (v7≥0)) (!(((v.1.getD v5.toNat Xa).1 == 2) == ((v.1.getD v7.toNat Xa).1 == 2))) false)).bind fun v21=>cond v21 (some (9,v)) (cond (cond (decide (v7≥0)) (inB v7 v.1.length) true) ((some (cond (decide (v7≥0)) (decide (((v.1.getD v7.toNat Xa).2.2.2.2.1.length:Int)>0)) false)).bind fun v22=>cond v22 (some (8,v)) (cond (decide (v7≥0)) ((Xcu v v6.1 v6.2.1).bind fun v23=>cond ((v.1.getD v5.toNat Xa).1 == 2) (cond (inB v7 v23.1.length) ((Xau (v23.1.set v7.toNat (0,0,0,[],[],()),v23.2) v4.1 v4.2.1).bind fun v24=>(Xaq v24 v6.1 v6.2.1 v5).bind fun v25=>some (0,v25)) none) ((Xau v23 v4.1 v4.2.1).bind fun v26=>(Xaq v26 v6.1 v6.2.1 v5).bind fun v27=>some (0,v27))) ((Xau v v4.1 v4.2.1).bind fun v28=>(Xaq v28 v6.1 v6.2.1 v5).bind fun v29=>some (0,v29)))) none)) none)) none))) none)))
namespace Xid
def G:Gam:=mkG [(121,Xax.FS),(122,Xam.FS),(114,Xcq.FS),(116,Xa4.FS),(128,Xcu.FS),(129,Xau.FS),(124,Xaq.FS)]
def pts:List PT:=[.op (.cd Xh),.cs .str,.cs .str]
def FS:FS:=Ycx [.mu,.sh,.sh] pts (fun x=>Xid x.1 x.2.1 x.2.2.1) fun t=>⟨[.cs I64 t.1],[.op (.cd Xh t.2)]⟩
theorem ok:Ycm PR 74 FS:=
 Yw7 Xf Xe Proofs.Tryz.f74 h0 .no (G:=G) (show GOk PR G from .cons Xax.ok (.cons Xam.ok (.cons Xcq.ok (.cons Xa4.ok (.cons Xcu.ok (.cons Xau.ok (.cons Xaq.ok .nil))))))) (L:=mkL []) (l:=[]) hT
  (fun x=>by simp only[Xid,mC,mB,mS,mO,mN];kernel_rfl)
end Xid
def Xkb (v:List Xg):Option Int:=
 some (v.length:Int)
namespace Xkb
def pts:List PT:=[.cs (.sl Xi)]
def FS:FS:=Ycx [.sh] pts (fun x=>Xkb x.1) fun t=>⟨[.cs I64 t],[]⟩
theorem ok:Ycm PR 133 FS:=
 Yw7 Xf Xe Proofs.Tryz.f133 h0 .no (G:=(mkG [])) .nil (L:=mkL []) (l:=[]) hT
  (fun x=>by simp only[Xkb,mC,mB,mS,mO,mN];kernel_rfl)
end Xkb
def Xkc (v:Fs_) (v2:Int):Option Xf3:=
 cond (inB v2 v.1.length) (cond ((v.1.getD v2.toNat Xa).1 == 2) ((Xkb (v.1.getD v2.toNat Xa).2.2.2.2.1).bind fun v3=>some (0,v2,(v.1.getD v2.toNat Xa).1,1,v3,())) (some (0,v2,(v.1.getD v2.toNat Xa).1,(v.1.getD v2.toNat Xa).2.1,(v.1.getD v2.toNat Xa).2.2.1,()))) none
namespace Xkc
def G:Gam:=mkG [(133,Xkb.FS)]
def pts:List PT:=[.pt Xh,.cs I64]
def FS:FS:=Ycx [.sh,.sh] pts (fun x=>Xkc x.1 x.2.1) fun t=>⟨[.cs Xb4 t],[]⟩
theorem ok:Ycm PR 76 FS:=
 Yw7 Xf Xe Proofs.Tryz.f76 h0 .no (G:=G) (show GOk PR G from .cons Xkb.ok .nil) (L:=mkL []) (l:=[]) hT
  (fun x=>by simp only[Xkc,mC,mB,mS,mO,mN];kernel_rfl)
end Xkc
def Xd6.B (v4:List Xg) (v3:Int) (v5:Int) (v6:List (List UInt8)):Option ((Int×List (List UInt8))⊕(List (List UInt8))):=
 cond (decide (v5<v3)) (cond (inB v5 v4.length) (cond (decide ((v6++([(v4.getD v5.toNat Xk).1])).length≤2147483648)) (some (.inl (w64 (v5+1),v6++([(v4.getD v5.toNat Xk).1])))) none) none) (some (.inr v6))
def Xd6 (v4:List Xg) (v3:Int):(Int×List (List UInt8))→Option (List (List UInt8)):=
 Yan fun s=>Xd6.B v4 v3 s.1 s.2
def Xie (v:Fs_) (v2:Int):Option (List (List UInt8)):=
 cond (inB v2 v.1.length) ((some ((v.1.getD v2.toNat Xa).2.2.2.2.1.length:Int)).bind fun v3=>(Xd6 (v.1.getD v2.toNat Xa).2.2.2.2.1 v3 (0,[])).bind fun v7=>some v7) none
namespace Xd6
noncomputable def c:=Yar (Yag Proofs.Tryz.f77) [1,1,0,1,0,0]
def sp:SP:=⟨[(5,.seg 5 []),(15,.cs (.sl Xi)),(16,.cs I64),(17,.cs I64)],[(5,.reg,.cd (.sl .str))]⟩
def fr:=Yja sp (fun x s=>Xd6.B x.1.2.1 x.1.2.2.1 s.1 s.2) (fun x=>(x.1.2.2.2.1,x.2.1)) fun x (bb0:List (List UInt8)) _ kk0=>kk0 (.ex 0) ⟨[(5,.seg 5 [])],[sr 5 (.cd (.sl .str) bb0)]⟩
theorem ok:Ya2 PR 28 2 (.loop c) fr:=
 Yw0 Xf Xe h0 [(0,([5],[5]))] (fun x s=>((x.1.1,x.1.2.1,x.1.2.2.1,s.1,x.1.2.2.2.2),(s.2,x.2.2)))
  (fun x s=>by simp only[B,mC,mB,mS,mO,mN];kernel_rfl)
end Xd6
namespace Xie
def pts:List PT:=[.pt Xh,.cs I64]
def FS:FS:=Ycx [.sh,.sh] pts (fun x=>Xie x.1 x.2.1) fun t=>⟨[.cd (.sl .str) t],[]⟩
theorem ok:Ycm PR 77 FS:=
 Yw7 Xf Xe Proofs.Tryz.f77 h0 (.R (.R (.L (.R (.one (.fr 0)))))) (G:=(mkG [])) .nil (L:=mkL [(0,Xd6.fr)]) (l:=[(0,.loop Xd6.c)]) ⟨Lam.cons Xd6.ok,trivial⟩
  (fun x=>by simp only[Xie,mC,mB,mS,mO,mN];kernel_rfl)
end Xie
def Xft (v:Fs_) (v2:Xap) (v3:List Int):Option (Xo×Unit):=
 cond (v2.1 == 1) ((Xg6 v v2.2.1 (v2.1 == 2)).bind fun v4=>some ((0,v4.2.1,v4.1,[],[],(v4.2.2.1,v4.2.2.2.1,v4.2.2.2.2),()),())) (cond (v2.1 == 2) ((Xg6 v v2.2.1 (v2.1 == 2)).bind fun v5=>some ((0,v5.2.1,v5.1,[],[],(v5.2.2.1,v5.2.2.2.1,v5.2.2.2.2),()),())) (cond (v2.1 == 3) ((Xf7 v v2 v3).bind fun v6=>some ((v6.1.1,v6.1.2.1,v6.1.2.2.1,v6.1.2.2.2.1,v6.1.2.2.2.2.1,(v6.2.1,v6.2.2.1,v6.2.2.2),v6.1.2.2.2.2.2.2),())) (cond (v2.1 == 4) ((Xf7 v v2 v3).bind fun v7=>some ((v7.1.1,v7.1.2.1,v7.1.2.2.1,v7.1.2.2.2.1,v7.1.2.2.2.2.1,(v7.2.1,v7.2.2.1,v7.2.2.2),v7.1.2.2.2.2.2.2),())) (cond (v2.1 == 5) ((Xf7 v v2 v3).bind fun v8=>some ((v8.1.1,v8.1.2.1,v8.1.2.2.1,v8.1.2.2.2.1,v8.1.2.2.2.2.1,(v8.2.1,v8.2.2.1,v8.2.2.2),v8.1.2.2.2.2.2.2),())) (cond (v2.1 == 6) ((Xh9 v v2.2.1).bind fun v9=>some ((0,v9.1,0,[],[],(v9.2.1,v9.2.2.1,v9.2.2.2),()),())) (cond (v2.1 == 7) ((Xia v v2.2.1).bind fun v10=>some ((0,v10.1,0,[],[],(v10.2.1,v10.2.2.1,v10.2.2.2),()),())) (cond (v2.1 == 8) ((Xic v v2.2.1 v2.2.2.1).bind fun v11=>some ((0,v11.1,0,[],[],(v11.2.1,v11.2.2.1,v11.2.2.2),()),())) (cond (v2.1 == 9) ((Xid v v2.2.1 v2.2.2.1).bind fun v12=>some ((0,v12.1,0,[],[],(v12.2.1,v12.2.2.1,v12.2.2.2),()),())) ((Xb7 v v2.2.1).bind fun v13=>cond (v13.2 != 0) (some ((0,v13.2,0,[],[],(v.1,v.2.1,v.2.2),()),())) (cond (v2.1 == 10) ((Xkc v v13.1).bind fun v14=>(some (w64 ((w64 ((1000:Int)*v14.2.2.1))+(w64 ((100:Int)*v14.2.2.2.1))))).bind fun v15=>some ((0,0,w64 (v15+v14.2.2.2.2.1),[],[],(v.1,v.2.1,v.2.2),()),())) (cond (inB v13.1 v.1.length) (cond ((v.1.getD v13.1.toNat Xa).1 != 2) (some ((0,9,0,[],[],(v.1,v.2.1,v.2.2),()),())) ((Xie v v13.1).bind fun v16=>some ((0,0,0,[],v16,(v.1,v.2.1,v.2.2),()),()))) none)))))))))))
namespace Xft
def G:Gam:=mkG [(68,Xg6.FS),(69,Ywq),(70,Xf7.FS),(71,Xh9.FS),(72,Xia.FS),(73,Xic.FS),(74,Xid.FS),(75,Xb7.FS),(76,Xkc.FS),(77,Xie.FS)]
def pts:List PT:=[.op (.cd Xh),.cs Xv,.cs SI]
def FS:FS:=Ycx [.mu,.sh,.sh] pts (fun x=>Xft x.1 x.2.1 x.2.2.1) fun t=>⟨[.cd Xj t.1],[.op (.pr (.dead 1) (.pr (.dead 1) (.cs .unit t.2)))]⟩
theorem ok:Ycm PR 34 FS:=
 Ywu Xf Xe Proofs.Tryz.f34 ⟨[4],[],[],0⟩ .no (G:=G) (show GOk PR G from .cons Xg6.ok (.Yw6 Zq216.ok (.cons Xf7.ok (.cons Xh9.ok (.cons Xia.ok (.cons Xic.ok (.cons Xid.ok (.cons Xb7.ok (.cons Xkc.ok (.cons Xie.ok .nil)))))))))) (L:=mkL []) (l:=[]) hT
  (fun x=>by simp only[Xft,mC,mB,mS,mO,mN];kernel_rfl)
end Xft
def Xf8 (v:Fs_) (v2:Xap) (v3:List Int):Option Xo:=
 (Xhy v).bind fun v4=>cond (v4 == 0) ((Xhz v2).bind fun v5=>(Xg5 v5 v3).bind fun v6=>cond (v6 != 0) (some (v6,0,0,[],[],([],[],()),())) ((Xct v).bind fun v7=>(Xft (v7.1,v7.2.1,v7.2.2) v2 v3).bind fun v8=>some (v8.1.1,v8.1.2.1,v8.1.2.2.1,v8.1.2.2.2.1,v8.1.2.2.2.2.1,(v8.1.2.2.2.2.2.1.1,v8.1.2.2.2.2.2.1.2.1,v8.1.2.2.2.2.2.1.2.2),v8.1.2.2.2.2.2.2))) ((Xg5 v4 v3).bind fun v9=>cond (v9 != 0) (some (v9,0,0,[],[],([],[],()),())) ((Xct v).bind fun v10=>(Xft (v10.1,v10.2.1,v10.2.2) v2 v3).bind fun v11=>some (v11.1.1,v11.1.2.1,v11.1.2.2.1,v11.1.2.2.2.1,v11.1.2.2.2.2.1,(v11.1.2.2.2.2.2.1.1,v11.1.2.2.2.2.2.1.2.1,v11.1.2.2.2.2.2.1.2.2),v11.1.2.2.2.2.2.2)))
namespace Xf8
def G:Gam:=mkG [(30,Xhy.FS),(31,Xhz.FS),(32,Xg5.FS),(33,Xct.FS),(34,Xft.FS)]
def pts:List PT:=[.cs Xh,.cs Xv,.cs SI]
def FS:FS:=Ycx [.sh,.sh,.sh] pts (fun x=>Xf8 x.1 x.2.1 x.2.2.1) fun t=>⟨[.cd Xj t],[]⟩
theorem ok:Ycm PR 10 FS:=
 Yw7 Xf Xe Proofs.Tryz.f10 ⟨[3,4],[],[],0⟩ .no (G:=G) (show GOk PR G from .cons Xhy.ok (.cons Xhz.ok (.cons Xg5.ok (.cons Xct.ok (.cons Xft.ok .nil))))) (L:=mkL []) (l:=[]) hT
  (fun x=>by simp only[Xf8,mC,mB,mS,mO,mN];kernel_rfl)
end Xf8
def Xd7.B (a:List Int) (b:List Int) (i_:Int):Option (Int⊕((Bool⊕Unit))):=
 cond (decide (i_<(a.length:Int))) (cond (inB i_ a.length) (cond (inB i_ b.length) (cond ((a.getD i_.toNat 0) != (b.getD i_.toNat 0)) (some (.inr (.inl false))) (some (.inl (w64 (i_+1))))) none) none) (some (.inr (.inr ())))
def Xd7 (a:List Int) (b:List Int):Int→Option ((Bool⊕Unit)):=
 Yan fun s=>Xd7.B a b s
def Xb9 (a:List Int) (b:List Int):Option Bool:=
 cond ((a.length:Int) != (b.length:Int)) (some false) ((Xd7 a b 0).bind fun o=>sel o (fun b2=>some b2) (fun c=>some true))
namespace Xd7
noncomputable def c:=Yar (Yag Proofs.Tryz.f35) [1,1,0,1,0,0]
def sp:SP:=⟨[(0,.cs SB),(1,.cs SB),(5,.cs I64)],[]⟩
def fr:=Yja sp (fun x s=>Xd7.B x.1.1 x.1.2.1 s) (fun x=>x.1.2.2.1) fun x (oo0:(Bool⊕Unit)) _ kk0=>sel oo0 (fun bb0=>kk0 (.rt) ⟨[(4,.cs .bool bb0)],[]⟩) (fun cc0=>kk0 (.ex 0) ⟨[],[]⟩)
theorem ok:Ya2 PR 26 2 (.loop c) fr:=
 Yth Xf Xe h0 .no (G:=(mkG [])) .nil (L:=mkL []) (l:=[]) hT [(0,([],[]))] ([4],[]) (fun x s=>((x.1.1,x.1.2.1,s,x.1.2.2.2),x.2))
  (fun x s=>by simp only[B,mC,mB,mS,mO,mN];kernel_rfl)
end Xd7
namespace Xb9
def pts:List PT:=[.cs SB,.cs SB]
def FS:FS:=Ycx [.sh,.sh] pts (fun x=>Xb9 x.1 x.2.1) fun t=>⟨[.cs .bool t],[]⟩
theorem ok:Ycm PR 35 FS:=
 Yw7 Xf Xe Proofs.Tryz.f35 h0 (.R (.R (.L (.R (.one (.fr 0)))))) (G:=(mkG [])) .nil (L:=mkL [(0,Xd7.fr)]) (l:=[(0,.loop Xd7.c)]) ⟨Lam.cons Xd7.ok,trivial⟩
  (fun x=>by simp only[Xb9,mC,mB,mS,mO,mN];kernel_rfl)
end Xb9
def Xd8.B (a:List (List UInt8)) (b:List (List UInt8)) (i_:Int):Option (Int⊕((Bool⊕Unit))):=
 cond (decide (i_<(a.length:Int))) (cond (inB i_ a.length) (cond (inB i_ b.length) (cond (!((a.getD i_.toNat []) == (b.getD i_.toNat []))) (some (.inr (.inl false))) (some (.inl (w64 (i_+1))))) none) none) (some (.inr (.inr ())))
def Xd8 (a:List (List UInt8)) (b:List (List UInt8)):Int→Option ((Bool⊕Unit)):=
 Yan fun s=>Xd8.B a b s
def Xif (a:List (List UInt8)) (b:List (List UInt8)):Option Bool:=
 cond ((a.length:Int) != (b.length:Int)) (some false) ((Xd8 a b 0).bind fun o=>sel o (fun b2=>some b2) (fun c=>some true))
namespace Xd8
noncomputable def c:=Yar (Yag Proofs.Tryz.f36) [1,1,0,1,0,0]
def sp:SP:=⟨[(0,.cs (.sl .str)),(1,.cs (.sl .str)),(5,.cs I64)],[]⟩
def fr:=Yja sp (fun x s=>Xd8.B x.1.1 x.1.2.1 s) (fun x=>x.1.2.2.1) fun x (oo0:(Bool⊕Unit)) _ kk0=>sel oo0 (fun bb0=>kk0 (.rt) ⟨[(4,.cs .bool bb0)],[]⟩) (fun cc0=>kk0 (.ex 0) ⟨[],[]⟩)
theorem ok:Ya2 PR 26 2 (.loop c) fr:=
 Yth Xf Xe h0 .no (G:=(mkG [])) .nil (L:=mkL []) (l:=[]) hT [(0,([],[]))] ([4],[]) (fun x s=>((x.1.1,x.1.2.1,s,x.1.2.2.2),x.2))
  (fun x s=>by simp only[B,mC,mB,mS,mO,mN];kernel_rfl)
end Xd8
namespace Xif
def pts:List PT:=[.cs (.sl .str),.cs (.sl .str)]
def FS:FS:=Ycx [.sh,.sh] pts (fun x=>Xif x.1 x.2.1) fun t=>⟨[.cs .bool t],[]⟩
theorem ok:Ycm PR 36 FS:=
 Yw7 Xf Xe Proofs.Tryz.f36 h0 (.R (.R (.L (.R (.one (.fr 0)))))) (G:=(mkG [])) .nil (L:=mkL [(0,Xd8.fr)]) (l:=[(0,.loop Xd8.c)]) ⟨Lam.cons Xd8.ok,trivial⟩
  (fun x=>by simp only[Xif,mC,mB,mS,mO,mN];kernel_rfl)
end Xif
def Xd9.B (a:List Int) (b:List Int) (i_:Int):Option (Int⊕((Bool⊕Unit))):=
 cond (decide (i_<(a.length:Int))) (cond (inB i_ a.length) (cond (inB i_ b.length) (cond ((a.getD i_.toNat 0) != (b.getD i_.toNat 0)) (some (.inr (.inl false))) (some (.inl (w64 (i_+1))))) none) none) (some (.inr (.inr ())))
def Xd9 (a:List Int) (b:List Int):Int→Option ((Bool⊕Unit)):=
 Yan fun s=>Xd9.B a b s
def Xfu (a:List Int) (b:List Int):Option Bool:=
 cond ((a.length:Int) != (b.length:Int)) (some false) ((Xd9 a b 0).bind fun o=>sel o (fun b2=>some b2) (fun c=>some true))
namespace Xd9
noncomputable def c:=Yar (Yag Proofs.Tryz.f14) [1,1,0,1,0,0]
def sp:SP:=⟨[(0,.cs SI),(1,.cs SI),(5,.cs I64)],[]⟩
def fr:=Yja sp (fun x s=>Xd9.B x.1.1 x.1.2.1 s) (fun x=>x.1.2.2.1) fun x (oo0:(Bool⊕Unit)) _ kk0=>sel oo0 (fun bb0=>kk0 (.rt) ⟨[(4,.cs .bool bb0)],[]⟩) (fun cc0=>kk0 (.ex 0) ⟨[],[]⟩)
theorem ok:Ya2 PR 26 2 (.loop c) fr:=
 Yth Xf Xe h0 .no (G:=(mkG [])) .nil (L:=mkL []) (l:=[]) hT [(0,([],[]))] ([4],[]) (fun x s=>((x.1.1,x.1.2.1,s,x.1.2.2.2),x.2))
  (fun x s=>by simp only[B,mC,mB,mS,mO,mN];kernel_rfl)
end Xd9
namespace Xfu
def pts:List PT:=[.cs SI,.cs SI]
def FS:FS:=Ycx [.sh,.sh] pts (fun x=>Xfu x.1 x.2.1) fun t=>⟨[.cs .bool t],[]⟩
theorem ok:Ycm PR 14 FS:=
 Yw7 Xf Xe Proofs.Tryz.f14 h0 (.R (.R (.L (.R (.one (.fr 0)))))) (G:=(mkG [])) .nil (L:=mkL [(0,Xd9.fr)]) (l:=[(0,.loop Xd9.c)]) ⟨Lam.cons Xd9.ok,trivial⟩
  (fun x=>by simp only[Xfu,mC,mB,mS,mO,mN];kernel_rfl)
end Xfu
def Xig (a:Xg) (b:Xg):Option Bool:=
 cond (!(a.1 == b.1)) (some false) (cond (a.2.1 != b.2.1) (some false) (some true))
namespace Xig
def pts:List PT:=[.cs Xi,.cs Xi]
def FS:FS:=Ycx [.sh,.sh] pts (fun x=>Xig x.1 x.2.1) fun t=>⟨[.cs .bool t],[]⟩
theorem ok:Ycm PR 171 FS:=
 Yw7 Xf Xe Proofs.Tryz.f171 ⟨[2,3],[],[],0⟩ .no (G:=(mkG [])) .nil (L:=mkL []) (l:=[]) hT
  (fun x=>by simp only[Xig,mC,mB,mS,mO,mN];kernel_rfl)
end Xig
def Xea.B (a:List Xg) (b:List Xg) (i_:Int):Option (Int⊕((Bool⊕Unit))):=
 cond (decide (i_<(a.length:Int))) (cond (inB i_ a.length) (cond (inB i_ b.length) ((Xig (a.getD i_.toNat Xk) (b.getD i_.toNat Xk)).bind fun r=>cond (!r) (some (.inr (.inl false))) (some (.inl (w64 (i_+1))))) none) none) (some (.inr (.inr ())))
def Xea (a:List Xg) (b:List Xg):Int→Option ((Bool⊕Unit)):=
 Yan fun s=>Xea.B a b s
def Xeb (a:List Xg) (b:List Xg):Option Bool:=
 cond ((a.length:Int) != (b.length:Int)) (some false) ((Xea a b 0).bind fun o=>sel o (fun b2=>some b2) (fun c=>some true))
namespace Xeb
def G:Gam:=mkG [(171,Xig.FS)]
theorem Gok:GOk PR G:=.cons Xig.ok .nil
end Xeb
namespace Xea
noncomputable def c:=Yar (Yag Proofs.Tryz.f134) [1,1,0,1,0,0]
def sp:SP:=⟨[(0,.cs (.sl Xi)),(1,.cs (.sl Xi)),(5,.cs I64)],[]⟩
def fr:=Yja sp (fun x s=>Xea.B x.1.1 x.1.2.1 s) (fun x=>x.1.2.2.1) fun x (oo0:(Bool⊕Unit)) _ kk0=>sel oo0 (fun bb0=>kk0 (.rt) ⟨[(4,.cs .bool bb0)],[]⟩) (fun cc0=>kk0 (.ex 0) ⟨[],[]⟩)
theorem ok:Ya2 PR 27 2 (.loop c) fr:=
 Yth Xf Xe h0 .no (G:=Xeb.G) Xeb.Gok (L:=mkL []) (l:=[]) hT [(0,([],[]))] ([4],[]) (fun x s=>((x.1.1,x.1.2.1,s,x.1.2.2.2),x.2))
  (fun x s=>by simp only[B,mC,mB,mS,mO,mN];kernel_rfl)
end Xea
namespace Xeb
def pts:List PT:=[.cs (.sl Xi),.cs (.sl Xi)]
def FS:FS:=Ycx [.sh,.sh] pts (fun x=>Xeb x.1 x.2.1) fun t=>⟨[.cs .bool t],[]⟩
theorem ok:Ycm PR 134 FS:=
 Yw7 Xf Xe Proofs.Tryz.f134 h0 (.R (.R (.L (.R (.one (.fr 0)))))) (G:=G) Gok (L:=mkL [(0,Xea.fr)]) (l:=[(0,.loop Xea.c)]) ⟨Lam.cons Xea.ok,trivial⟩
  (fun x=>by simp only[Xeb,mC,mB,mS,mO,mN];kernel_rfl)
end Xeb
def Xih (a:Xb) (b:Xb):Option Bool:=
 cond (a.1 != b.1) (some false) (cond (a.2.1 != b.2.1) (some false) (cond (a.2.2.1 != b.2.2.1) (some false) ((Xfu a.2.2.2.1 b.2.2.2.1).bind fun r=>cond (!r) (some false) ((Xeb a.2.2.2.2.1 b.2.2.2.2.1).bind fun r2=>cond (!r2) (some false) (some true)))))
namespace Xih
def G:Gam:=mkG [(14,Xfu.FS),(134,Xeb.FS)]
def pts:List PT:=[.cs Xd,.cs Xd]
def FS:FS:=Ycx [.sh,.sh] pts (fun x=>Xih x.1 x.2.1) fun t=>⟨[.cs .bool t],[]⟩
theorem ok:Ycm PR 78 FS:=
 Yw7 Xf Xe Proofs.Tryz.f78 ⟨[2,3],[],[],0⟩ .no (G:=G) (show GOk PR G from .cons Xfu.ok (.cons Xeb.ok .nil)) (L:=mkL []) (l:=[]) hT
  (fun x=>by simp only[Xih,mC,mB,mS,mO,mN];kernel_rfl)
end Xih
def Xec.B (a:List Xb) (b:List Xb) (i_:Int):Option (Int⊕((Bool⊕Unit))):=
 cond (decide (i_<(a.length:Int))) (cond (inB i_ a.length) (cond (inB i_ b.length) ((Xih (a.getD i_.toNat Xa) (b.getD i_.toNat Xa)).bind fun r=>cond (!r) (some (.inr (.inl false))) (some (.inl (w64 (i_+1))))) none) none) (some (.inr (.inr ())))
def Xec (a:List Xb) (b:List Xb):Int→Option ((Bool⊕Unit)):=
 Yan fun s=>Xec.B a b s
def Xed (a:List Xb) (b:List Xb):Option Bool:=
 cond ((a.length:Int) != (b.length:Int)) (some false) ((Xec a b 0).bind fun o=>sel o (fun b2=>some b2) (fun c=>some true))
namespace Xed
def G:Gam:=mkG [(78,Xih.FS)]
theorem Gok:GOk PR G:=.cons Xih.ok .nil
end Xed
namespace Xec
noncomputable def c:=Yar (Yag Proofs.Tryz.f37) [1,1,0,1,0,0]
def sp:SP:=⟨[(0,.cs (.sl Xd)),(1,.cs (.sl Xd)),(5,.cs I64)],[]⟩
def fr:=Yja sp (fun x s=>Xec.B x.1.1 x.1.2.1 s) (fun x=>x.1.2.2.1) fun x (oo0:(Bool⊕Unit)) _ kk0=>sel oo0 (fun bb0=>kk0 (.rt) ⟨[(4,.cs .bool bb0)],[]⟩) (fun cc0=>kk0 (.ex 0) ⟨[],[]⟩)
theorem ok:Ya2 PR 27 2 (.loop c) fr:=
 Yth Xf Xe h0 .no (G:=Xed.G) Xed.Gok (L:=mkL []) (l:=[]) hT [(0,([],[]))] ([4],[]) (fun x s=>((x.1.1,x.1.2.1,s,x.1.2.2.2),x.2))
  (fun x s=>by simp only[B,mC,mB,mS,mO,mN];kernel_rfl)
end Xec
namespace Xed
def pts:List PT:=[.cs (.sl Xd),.cs (.sl Xd)]
def FS:FS:=Ycx [.sh,.sh] pts (fun x=>Xed x.1 x.2.1) fun t=>⟨[.cs .bool t],[]⟩
theorem ok:Ycm PR 37 FS:=
 Yw7 Xf Xe Proofs.Tryz.f37 h0 (.R (.R (.L (.R (.one (.fr 0)))))) (G:=G) Gok (L:=mkL [(0,Xec.fr)]) (l:=[(0,.loop Xec.c)]) ⟨Lam.cons Xec.ok,trivial⟩
  (fun x=>by simp only[Xed,mC,mB,mS,mO,mN];kernel_rfl)
end Xed
def Xee.B (a:List (List Int)) (b:List (List Int)) (i_:Int):Option (Int⊕((Bool⊕Unit))):=
 cond (decide (i_<(a.length:Int))) (cond (inB i_ a.length) (cond (inB i_ b.length) ((Xb9 (a.getD i_.toNat []) (b.getD i_.toNat [])).bind fun r=>cond (!r) (some (.inr (.inl false))) (some (.inl (w64 (i_+1))))) none) none) (some (.inr (.inr ())))
def Xee (a:List (List Int)) (b:List (List Int)):Int→Option ((Bool⊕Unit)):=
 Yan fun s=>Xee.B a b s
def Xef (a:List (List Int)) (b:List (List Int)):Option Bool:=
 cond ((a.length:Int) != (b.length:Int)) (some false) ((Xee a b 0).bind fun o=>sel o (fun b2=>some b2) (fun c=>some true))
namespace Xef
def G:Gam:=mkG [(35,Xb9.FS)]
theorem Gok:GOk PR G:=.cons Xb9.ok .nil
end Xef
namespace Xee
noncomputable def c:=Yar (Yag Proofs.Tryz.f38) [1,1,0,1,0,0]
def sp:SP:=⟨[(0,.cs (.sl SB)),(1,.cs (.sl SB)),(5,.cs I64)],[]⟩
def fr:=Yja sp (fun x s=>Xee.B x.1.1 x.1.2.1 s) (fun x=>x.1.2.2.1) fun x (oo0:(Bool⊕Unit)) _ kk0=>sel oo0 (fun bb0=>kk0 (.rt) ⟨[(4,.cs .bool bb0)],[]⟩) (fun cc0=>kk0 (.ex 0) ⟨[],[]⟩)
theorem ok:Ya2 PR 27 2 (.loop c) fr:=
 Yth Xf Xe h0 .no (G:=Xef.G) Xef.Gok (L:=mkL []) (l:=[]) hT [(0,([],[]))] ([4],[]) (fun x s=>((x.1.1,x.1.2.1,s,x.1.2.2.2),x.2))
  (fun x s=>by simp only[B,mC,mB,mS,mO,mN];kernel_rfl)
end Xee
namespace Xef
def pts:List PT:=[.cs (.sl SB),.cs (.sl SB)]
def FS:FS:=Ycx [.sh,.sh] pts (fun x=>Xef x.1 x.2.1) fun t=>⟨[.cs .bool t],[]⟩
theorem ok:Ycm PR 38 FS:=
 Yw7 Xf Xe Proofs.Tryz.f38 h0 (.R (.R (.L (.R (.one (.fr 0)))))) (G:=G) Gok (L:=mkL [(0,Xee.fr)]) (l:=[(0,.loop Xee.c)]) ⟨Lam.cons Xee.ok,trivial⟩
  (fun x=>by simp only[Xef,mC,mB,mS,mO,mN];kernel_rfl)
end Xef
def Xfv (a:Fs_) (b:Fs_):Option Bool:=
 (Xed a.1 b.1).bind fun r=>cond (!r) (some false) ((Xef a.2.1 b.2.1).bind fun r2=>cond (!r2) (some false) (some true))
namespace Xfv
def G:Gam:=mkG [(37,Xed.FS),(38,Xef.FS)]
def pts:List PT:=[.cs Xh,.cs Xh]
def FS:FS:=Ycx [.sh,.sh] pts (fun x=>Xfv x.1 x.2.1) fun t=>⟨[.cs .bool t],[]⟩
theorem ok:Ycm PR 12 FS:=
 Yw7 Xf Xe Proofs.Tryz.f12 ⟨[2,3],[],[],0⟩ .no (G:=G) (show GOk PR G from .cons Xed.ok (.cons Xef.ok .nil)) (L:=mkL []) (l:=[]) hT
  (fun x=>by simp only[Xfv,mC,mB,mS,mO,mN];kernel_rfl)
end Xfv
def Xf9 (a:Xo) (b:Xo):Option Bool:=
 cond (a.1 != b.1) (some false) (cond (a.2.1 != b.2.1) (some false) (cond (a.2.2.1 != b.2.2.1) (some false) ((Xb9 a.2.2.2.1 b.2.2.2.1).bind fun r=>cond (!r) (some false) ((Xif a.2.2.2.2.1 b.2.2.2.2.1).bind fun r2=>cond (!r2) (some false) ((Xfv a.2.2.2.2.2.1 b.2.2.2.2.2.1).bind fun r3=>cond (!r3) (some false) (some true))))))
namespace Xf9
def G:Gam:=mkG [(35,Xb9.FS),(36,Xif.FS),(12,Xfv.FS)]
def pts:List PT:=[.cs Xj,.cs Xj]
def FS:FS:=Ycx [.sh,.sh] pts (fun x=>Xf9 x.1 x.2.1) fun t=>⟨[.cs .bool t],[]⟩
theorem ok:Ycm PR 11 FS:=
 Yw7 Xf Xe Proofs.Tryz.f11 ⟨[2,3],[],[],0⟩ .no (G:=G) (show GOk PR G from .cons Xb9.ok (.cons Xif.ok (.cons Xfv.ok .nil))) (L:=mkL []) (l:=[]) hT
  (fun x=>by simp only[Xf9,mC,mB,mS,mO,mN];kernel_rfl)
end Xf9
def Xii (a:Xap) (b:Xap):Option Bool:=
 cond (a.1 != b.1) (some false) (cond (!(a.2.1 == b.2.1)) (some false) (cond (!(a.2.2.1 == b.2.2.1)) (some false) (cond (a.2.2.2.1 != b.2.2.2.1) (some false) (cond (a.2.2.2.2.1 != b.2.2.2.2.1) (some false) ((Xb9 a.2.2.2.2.2.1 b.2.2.2.2.2.1).bind fun r=>cond (!r) (some false) (some true))))))
namespace Xii
def G:Gam:=mkG [(35,Xb9.FS)]
def pts:List PT:=[.cs Xv,.cs Xv]
def FS:FS:=Ycx [.sh,.sh] pts (fun x=>Xii x.1 x.2.1) fun t=>⟨[.cs .bool t],[]⟩
theorem ok:Ycm PR 13 FS:=
 Yw7 Xf Xe Proofs.Tryz.f13 ⟨[2,3],[],[],0⟩ .no (G:=G) (show GOk PR G from .cons Xb9.ok .nil) (L:=mkL []) (l:=[]) hT
  (fun x=>by simp only[Xii,mC,mB,mS,mO,mN];kernel_rfl)
end Xii
def Xcv.B (k_:Int) (i_:Int) (a_:List Int):Option ((Int×Int×List Int)⊕(Int×List Int)):=
 cond (decide (i_<(a_.length:Int))) (cond (inB i_ a_.length) (some (.inl (w64 (k_+1),w64 (i_+1),a_.set i_.toNat k_))) none) (some (.inr (k_,a_)))
def Xcv :(Int×Int×List Int)→Option (Int×List Int):=
 Yan fun s=>Xcv.B s.1 s.2.1 s.2.2
def Xfw (a:List Int) (k:Int):Option (Int×List Int):=
 (Xcv (k,0,a)).bind fun o=>some (o.1,o.2)
namespace Xcv
noncomputable def c:=Yar (Yag Proofs.Tryz.f17) [1,0,1,0,0]
def sp:SP:=⟨[(0,.seg 0 []),(1,.cs I64),(5,.cs I64)],[(0,.reg,.cd SI)]⟩
def fr:=Yja sp (fun x s=>Xcv.B  s.1 s.2.1 s.2.2) (fun x=>(x.1.2.1,x.1.2.2.1,x.2.1)) fun x (bb0:Int×List Int) _ kk0=>kk0 (.ex 0) ⟨[(1,.cs I64 bb0.1)],[sr 0 (.cd SI bb0.2)]⟩
theorem ok:Ya2 PR 19 2 (.loop c) fr:=
 Yw0 Xf Xe h0 [(0,([1],[0]))] (fun x s=>((x.1.1,s.1,s.2.1,x.1.2.2.2),(s.2.2,x.2.2)))
  (fun x s=>by simp only[B,mC,mB,mS,mO,mN];kernel_rfl)
end Xcv
namespace Xfw
def pts:List PT:=[.cd SI,.cs I64]
def FS:FS:=Ycx [.mu,.sh] pts (fun x=>Xfw x.1 x.2.1) fun t=>⟨[.cs I64 t.1],[.cd SI t.2]⟩
theorem ok:Ycm PR 17 FS:=
 Yw7 Xf Xe Proofs.Tryz.f17 h0 (.R (.L (.R (.one (.fr 0))))) (G:=(mkG [])) .nil (L:=mkL [(0,Xcv.fr)]) (l:=[(0,.loop Xcv.c)]) ⟨Lam.cons Xcv.ok,trivial⟩
  (fun x=>by simp only[Xfw,mC,mB,mS,mO,mN];kernel_rfl)
end Xfw
def Xeg.B (k_:Int) (out_:List UInt8):Option ((Int×List UInt8)⊕(List UInt8)):=
 cond (decide (k_>0)) (cond (!((10:Int) == 0)) ((some (IntKind.u8.wrap (w64 ((48:Int)+(k_.tmod 10))))).bind fun v=>cond (decide ((([v]).map fun n=>UInt8.ofNat n.toNat).length+out_.length≤2147483648)) (cond (!((10:Int) == 0)) (some (.inl (w64 (k_.tdiv 10),(([v]).map fun n=>UInt8.ofNat n.toNat)++out_))) none) none) none) (some (.inr out_))
def Xeg :(Int×List UInt8)→Option (List UInt8):=
 Yan fun s=>Xeg.B s.1 s.2
def Xbf (k:Int):Option (List UInt8):=
 cond (decide (k≤0)) (some ([109,48]:List UInt8)) ((Xeg (k,([]:List UInt8))).bind fun o=>cond (decide (([109]:List UInt8).length+o.length≤2147483648)) (some (([109]:List UInt8)++o)) none)
namespace Xeg
noncomputable def c:=Yar (Yag Proofs.Tryz.f80) [1,1,1,0,0,0]
def sp:SP:=⟨[(0,.cs I64),(3,.cs .str)],[]⟩
def fr:=Yja sp (fun x s=>Xeg.B  s.1 s.2) (fun x=>(x.1.1,x.1.2.1)) fun x (bb0:List UInt8) _ kk0=>kk0 (.ex 0) ⟨[(3,.cs .str bb0)],[]⟩
theorem ok:Ya2 PR 20 1 (.loop c) fr:=
 Yw0 Xf Xe h0 [(0,([3],[]))] (fun x s=>((s.1,s.2,x.1.2.2),x.2))
  (fun x s=>by simp only[B,mC,mB,mS,mO,mN];kernel_rfl)
end Xeg
namespace Xbf
def pts:List PT:=[.cs I64]
def FS:FS:=Ycx [.sh] pts (fun x=>Xbf x.1) fun t=>⟨[.cs .str t],[]⟩
theorem ok:Ycm PR 80 FS:=
 Yw7 Xf Xe Proofs.Tryz.f80 h0 (.R (.R (.R (.L (.one (.fr 0)))))) (G:=(mkG [])) .nil (L:=mkL [(0,Xeg.fr)]) (l:=[(0,.loop Xeg.c)]) ⟨Lam.cons Xeg.ok,trivial⟩
  (fun x=>by simp only[Xbf,mC,mB,mS,mO,mN];kernel_rfl)
end Xbf
def Xcw.B (k_:Int) (i_:Int) (a_:List Xg):Option ((Int×Int×List Xg)⊕(Int×List Xg)):=
 cond (decide (i_<(a_.length:Int))) ((Xbf k_).bind fun r=>cond (inB i_ a_.length) ((some (a_.set i_.toNat (r,(a_.getD i_.toNat Xk).2))).bind fun a_2=>cond (inB i_ a_2.length) ((some (a_2.set i_.toNat ((a_2.getD i_.toNat Xk).1,w64 (k_+1),(a_2.getD i_.toNat Xk).2.2))).bind fun a_3=>some (.inl (w64 ((w64 (k_+1))+1),w64 (i_+1),a_3))) none) none) (some (.inr (k_,a_)))
def Xcw :(Int×Int×List Xg)→Option (Int×List Xg):=
 Yan fun s=>Xcw.B s.1 s.2.1 s.2.2
def Xeh (a:List Xg) (k:Int):Option (Int×List Xg):=
 (Xcw (k,0,a)).bind fun o=>some (o.1,o.2)
namespace Xeh
def G:Gam:=mkG [(80,Xbf.FS)]
theorem Gok:GOk PR G:=.cons Xbf.ok .nil
end Xeh
namespace Xcw
noncomputable def c:=Yar (Yag Proofs.Tryz.f79) [1,0,1,0,0]
def sp:SP:=⟨[(0,.seg 0 []),(1,.cs I64),(5,.cs I64)],[(0,.reg,.cd (.sl Xi))]⟩
def fr:=Yja sp (fun x s=>Xcw.B  s.1 s.2.1 s.2.2) (fun x=>(x.1.2.1,x.1.2.2.1,x.2.1)) fun x (bb0:Int×List Xg) _ kk0=>kk0 (.ex 0) ⟨[(1,.cs I64 bb0.1)],[sr 0 (.cd (.sl Xi) bb0.2)]⟩
theorem ok:Ya2 PR 28 2 (.loop c) fr:=
 Yw9 Xf Xe h0 (G:=Xeh.G) Xeh.Gok [(0,([1],[0]))] (fun x s=>((x.1.1,s.1,s.2.1,x.1.2.2.2),(s.2.2,x.2.2)))
  (fun x s=>by simp only[B,mC,mB,mS,mO,mN];kernel_rfl)
end Xcw
namespace Xeh
def pts:List PT:=[.cd (.sl Xi),.cs I64]
def FS:FS:=Ycx [.mu,.sh] pts (fun x=>Xeh x.1 x.2.1) fun t=>⟨[.cs I64 t.1],[.cd (.sl Xi) t.2]⟩
theorem ok:Ycm PR 79 FS:=
 Yw7 Xf Xe Proofs.Tryz.f79 h0 (.R (.L (.R (.one (.fr 0))))) (G:=G) Gok (L:=mkL [(0,Xcw.fr)]) (l:=[(0,.loop Xcw.c)]) ⟨Lam.cons Xcw.ok,trivial⟩
  (fun x=>by simp only[Xeh,mC,mB,mS,mO,mN];kernel_rfl)
end Xeh
def Xcx.B (k_:Int) (i_:Int) (a_:List Xb):Option ((Int×Int×List Xb)⊕(Int×List Xb)):=
 cond (decide (i_<(a_.length:Int))) (cond (inB i_ a_.length) ((some (a_.set i_.toNat (k_,(a_.getD i_.toNat Xa).2))).bind fun a_2=>cond (inB i_ a_2.length) ((some (a_2.set i_.toNat ((a_2.getD i_.toNat Xa).1,w64 (k_+1),(a_2.getD i_.toNat Xa).2.2))).bind fun a_3=>cond (inB i_ a_3.length) ((some (a_3.set i_.toNat ((a_3.getD i_.toNat Xa).1,(a_3.getD i_.toNat Xa).2.1,w64 ((w64 (k_+1))+1),(a_3.getD i_.toNat Xa).2.2.2))).bind fun a_4=>cond (inB i_ a_4.length) ((Xfw (a_4.getD i_.toNat Xa).2.2.2.1 (w64 ((w64 ((w64 (k_+1))+1))+1))).bind fun r=>cond (inB i_ ((a_4.set i_.toNat ((a_4.getD i_.toNat Xa).1,(a_4.getD i_.toNat Xa).2.1,(a_4.getD i_.toNat Xa).2.2.1,r.2,(a_4.getD i_.toNat Xa).2.2.2.2)).length)) ((Xeh ((a_4.set i_.toNat ((a_4.getD i_.toNat Xa).1,(a_4.getD i_.toNat Xa).2.1,(a_4.getD i_.toNat Xa).2.2.1,r.2,(a_4.getD i_.toNat Xa).2.2.2.2)).getD i_.toNat Xa).2.2.2.2.1 r.1).bind fun r2=>some (.inl (r2.1,w64 (i_+1),(a_4.set i_.toNat ((a_4.getD i_.toNat Xa).1,(a_4.getD i_.toNat Xa).2.1,(a_4.getD i_.toNat Xa).2.2.1,r.2,(a_4.getD i_.toNat Xa).2.2.2.2)).set i_.toNat (((a_4.set i_.toNat ((a_4.getD i_.toNat Xa).1,(a_4.getD i_.toNat Xa).2.1,(a_4.getD i_.toNat Xa).2.2.1,r.2,(a_4.getD i_.toNat Xa).2.2.2.2)).getD i_.toNat Xa).1,((a_4.set i_.toNat ((a_4.getD i_.toNat Xa).1,(a_4.getD i_.toNat Xa).2.1,(a_4.getD i_.toNat Xa).2.2.1,r.2,(a_4.getD i_.toNat Xa).2.2.2.2)).getD i_.toNat Xa).2.1,((a_4.set i_.toNat ((a_4.getD i_.toNat Xa).1,(a_4.getD i_.toNat Xa).2.1,(a_4.getD i_.toNat Xa).2.2.1,r.2,(a_4.getD i_.toNat Xa).2.2.2.2)).getD i_.toNat Xa).2.2.1,((a_4.set i_.toNat ((a_4.getD i_.toNat Xa).1,(a_4.getD i_.toNat Xa).2.1,(a_4.getD i_.toNat Xa).2.2.1,r.2,(a_4.getD i_.toNat Xa).2.2.2.2)).getD i_.toNat Xa).2.2.2.1,r2.2,((a_4.set i_.toNat ((a_4.getD i_.toNat Xa).1,(a_4.getD i_.toNat Xa).2.1,(a_4.getD i_.toNat Xa).2.2.1,r.2,(a_4.getD i_.toNat Xa).2.2.2.2)).getD i_.toNat Xa).2.2.2.2.2)))) none) none) none) none) none) (some (.inr (k_,a_)))
def Xcx :(Int×Int×List Xb)→Option (Int×List Xb):=
 Yan fun s=>Xcx.B s.1 s.2.1 s.2.2
def Xei (a:List Xb) (k:Int):Option (Int×List Xb):=
 (Xcx (k,0,a)).bind fun o=>some (o.1,o.2)
namespace Xei
def G:Gam:=mkG [(17,Xfw.FS),(79,Xeh.FS)]
theorem Gok:GOk PR G:=.cons Xfw.ok (.cons Xeh.ok .nil)
end Xei
namespace Xcx
noncomputable def c:=Yar (Yag Proofs.Tryz.f39) [1,0,1,0,0]
def sp:SP:=⟨[(0,.seg 0 []),(1,.cs I64),(5,.cs I64)],[(0,.reg,.cd (.sl Xd))]⟩
def fr:=Yja sp (fun x s=>Xcx.B  s.1 s.2.1 s.2.2) (fun x=>(x.1.2.1,x.1.2.2.1,x.2.1)) fun x (bb0:Int×List Xb) _ kk0=>kk0 (.ex 0) ⟨[(1,.cs I64 bb0.1)],[sr 0 (.cd (.sl Xd) bb0.2)]⟩
theorem ok:Ya2 PR 48 2 (.loop c) fr:=
 Yw9 Xf Xe h0 (G:=Xei.G) Xei.Gok [(0,([1],[0]))] (fun x s=>((x.1.1,s.1,s.2.1,x.1.2.2.2),(s.2.2,x.2.2)))
  (fun x s=>by simp only[B,mC,mB,mS,mO,mN];kernel_rfl)
end Xcx
namespace Xei
def pts:List PT:=[.cd (.sl Xd),.cs I64]
def FS:FS:=Ycx [.mu,.sh] pts (fun x=>Xei x.1 x.2.1) fun t=>⟨[.cs I64 t.1],[.cd (.sl Xd) t.2]⟩
theorem ok:Ycm PR 39 FS:=
 Yw7 Xf Xe Proofs.Tryz.f39 h0 (.R (.L (.R (.one (.fr 0))))) (G:=G) Gok (L:=mkL [(0,Xcx.fr)]) (l:=[(0,.loop Xcx.c)]) ⟨Lam.cons Xcx.ok,trivial⟩
  (fun x=>by simp only[Xei,mC,mB,mS,mO,mN];kernel_rfl)
end Xei
def Xcy.B (k_:Int) (i_:Int) (a_:List Int):Option ((Int×Int×List Int)⊕(Int×List Int)):=
 cond (decide (i_<(a_.length:Int))) (cond (inB i_ a_.length) (some (.inl (w64 (k_+1),w64 (i_+1),a_.set i_.toNat (IntKind.u8.wrap k_)))) none) (some (.inr (k_,a_)))
def Xcy :(Int×Int×List Int)→Option (Int×List Int):=
 Yan fun s=>Xcy.B s.1 s.2.1 s.2.2
def Xca (a:List Int) (k:Int):Option (Int×List Int):=
 (Xcy (k,0,a)).bind fun o=>some (o.1,o.2)
namespace Xcy
noncomputable def c:=Yar (Yag Proofs.Tryz.f41) [1,0,1,0,0]
def sp:SP:=⟨[(0,.seg 0 []),(1,.cs I64),(5,.cs I64)],[(0,.reg,.cd SB)]⟩
def fr:=Yja sp (fun x s=>Xcy.B  s.1 s.2.1 s.2.2) (fun x=>(x.1.2.1,x.1.2.2.1,x.2.1)) fun x (bb0:Int×List Int) _ kk0=>kk0 (.ex 0) ⟨[(1,.cs I64 bb0.1)],[sr 0 (.cd SB bb0.2)]⟩
theorem ok:Ya2 PR 20 2 (.loop c) fr:=
 Yw0 Xf Xe h0 [(0,([1],[0]))] (fun x s=>((x.1.1,s.1,s.2.1,x.1.2.2.2),(s.2.2,x.2.2)))
  (fun x s=>by simp only[B,mC,mB,mS,mO,mN];kernel_rfl)
end Xcy
namespace Xca
def pts:List PT:=[.cd SB,.cs I64]
def FS:FS:=Ycx [.mu,.sh] pts (fun x=>Xca x.1 x.2.1) fun t=>⟨[.cs I64 t.1],[.cd SB t.2]⟩
theorem ok:Ycm PR 41 FS:=
 Yw7 Xf Xe Proofs.Tryz.f41 h0 (.R (.L (.R (.one (.fr 0))))) (G:=(mkG [])) .nil (L:=mkL [(0,Xcy.fr)]) (l:=[(0,.loop Xcy.c)]) ⟨Lam.cons Xcy.ok,trivial⟩
  (fun x=>by simp only[Xca,mC,mB,mS,mO,mN];kernel_rfl)
end Xca
def Xcz.B (k_:Int) (i_:Int) (a_:List (List Int)):Option ((Int×Int×List (List Int))⊕(Int×List (List Int))):=
 cond (decide (i_<(a_.length:Int))) (cond (inB i_ a_.length) ((Xca (a_.getD i_.toNat []) k_).bind fun r=>some (.inl (r.1,w64 (i_+1),a_.set i_.toNat r.2))) none) (some (.inr (k_,a_)))
def Xcz :(Int×Int×List (List Int))→Option (Int×List (List Int)):=
 Yan fun s=>Xcz.B s.1 s.2.1 s.2.2
def Xej (a:List (List Int)) (k:Int):Option (Int×List (List Int)):=
 (Xcz (k,0,a)).bind fun o=>some (o.1,o.2)
namespace Xej
def G:Gam:=mkG [(41,Xca.FS)]
theorem Gok:GOk PR G:=.cons Xca.ok .nil
end Xej
namespace Xcz
noncomputable def c:=Yar (Yag Proofs.Tryz.f40) [1,0,1,0,0]
def sp:SP:=⟨[(0,.seg 0 []),(1,.cs I64),(5,.cs I64)],[(0,.reg,.cd (.sl SB))]⟩
def fr:=Yja sp (fun x s=>Xcz.B  s.1 s.2.1 s.2.2) (fun x=>(x.1.2.1,x.1.2.2.1,x.2.1)) fun x (bb0:Int×List (List Int)) _ kk0=>kk0 (.ex 0) ⟨[(1,.cs I64 bb0.1)],[sr 0 (.cd (.sl SB) bb0.2)]⟩
theorem ok:Ya2 PR 19 2 (.loop c) fr:=
 Yw9 Xf Xe h0 (G:=Xej.G) Xej.Gok [(0,([1],[0]))] (fun x s=>((x.1.1,s.1,s.2.1,x.1.2.2.2),(s.2.2,x.2.2)))
  (fun x s=>by simp only[B,mC,mB,mS,mO,mN];kernel_rfl)
end Xcz
namespace Xej
def pts:List PT:=[.cd (.sl SB),.cs I64]
def FS:FS:=Ycx [.mu,.sh] pts (fun x=>Xej x.1 x.2.1) fun t=>⟨[.cs I64 t.1],[.cd (.sl SB) t.2]⟩
theorem ok:Ycm PR 40 FS:=
 Yw7 Xf Xe Proofs.Tryz.f40 h0 (.R (.L (.R (.one (.fr 0))))) (G:=G) Gok (L:=mkL [(0,Xcz.fr)]) (l:=[(0,.loop Xcz.c)]) ⟨Lam.cons Xcz.ok,trivial⟩
  (fun x=>by simp only[Xej,mC,mB,mS,mO,mN];kernel_rfl)
end Xej
def Xek (a:Fs_) (k:Int):Option (Int×Fs_):=
 (Xei a.1 k).bind fun r=>(Xej a.2.1 r.1).bind fun r2=>some (r2.1,(r.2,r2.2,a.2.2))
namespace Xek
def G:Gam:=mkG [(39,Xei.FS),(40,Xej.FS)]
def pts:List PT:=[.cd Xh,.cs I64]
def FS:FS:=Ycx [.mu,.sh] pts (fun x=>Xek x.1 x.2.1) fun t=>⟨[.cs I64 t.1],[.cd Xh t.2]⟩
theorem ok:Ycm PR 15 FS:=
 Yw7 Xf Xe Proofs.Tryz.f15 ⟨[2],[],[],0⟩ .no (G:=G) (show GOk PR G from .cons Xei.ok (.cons Xej.ok .nil)) (L:=mkL []) (l:=[]) hT
  (fun x=>by simp only[Xek,mC,mB,mS,mO,mN];kernel_rfl)
end Xek
def Xij (a:Xap) (k:Int):Option (Int×Xap):=
 (Xca a.2.2.2.2.2.1 k).bind fun r=>some (r.1,(a.1,a.2.1,a.2.2.1,a.2.2.2.1,a.2.2.2.2.1,r.2,a.2.2.2.2.2.2))
namespace Xij
def G:Gam:=mkG [(41,Xca.FS)]
def pts:List PT:=[.cd Xv,.cs I64]
def FS:FS:=Ycx [.mu,.sh] pts (fun x=>Xij x.1 x.2.1) fun t=>⟨[.cs I64 t.1],[.cd Xv t.2]⟩
theorem ok:Ycm PR 16 FS:=
 Yw7 Xf Xe Proofs.Tryz.f16 ⟨[2],[],[],0⟩ .no (G:=G) (show GOk PR G from .cons Xca.ok .nil) (L:=mkL []) (l:=[]) hT
  (fun x=>by simp only[Xij,mC,mB,mS,mO,mN];kernel_rfl)
end Xij
def Xc0.B (k_:Int) (i_:Int) (a_:List (List UInt8)):Option ((Int×Int×List (List UInt8))⊕(Int×List (List UInt8))):=
 cond (decide (i_<(a_.length:Int))) ((Xbf k_).bind fun r=>cond (inB i_ a_.length) (some (.inl (w64 (k_+1),w64 (i_+1),a_.set i_.toNat r))) none) (some (.inr (k_,a_)))
def Xc0 :(Int×Int×List (List UInt8))→Option (Int×List (List UInt8)):=
 Yan fun s=>Xc0.B s.1 s.2.1 s.2.2
def Xel (a:List (List UInt8)) (k:Int):Option (Int×List (List UInt8)):=
 (Xc0 (k,0,a)).bind fun o=>some (o.1,o.2)
namespace Xel
def G:Gam:=mkG [(80,Xbf.FS)]
theorem Gok:GOk PR G:=.cons Xbf.ok .nil
end Xel
namespace Xc0
noncomputable def c:=Yar (Yag Proofs.Tryz.f42) [1,0,1,0,0]
def sp:SP:=⟨[(0,.seg 0 []),(1,.cs I64),(5,.cs I64)],[(0,.reg,.cd (.sl .str))]⟩
def fr:=Yja sp (fun x s=>Xc0.B  s.1 s.2.1 s.2.2) (fun x=>(x.1.2.1,x.1.2.2.1,x.2.1)) fun x (bb0:Int×List (List UInt8)) _ kk0=>kk0 (.ex 0) ⟨[(1,.cs I64 bb0.1)],[sr 0 (.cd (.sl .str) bb0.2)]⟩
theorem ok:Ya2 PR 20 2 (.loop c) fr:=
 Yw9 Xf Xe h0 (G:=Xel.G) Xel.Gok [(0,([1],[0]))] (fun x s=>((x.1.1,s.1,s.2.1,x.1.2.2.2),(s.2.2,x.2.2)))
  (fun x s=>by simp only[B,mC,mB,mS,mO,mN];kernel_rfl)
end Xc0
namespace Xel
def pts:List PT:=[.cd (.sl .str),.cs I64]
def FS:FS:=Ycx [.mu,.sh] pts (fun x=>Xel x.1 x.2.1) fun t=>⟨[.cs I64 t.1],[.cd (.sl .str) t.2]⟩
theorem ok:Ycm PR 42 FS:=
 Yw7 Xf Xe Proofs.Tryz.f42 h0 (.R (.L (.R (.one (.fr 0))))) (G:=G) Gok (L:=mkL [(0,Xc0.fr)]) (l:=[(0,.loop Xc0.c)]) ⟨Lam.cons Xc0.ok,trivial⟩
  (fun x=>by simp only[Xel,mC,mB,mS,mO,mN];kernel_rfl)
end Xel
def Xik (a:Xo) (k:Int):Option (Int×Xo):=
 (Xca a.2.2.2.1 k).bind fun r=>(Xel a.2.2.2.2.1 r.1).bind fun r2=>(Xek (a.2.2.2.2.2.1.1,a.2.2.2.2.2.1.2.1,a.2.2.2.2.2.1.2.2) r2.1).bind fun r3=>some (r3.1,(a.1,a.2.1,a.2.2.1,r.2,r2.2,(r3.2.1,r3.2.2.1,a.2.2.2.2.2.1.2.2),a.2.2.2.2.2.2))
namespace Xik
def G:Gam:=mkG [(41,Xca.FS),(42,Xel.FS),(15,Xek.FS)]
def pts:List PT:=[.cd Xj,.cs I64]
def FS:FS:=Ycx [.mu,.sh] pts (fun x=>Xik x.1 x.2.1) fun t=>⟨[.cs I64 t.1],[.cd Xj t.2]⟩
theorem ok:Ycm PR 18 FS:=
 Yw7 Xf Xe Proofs.Tryz.f18 ⟨[2],[],[],0⟩ .no (G:=G) (show GOk PR G from .cons Xca.ok (.cons Xel.ok (.cons Xek.ok .nil))) (L:=mkL []) (l:=[]) hT
  (fun x=>by simp only[Xik,mC,mB,mS,mO,mN];kernel_rfl)
end Xik
def Xc1.B (a:List Int) (k_:Int) (i_:Int):Option ((Int×Int)⊕((Int⊕Int))):=
 cond (decide (i_<(a.length:Int))) (cond (inB i_ a.length) (cond ((a.getD i_.toNat 0) != (IntKind.u8.wrap k_)) (some (.inr (.inl (-1)))) (some (.inl (w64 (k_+1),w64 (i_+1))))) none) (some (.inr (.inr k_)))
def Xc1 (a:List Int):(Int×Int)→Option ((Int⊕Int)):=
 Yan fun s=>Xc1.B a s.1 s.2
def Xfx (a:List Int) (k:Int):Option Int:=
 (Xc1 a (k,0)).bind fun o=>sel o (fun b=>some b) (fun c=>some c)
namespace Xc1
noncomputable def c:=Yar (Yag Proofs.Tryz.f43) [1,0,1,0,0]
def sp:SP:=⟨[(0,.cs SB),(1,.cs I64),(5,.cs I64)],[]⟩
def fr:=Yja sp (fun x s=>Xc1.B x.1.1 s.1 s.2) (fun x=>(x.1.2.1,x.1.2.2.1)) fun x (oo0:(Int⊕Int)) _ kk0=>sel oo0 (fun bb0=>kk0 (.rt) ⟨[(4,.cs I64 bb0)],[]⟩) (fun cc0=>kk0 (.ex 0) ⟨[(1,.cs I64 cc0)],[]⟩)
theorem ok:Ya2 PR 22 2 (.loop c) fr:=
 Yth Xf Xe h0 .no (G:=(mkG [])) .nil (L:=mkL []) (l:=[]) hT [(0,([1],[]))] ([4],[]) (fun x s=>((x.1.1,s.1,s.2,x.1.2.2.2),x.2))
  (fun x s=>by simp only[B,mC,mB,mS,mO,mN];kernel_rfl)
end Xc1
namespace Xfx
def pts:List PT:=[.cs SB,.cs I64]
def FS:FS:=Ycx [.sh,.sh] pts (fun x=>Xfx x.1 x.2.1) fun t=>⟨[.cs I64 t],[]⟩
theorem ok:Ycm PR 43 FS:=
 Yw7 Xf Xe Proofs.Tryz.f43 h0 (.R (.L (.R (.one (.fr 0))))) (G:=(mkG [])) .nil (L:=mkL [(0,Xc1.fr)]) (l:=[(0,.loop Xc1.c)]) ⟨Lam.cons Xc1.ok,trivial⟩
  (fun x=>by simp only[Xfx,mC,mB,mS,mO,mN];kernel_rfl)
end Xfx
def Xc2.B (a:List (List UInt8)) (k_:Int) (i_:Int):Option ((Int×Int)⊕((Int⊕Int))):=
 cond (decide (i_<(a.length:Int))) (cond (inB i_ a.length) ((Xbf k_).bind fun r=>cond (!((a.getD i_.toNat []) == r)) (some (.inr (.inl (-1)))) (some (.inl (w64 (k_+1),w64 (i_+1))))) none) (some (.inr (.inr k_)))
def Xc2 (a:List (List UInt8)):(Int×Int)→Option ((Int⊕Int)):=
 Yan fun s=>Xc2.B a s.1 s.2
def Xem (a:List (List UInt8)) (k:Int):Option Int:=
 (Xc2 a (k,0)).bind fun o=>sel o (fun b=>some b) (fun c=>some c)
namespace Xem
def G:Gam:=mkG [(80,Xbf.FS)]
theorem Gok:GOk PR G:=.cons Xbf.ok .nil
end Xem
namespace Xc2
noncomputable def c:=Yar (Yag Proofs.Tryz.f44) [1,0,1,0,0]
def sp:SP:=⟨[(0,.cs (.sl .str)),(1,.cs I64),(5,.cs I64)],[]⟩
def fr:=Yja sp (fun x s=>Xc2.B x.1.1 s.1 s.2) (fun x=>(x.1.2.1,x.1.2.2.1)) fun x (oo0:(Int⊕Int)) _ kk0=>sel oo0 (fun bb0=>kk0 (.rt) ⟨[(4,.cs I64 bb0)],[]⟩) (fun cc0=>kk0 (.ex 0) ⟨[(1,.cs I64 cc0)],[]⟩)
theorem ok:Ya2 PR 22 2 (.loop c) fr:=
 Yth Xf Xe h0 .no (G:=Xem.G) Xem.Gok (L:=mkL []) (l:=[]) hT [(0,([1],[]))] ([4],[]) (fun x s=>((x.1.1,s.1,s.2,x.1.2.2.2),x.2))
  (fun x s=>by simp only[B,mC,mB,mS,mO,mN];kernel_rfl)
end Xc2
namespace Xem
def pts:List PT:=[.cs (.sl .str),.cs I64]
def FS:FS:=Ycx [.sh,.sh] pts (fun x=>Xem x.1 x.2.1) fun t=>⟨[.cs I64 t],[]⟩
theorem ok:Ycm PR 44 FS:=
 Yw7 Xf Xe Proofs.Tryz.f44 h0 (.R (.L (.R (.one (.fr 0))))) (G:=G) Gok (L:=mkL [(0,Xc2.fr)]) (l:=[(0,.loop Xc2.c)]) ⟨Lam.cons Xc2.ok,trivial⟩
  (fun x=>by simp only[Xem,mC,mB,mS,mO,mN];kernel_rfl)
end Xem
def Xc3.B (a:List Int) (k_:Int) (i_:Int):Option ((Int×Int)⊕((Int⊕Int))):=
 cond (decide (i_<(a.length:Int))) (cond (inB i_ a.length) (cond ((a.getD i_.toNat 0) != k_) (some (.inr (.inl (-1)))) (some (.inl (w64 (k_+1),w64 (i_+1))))) none) (some (.inr (.inr k_)))
def Xc3 (a:List Int):(Int×Int)→Option ((Int⊕Int)):=
 Yan fun s=>Xc3.B a s.1 s.2
def Xil (a:List Int) (k:Int):Option Int:=
 (Xc3 a (k,0)).bind fun o=>sel o (fun b=>some b) (fun c=>some c)
namespace Xc3
noncomputable def c:=Yar (Yag Proofs.Tryz.f135) [1,0,1,0,0]
def sp:SP:=⟨[(0,.cs SI),(1,.cs I64),(5,.cs I64)],[]⟩
def fr:=Yja sp (fun x s=>Xc3.B x.1.1 s.1 s.2) (fun x=>(x.1.2.1,x.1.2.2.1)) fun x (oo0:(Int⊕Int)) _ kk0=>sel oo0 (fun bb0=>kk0 (.rt) ⟨[(4,.cs I64 bb0)],[]⟩) (fun cc0=>kk0 (.ex 0) ⟨[(1,.cs I64 cc0)],[]⟩)
theorem ok:Ya2 PR 21 2 (.loop c) fr:=
 Yth Xf Xe h0 .no (G:=(mkG [])) .nil (L:=mkL []) (l:=[]) hT [(0,([1],[]))] ([4],[]) (fun x s=>((x.1.1,s.1,s.2,x.1.2.2.2),x.2))
  (fun x s=>by simp only[B,mC,mB,mS,mO,mN];kernel_rfl)
end Xc3
namespace Xil
def pts:List PT:=[.cs SI,.cs I64]
def FS:FS:=Ycx [.sh,.sh] pts (fun x=>Xil x.1 x.2.1) fun t=>⟨[.cs I64 t],[]⟩
theorem ok:Ycm PR 135 FS:=
 Yw7 Xf Xe Proofs.Tryz.f135 h0 (.R (.L (.R (.one (.fr 0))))) (G:=(mkG [])) .nil (L:=mkL [(0,Xc3.fr)]) (l:=[(0,.loop Xc3.c)]) ⟨Lam.cons Xc3.ok,trivial⟩
  (fun x=>by simp only[Xil,mC,mB,mS,mO,mN];kernel_rfl)
end Xil
def Xc4.B (a:List Xg) (k_:Int) (i_:Int):Option ((Int×Int)⊕((Int⊕Int))):=
 cond (decide (i_<(a.length:Int))) (cond (inB i_ a.length) ((Xbf k_).bind fun r=>cond (!((a.getD i_.toNat Xk).1 == r)) (some (.inr (.inl (-1)))) (cond (inB i_ a.length) ((some ((a.getD i_.toNat Xk).2.1 != (w64 (k_+1)))).bind fun v=>cond v (some (.inr (.inl (-1)))) (some (.inl (w64 ((w64 (k_+1))+1),w64 (i_+1))))) none)) none) (some (.inr (.inr k_)))
def Xc4 (a:List Xg):(Int×Int)→Option ((Int⊕Int)):=
 Yan fun s=>Xc4.B a s.1 s.2
def Xen (a:List Xg) (k:Int):Option Int:=
 (Xc4 a (k,0)).bind fun o=>sel o (fun b=>some b) (fun c=>some c)
namespace Xen
def G:Gam:=mkG [(80,Xbf.FS)]
theorem Gok:GOk PR G:=.cons Xbf.ok .nil
end Xen
namespace Xc4
noncomputable def c:=Yar (Yag Proofs.Tryz.f136) [1,0,1,0,0]
def sp:SP:=⟨[(0,.cs (.sl Xi)),(1,.cs I64),(5,.cs I64)],[]⟩
def fr:=Yja sp (fun x s=>Xc4.B x.1.1 s.1 s.2) (fun x=>(x.1.2.1,x.1.2.2.1)) fun x (oo0:(Int⊕Int)) _ kk0=>sel oo0 (fun bb0=>kk0 (.rt) ⟨[(4,.cs I64 bb0)],[]⟩) (fun cc0=>kk0 (.ex 0) ⟨[(1,.cs I64 cc0)],[]⟩)
theorem ok:Ya2 PR 32 2 (.loop c) fr:=
 Yth Xf Xe h0 .no (G:=Xen.G) Xen.Gok (L:=mkL []) (l:=[]) hT [(0,([1],[]))] ([4],[]) (fun x s=>((x.1.1,s.1,s.2,x.1.2.2.2),x.2))
  (fun x s=>by simp only[B,mC,mB,mS,mO,mN];kernel_rfl)
end Xc4
namespace Xen
def pts:List PT:=[.cs (.sl Xi),.cs I64]
def FS:FS:=Ycx [.sh,.sh] pts (fun x=>Xen x.1 x.2.1) fun t=>⟨[.cs I64 t],[]⟩
theorem ok:Ycm PR 136 FS:=
 Yw7 Xf Xe Proofs.Tryz.f136 h0 (.R (.L (.R (.one (.fr 0))))) (G:=G) Gok (L:=mkL [(0,Xc4.fr)]) (l:=[(0,.loop Xc4.c)]) ⟨Lam.cons Xc4.ok,trivial⟩
  (fun x=>by simp only[Xen,mC,mB,mS,mO,mN];kernel_rfl)
end Xen
def Xc5.B (a:List Xb) (k_:Int) (i_:Int):Option ((Int×Int)⊕((Int⊕Int))):=
 cond (decide (i_<(a.length:Int))) (cond (inB i_ a.length) (cond ((a.getD i_.toNat Xa).1 != k_) (some (.inr (.inl (-1)))) (cond (inB i_ a.length) ((some ((a.getD i_.toNat Xa).2.1 != (w64 (k_+1)))).bind fun v=>cond v (some (.inr (.inl (-1)))) (cond (inB i_ a.length) ((some ((a.getD i_.toNat Xa).2.2.1 != (w64 ((w64 (k_+1))+1)))).bind fun v2=>cond v2 (some (.inr (.inl (-1)))) (cond (inB i_ a.length) ((Xil (a.getD i_.toNat Xa).2.2.2.1 (w64 ((w64 ((w64 (k_+1))+1))+1))).bind fun r=>cond (decide (r<0)) (some (.inr (.inl (-1)))) (cond (inB i_ a.length) ((Xen (a.getD i_.toNat Xa).2.2.2.2.1 r).bind fun r2=>cond (decide (r2<0)) (some (.inr (.inl (-1)))) (some (.inl (r2,w64 (i_+1))))) none)) none)) none)) none)) none) (some (.inr (.inr k_)))
def Xc5 (a:List Xb):(Int×Int)→Option ((Int⊕Int)):=
 Yan fun s=>Xc5.B a s.1 s.2
def Xeo (a:List Xb) (k:Int):Option Int:=
 (Xc5 a (k,0)).bind fun o=>sel o (fun b=>some b) (fun c=>some c)
namespace Xeo
def G:Gam:=mkG [(135,Xil.FS),(136,Xen.FS)]
theorem Gok:GOk PR G:=.cons Xil.ok (.cons Xen.ok .nil)
end Xeo
namespace Xc5
noncomputable def c:=Yar (Yag Proofs.Tryz.f81) [1,0,1,0,0]
def sp:SP:=⟨[(0,.cs (.sl Xd)),(1,.cs I64),(5,.cs I64)],[]⟩
def fr:=Yja sp (fun x s=>Xc5.B x.1.1 s.1 s.2) (fun x=>(x.1.2.1,x.1.2.2.1)) fun x (oo0:(Int⊕Int)) _ kk0=>sel oo0 (fun bb0=>kk0 (.rt) ⟨[(4,.cs I64 bb0)],[]⟩) (fun cc0=>kk0 (.ex 0) ⟨[(1,.cs I64 cc0)],[]⟩)
theorem ok:Ya2 PR 58 2 (.loop c) fr:=
 Yth Xf Xe h0 .no (G:=Xeo.G) Xeo.Gok (L:=mkL []) (l:=[]) hT [(0,([1],[]))] ([4],[]) (fun x s=>((x.1.1,s.1,s.2,x.1.2.2.2),x.2))
  (fun x s=>by simp only[B,mC,mB,mS,mO,mN];kernel_rfl)
end Xc5
namespace Xeo
def pts:List PT:=[.cs (.sl Xd),.cs I64]
def FS:FS:=Ycx [.sh,.sh] pts (fun x=>Xeo x.1 x.2.1) fun t=>⟨[.cs I64 t],[]⟩
theorem ok:Ycm PR 81 FS:=
 Yw7 Xf Xe Proofs.Tryz.f81 h0 (.R (.L (.R (.one (.fr 0))))) (G:=G) Gok (L:=mkL [(0,Xc5.fr)]) (l:=[(0,.loop Xc5.c)]) ⟨Lam.cons Xc5.ok,trivial⟩
  (fun x=>by simp only[Xeo,mC,mB,mS,mO,mN];kernel_rfl)
end Xeo
def Xc6.B (a:List (List Int)) (k_:Int) (i_:Int):Option ((Int×Int)⊕((Int⊕Int))):=
 cond (decide (i_<(a.length:Int))) (cond (inB i_ a.length) ((Xfx (a.getD i_.toNat []) k_).bind fun r=>cond (decide (r<0)) (some (.inr (.inl (-1)))) (some (.inl (r,w64 (i_+1))))) none) (some (.inr (.inr k_)))
def Xc6 (a:List (List Int)):(Int×Int)→Option ((Int⊕Int)):=
 Yan fun s=>Xc6.B a s.1 s.2
def Xep (a:List (List Int)) (k:Int):Option Int:=
 (Xc6 a (k,0)).bind fun o=>sel o (fun b=>some b) (fun c=>some c)
namespace Xep
def G:Gam:=mkG [(43,Xfx.FS)]
theorem Gok:GOk PR G:=.cons Xfx.ok .nil
end Xep
namespace Xc6
noncomputable def c:=Yar (Yag Proofs.Tryz.f82) [1,0,1,0,0]
def sp:SP:=⟨[(0,.cs (.sl SB)),(1,.cs I64),(5,.cs I64)],[]⟩
def fr:=Yja sp (fun x s=>Xc6.B x.1.1 s.1 s.2) (fun x=>(x.1.2.1,x.1.2.2.1)) fun x (oo0:(Int⊕Int)) _ kk0=>sel oo0 (fun bb0=>kk0 (.rt) ⟨[(4,.cs I64 bb0)],[]⟩) (fun cc0=>kk0 (.ex 0) ⟨[(1,.cs I64 cc0)],[]⟩)
theorem ok:Ya2 PR 21 2 (.loop c) fr:=
 Yth Xf Xe h0 .no (G:=Xep.G) Xep.Gok (L:=mkL []) (l:=[]) hT [(0,([1],[]))] ([4],[]) (fun x s=>((x.1.1,s.1,s.2,x.1.2.2.2),x.2))
  (fun x s=>by simp only[B,mC,mB,mS,mO,mN];kernel_rfl)
end Xc6
namespace Xep
def pts:List PT:=[.cs (.sl SB),.cs I64]
def FS:FS:=Ycx [.sh,.sh] pts (fun x=>Xep x.1 x.2.1) fun t=>⟨[.cs I64 t],[]⟩
theorem ok:Ycm PR 82 FS:=
 Yw7 Xf Xe Proofs.Tryz.f82 h0 (.R (.L (.R (.one (.fr 0))))) (G:=G) Gok (L:=mkL [(0,Xc6.fr)]) (l:=[(0,.loop Xc6.c)]) ⟨Lam.cons Xc6.ok,trivial⟩
  (fun x=>by simp only[Xep,mC,mB,mS,mO,mN];kernel_rfl)
end Xep
def Xg8 (a:Fs_) (k:Int):Option Int:=
 (Xeo a.1 k).bind fun r=>cond (decide (r<0)) (some (-1)) ((Xep a.2.1 r).bind fun r2=>cond (decide (r2<0)) (some (-1)) (some r2))
namespace Xg8
def G:Gam:=mkG [(81,Xeo.FS),(82,Xep.FS)]
def pts:List PT:=[.cs Xh,.cs I64]
def FS:FS:=Ycx [.sh,.sh] pts (fun x=>Xg8 x.1 x.2.1) fun t=>⟨[.cs I64 t],[]⟩
theorem ok:Ycm PR 45 FS:=
 Yw7 Xf Xe Proofs.Tryz.f45 ⟨[2],[],[],0⟩ .no (G:=G) (show GOk PR G from .cons Xeo.ok (.cons Xep.ok .nil)) (L:=mkL []) (l:=[]) hT
  (fun x=>by simp only[Xg8,mC,mB,mS,mO,mN];kernel_rfl)
end Xg8
def Xg9 (a:Xo) (k:Int):Option Int:=
 (Xfx a.2.2.2.1 k).bind fun r=>cond (decide (r<0)) (some (-1)) ((Xem a.2.2.2.2.1 r).bind fun r2=>cond (decide (r2<0)) (some (-1)) ((Xg8 a.2.2.2.2.2.1 r2).bind fun r3=>cond (decide (r3<0)) (some (-1)) (some r3)))
namespace Xg9
def G:Gam:=mkG [(43,Xfx.FS),(44,Xem.FS),(45,Xg8.FS)]
def pts:List PT:=[.cs Xj,.cs I64]
def FS:FS:=Ycx [.sh,.sh] pts (fun x=>Xg9 x.1 x.2.1) fun t=>⟨[.cs I64 t],[]⟩
theorem ok:Ycm PR 19 FS:=
 Yw7 Xf Xe Proofs.Tryz.f19 ⟨[2],[],[],0⟩ .no (G:=G) (show GOk PR G from .cons Xfx.ok (.cons Xem.ok (.cons Xg8.ok .nil))) (L:=mkL []) (l:=[]) hT
  (fun x=>by simp only[Xg9,mC,mB,mS,mO,mN];kernel_rfl)
end Xg9
def Xkd (aF:Fs_) (aC:Xap) (aBusy:List Int):Option Bool:=
 cond (decide ((aBusy.length:Int)>1048576)) (some true) ((Xmc aF 1048576).bind fun r=>cond (decide (r<0)) (some true) ((Xmd aC r).bind fun r2=>cond (decide (r2<0)) (some true) ((Xko aF).bind fun r3=>(Xkp aC).bind fun r4=>(Xhe aBusy).bind fun r5=>(Xg4 (r3.1,r3.2.1,r3.2.2) (r4.1,r4.2.1,r4.2.2.1,r4.2.2.2.1,r4.2.2.2.2.1,r4.2.2.2.2.2.1,r4.2.2.2.2.2.2) r5).bind fun r6=>(Xko aF).bind fun r7=>(Xkp aC).bind fun r8=>(Xhe aBusy).bind fun r9=>(Xf8 (r7.1,r7.2.1,r7.2.2) (r8.1,r8.2.1,r8.2.2.1,r8.2.2.2.1,r8.2.2.2.2.1,r8.2.2.2.2.2.1,r8.2.2.2.2.2.2) r9).bind fun r10=>(Xf9 (r10.1,r10.2.1,r10.2.2.1,r10.2.2.2.1,r10.2.2.2.2.1,(r10.2.2.2.2.2.1.1,r10.2.2.2.2.2.1.2.1,r10.2.2.2.2.2.1.2.2),r10.2.2.2.2.2.2) (r6.1,r6.2.1,r6.2.2.1,r6.2.2.2.1,r6.2.2.2.2.1,(r6.2.2.2.2.2.1.1,r6.2.2.2.2.2.1.2.1,r6.2.2.2.2.2.1.2.2),r6.2.2.2.2.2.2)).bind fun r11=>cond (!r11) (some false) ((Xko aF).bind fun r12=>(Xfv (r7.1,r7.2.1,r7.2.2) (r12.1,r12.2.1,r12.2.2)).bind fun r13=>cond (!r13) (some false) ((Xkp aC).bind fun r14=>(Xii (r8.1,r8.2.1,r8.2.2.1,r8.2.2.2.1,r8.2.2.2.2.1,r8.2.2.2.2.2.1,r8.2.2.2.2.2.2) (r14.1,r14.2.1,r14.2.2.1,r14.2.2.2.1,r14.2.2.2.2.1,r14.2.2.2.2.2.1,r14.2.2.2.2.2.2)).bind fun r15=>cond (!r15) (some false) ((Xhe aBusy).bind fun r16=>(Xfu r9 r16).bind fun r17=>cond (!r17) (some false) ((Xek (r7.1,r7.2.1,r7.2.2) 1).bind fun r18=>(Xij (r8.1,r8.2.1,r8.2.2.1,r8.2.2.2.1,r8.2.2.2.2.1,r8.2.2.2.2.2.1,r8.2.2.2.2.2.2) r18.1).bind fun r19=>(Xfw r9 r19.1).bind fun r20=>cond (decide (r20.1<0)) (some false) ((Xf9 (r10.1,r10.2.1,r10.2.2.1,r10.2.2.2.1,r10.2.2.2.2.1,(r10.2.2.2.2.2.1.1,r10.2.2.2.2.2.1.2.1,r10.2.2.2.2.2.1.2.2),r10.2.2.2.2.2.2) (r6.1,r6.2.1,r6.2.2.1,r6.2.2.2.1,r6.2.2.2.2.1,(r6.2.2.2.2.2.1.1,r6.2.2.2.2.2.1.2.1,r6.2.2.2.2.2.1.2.2),r6.2.2.2.2.2.2)).bind fun r21=>cond (!r21) (some false) ((Xik (r10.1,r10.2.1,r10.2.2.1,r10.2.2.2.1,r10.2.2.2.2.1,(r10.2.2.2.2.2.1.1,r10.2.2.2.2.2.1.2.1,r10.2.2.2.2.2.1.2.2),r10.2.2.2.2.2.2) 1).bind fun r22=>(Xg9 (r10.1,r10.2.1,r10.2.2.1,r22.2.2.2.2.1,r22.2.2.2.2.2.1,(r22.2.2.2.2.2.2.1.1,r22.2.2.2.2.2.2.1.2.1,r10.2.2.2.2.2.1.2.2),r10.2.2.2.2.2.2) 1).bind fun r23=>cond (decide (r23<0)) (some false) (cond (r23 != r22.1) (some false) ((Xko aF).bind fun r24=>(Xkp aC).bind fun r25=>(Xhe aBusy).bind fun r26=>(Xf8 (r24.1,r24.2.1,r24.2.2) (r25.1,r25.2.1,r25.2.2.1,r25.2.2.2.1,r25.2.2.2.2.1,r25.2.2.2.2.2.1,r25.2.2.2.2.2.2) r26).bind fun r27=>(Xf9 (r27.1,r27.2.1,r27.2.2.1,r27.2.2.2.1,r27.2.2.2.2.1,(r27.2.2.2.2.2.1.1,r27.2.2.2.2.2.1.2.1,r27.2.2.2.2.2.1.2.2),r27.2.2.2.2.2.2) (r6.1,r6.2.1,r6.2.2.1,r6.2.2.2.1,r6.2.2.2.2.1,(r6.2.2.2.2.2.1.1,r6.2.2.2.2.2.1.2.1,r6.2.2.2.2.2.1.2.2),r6.2.2.2.2.2.2)).bind fun r28=>cond (!r28) (some false) ((Xg9 (r10.1,r10.2.1,r10.2.2.1,r22.2.2.2.2.1,r22.2.2.2.2.2.1,(r22.2.2.2.2.2.2.1.1,r22.2.2.2.2.2.2.1.2.1,r10.2.2.2.2.2.1.2.2),r10.2.2.2.2.2.2) 1).bind fun r29=>cond (decide (r29<0)) (some false) (cond (r29 != r22.1) (some false) (some true))))))))))))))
namespace Xkd
def G:Gam:=mkG [(4,Xmc.FS),(5,Xmd.FS),(7,Xko.FS),(8,Xkp.FS),(9,Xhe.FS),(6,Xg4.FS),(10,Xf8.FS),(11,Xf9.FS),(12,Xfv.FS),(13,Xii.FS),(14,Xfu.FS),(15,Xek.FS),(16,Xij.FS),(17,Xfw.FS),(18,Xik.FS),(19,Xg9.FS)]
def pts:List PT:=[.cs Xh,.cs Xv,.cs SI]
def FS:FS:=Ycx [.sh,.sh,.sh] pts (fun x=>Xkd x.1 x.2.1 x.2.2.1) fun t=>⟨[.cs .bool t],[]⟩
theorem ok:Ycm PR 3 FS:=
 Yw7 Xf Xe Proofs.Tryz.f3 ⟨[3,4],[],[],0⟩ .no (G:=G) (show GOk PR G from .cons Xmc.ok (.cons Xmd.ok (.cons Xko.ok (.cons Xkp.ok (.cons Xhe.ok (.cons Xg4.ok (.cons Xf8.ok (.cons Xf9.ok (.cons Xfv.ok (.cons Xii.ok (.cons Xfu.ok (.cons Xek.ok (.cons Xij.ok (.cons Xfw.ok (.cons Xik.ok (.cons Xg9.ok .nil)))))))))))))))) (L:=mkL []) (l:=[]) hT
  (fun x=>by simp only[Xkd,mC,mB,mS,mO,mN];kernel_rfl)
end Xkd
end Mf
