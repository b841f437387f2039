import Derived.Test.YtiflgjlpdhagnaaGreatDoorRenamePathA1
set_option linter.unusedVariables false
set_option linter.unusedSimpArgs false
noncomputable section
namespace Mf
open Go
set_option maxRecDepth 100000
def Xe7 (a:Xq) (k:Int):Option (Int×Xq):=
 (Xdk a.2.2.2.1 k).bind fun r=>(Xco a.2.2.2.2.1 r.1).bind fun r2=>(Xcn (a.2.2.2.2.2.1.1,a.2.2.2.2.2.1.2.1,a.2.2.2.2.2.1.2.2) r2.1).bind fun r3=>some (r3.1,(a.1,a.2.1,a.2.2.1,r.2,r2.2,(r3.2.1,r3.2.2.1,a.2.2.2.2.2.1.2.2),a.2.2.2.2.2.2))
namespace Xe7
def G:Gam:=mkG [(32,Xdk.FS),(33,Xco.FS),(11,Xcn.FS)]
def pts:List PT:=[.cd Xi,.cs I64]
def FS:FS:=Yc8 [.mu,.sh] pts (fun x=>Xe7 x.1 x.2.1) fun t=>⟨[.cs I64 t.1],[.cd Xi t.2]⟩
theorem ok:Ycs PR 12 FS:=
 Ywm Xg Xf Proofs.Tryz.f12 ⟨[2],[],[],0⟩ .no (G:=G) (show GOk PR G from .cons Xdk.ok (.cons Xco.ok (.cons Xcn.ok .nil))) (L:=mkL []) (l:=[]) hT
  (fun x=>by simp only[Xe7,mC,mB,mS,mO,mN];kernel_rfl)
end Xe7
def Xbb.B (a:List Int) (k_:Int) (i_:Int):Option ((Int×Int)⊕((Int⊕Int))):=
 cond (decide (i_<(a.length:Int))) (cond (inB i_ a.length) (cond ((a.getD i_.toNat 0) != (IntKind.u8.wrap k_)) (some (.inr (.inl (-1)))) (some (.inl (w64 (k_+1),w64 (i_+1))))) none) (some (.inr (.inr k_)))
def Xbb (a:List Int):(Int×Int)→Option ((Int⊕Int)):=
 Yam fun s=>Xbb.B a s.1 s.2
def Xdl (a:List Int) (k:Int):Option Int:=
 (Xbb a (k,0)).bind fun o=>sel o (fun b=>some b) (fun c=>some c)
namespace Xbb
noncomputable def c:=Yaq (Yal Proofs.Tryz.f34) [1,0,1,0,0]
def sp:SP:=⟨[(0,.cs SB),(1,.cs I64),(5,.cs I64)],[]⟩
def fr:=Yi1 sp (fun x s=>Xbb.B x.1.1 s.1 s.2) (fun x=>(x.1.2.1,x.1.2.2.1)) fun x (oo0:(Int⊕Int)) _ kk0=>sel oo0 (fun bb0=>kk0 (.rt) ⟨[(4,.cs I64 bb0)],[]⟩) (fun cc0=>kk0 (.ex 0) ⟨[(1,.cs I64 cc0)],[]⟩)
theorem ok:Ya5 PR 22 2 (.loop c) fr:=
 Ys4 Xg Xf h0 .no (G:=(mkG [])) .nil (L:=mkL []) (l:=[]) hT [(0,([1],[]))] ([4],[]) (fun x s=>((x.1.1,s.1,s.2,x.1.2.2.2),x.2))
  (fun x s=>by simp only[B,mC,mB,mS,mO,mN];kernel_rfl)
end Xbb
namespace Xdl
def pts:List PT:=[.cs SB,.cs I64]
def FS:FS:=Yc8 [.sh,.sh] pts (fun x=>Xdl x.1 x.2.1) fun t=>⟨[.cs I64 t],[]⟩
theorem ok:Ycs PR 34 FS:=
 Ywm Xg Xf Proofs.Tryz.f34 h0 (.R (.L (.R (.one (.fr 0))))) (G:=(mkG [])) .nil (L:=mkL [(0,Xbb.fr)]) (l:=[(0,.loop Xbb.c)]) ⟨Lam.cons Xbb.ok,trivial⟩
  (fun x=>by simp only[Xdl,mC,mB,mS,mO,mN];kernel_rfl)
end Xdl
def Xbc.B (a:List (List UInt8)) (k_:Int) (i_:Int):Option ((Int×Int)⊕((Int⊕Int))):=
 cond (decide (i_<(a.length:Int))) (cond (inB i_ a.length) ((Xai k_).bind fun r=>cond (!((a.getD i_.toNat []) == r)) (some (.inr (.inl (-1)))) (some (.inl (w64 (k_+1),w64 (i_+1))))) none) (some (.inr (.inr k_)))
def Xbc (a:List (List UInt8)):(Int×Int)→Option ((Int⊕Int)):=
 Yam fun s=>Xbc.B a s.1 s.2
def Xcp (a:List (List UInt8)) (k:Int):Option Int:=
 (Xbc a (k,0)).bind fun o=>sel o (fun b=>some b) (fun c=>some c)
namespace Xcp
def G:Gam:=mkG [(63,Xai.FS)]
theorem Gok:GOk PR G:=.cons Xai.ok .nil
end Xcp
namespace Xbc
noncomputable def c:=Yaq (Yal Proofs.Tryz.f35) [1,0,1,0,0]
def sp:SP:=⟨[(0,.cs (.sl .str)),(1,.cs I64),(5,.cs I64)],[]⟩
def fr:=Yi1 sp (fun x s=>Xbc.B x.1.1 s.1 s.2) (fun x=>(x.1.2.1,x.1.2.2.1)) fun x (oo0:(Int⊕Int)) _ kk0=>sel oo0 (fun bb0=>kk0 (.rt) ⟨[(4,.cs I64 bb0)],[]⟩) (fun cc0=>kk0 (.ex 0) ⟨[(1,.cs I64 cc0)],[]⟩)
theorem ok:Ya5 PR 22 2 (.loop c) fr:=
 Ys4 Xg Xf h0 .no (G:=Xcp.G) Xcp.Gok (L:=mkL []) (l:=[]) hT [(0,([1],[]))] ([4],[]) (fun x s=>((x.1.1,s.1,s.2,x.1.2.2.2),x.2))
  (fun x s=>by simp only[B,mC,mB,mS,mO,mN];kernel_rfl)
end Xbc
namespace Xcp
def pts:List PT:=[.cs (.sl .str),.cs I64]
def FS:FS:=Yc8 [.sh,.sh] pts (fun x=>Xcp x.1 x.2.1) fun t=>⟨[.cs I64 t],[]⟩
theorem ok:Ycs PR 35 FS:=
 Ywm Xg Xf Proofs.Tryz.f35 h0 (.R (.L (.R (.one (.fr 0))))) (G:=G) Gok (L:=mkL [(0,Xbc.fr)]) (l:=[(0,.loop Xbc.c)]) ⟨Lam.cons Xbc.ok,trivial⟩
  (fun x=>by simp only[Xcp,mC,mB,mS,mO,mN];kernel_rfl)
end Xcp
def Xbd.B (a:List Int) (k_:Int) (i_:Int):Option ((Int×Int)⊕((Int⊕Int))):=
 cond (decide (i_<(a.length:Int))) (cond (inB i_ a.length) (cond ((a.getD i_.toNat 0) != k_) (some (.inr (.inl (-1)))) (some (.inl (w64 (k_+1),w64 (i_+1))))) none) (some (.inr (.inr k_)))
def Xbd (a:List Int):(Int×Int)→Option ((Int⊕Int)):=
 Yam fun s=>Xbd.B a s.1 s.2
def Xe8 (a:List Int) (k:Int):Option Int:=
 (Xbd a (k,0)).bind fun o=>sel o (fun b=>some b) (fun c=>some c)
namespace Xbd
noncomputable def c:=Yaq (Yal Proofs.Tryz.f107) [1,0,1,0,0]
def sp:SP:=⟨[(0,.cs SI),(1,.cs I64),(5,.cs I64)],[]⟩
def fr:=Yi1 sp (fun x s=>Xbd.B x.1.1 s.1 s.2) (fun x=>(x.1.2.1,x.1.2.2.1)) fun x (oo0:(Int⊕Int)) _ kk0=>sel oo0 (fun bb0=>kk0 (.rt) ⟨[(4,.cs I64 bb0)],[]⟩) (fun cc0=>kk0 (.ex 0) ⟨[(1,.cs I64 cc0)],[]⟩)
theorem ok:Ya5 PR 21 2 (.loop c) fr:=
 Ys4 Xg Xf h0 .no (G:=(mkG [])) .nil (L:=mkL []) (l:=[]) hT [(0,([1],[]))] ([4],[]) (fun x s=>((x.1.1,s.1,s.2,x.1.2.2.2),x.2))
  (fun x s=>by simp only[B,mC,mB,mS,mO,mN];kernel_rfl)
end Xbd
namespace Xe8
def pts:List PT:=[.cs SI,.cs I64]
def FS:FS:=Yc8 [.sh,.sh] pts (fun x=>Xe8 x.1 x.2.1) fun t=>⟨[.cs I64 t],[]⟩
theorem ok:Ycs PR 107 FS:=
 Ywm Xg Xf Proofs.Tryz.f107 h0 (.R (.L (.R (.one (.fr 0))))) (G:=(mkG [])) .nil (L:=mkL [(0,Xbd.fr)]) (l:=[(0,.loop Xbd.c)]) ⟨Lam.cons Xbd.ok,trivial⟩
  (fun x=>by simp only[Xe8,mC,mB,mS,mO,mN];kernel_rfl)
end Xe8
def Xbe.B (a:List Xe) (k_:Int) (i_:Int):Option ((Int×Int)⊕((Int⊕Int))):=
 cond (decide (i_<(a.length:Int))) (cond (inB i_ a.length) ((Xai k_).bind fun r=>cond (!((a.getD i_.toNat Xj).1 == r)) (some (.inr (.inl (-1)))) (cond (inB i_ a.length) ((some ((a.getD i_.toNat Xj).2.1 != (w64 (k_+1)))).bind fun v=>cond v (some (.inr (.inl (-1)))) (some (.inl (w64 ((w64 (k_+1))+1),w64 (i_+1))))) none)) none) (some (.inr (.inr k_)))
def Xbe (a:List Xe):(Int×Int)→Option ((Int⊕Int)):=
 Yam fun s=>Xbe.B a s.1 s.2
def Xcq (a:List Xe) (k:Int):Option Int:=
 (Xbe a (k,0)).bind fun o=>sel o (fun b=>some b) (fun c=>some c)
namespace Xcq
def G:Gam:=mkG [(63,Xai.FS)]
theorem Gok:GOk PR G:=.cons Xai.ok .nil
end Xcq
namespace Xbe
noncomputable def c:=Yaq (Yal Proofs.Tryz.f108) [1,0,1,0,0]
def sp:SP:=⟨[(0,.cs (.sl Xh)),(1,.cs I64),(5,.cs I64)],[]⟩
def fr:=Yi1 sp (fun x s=>Xbe.B x.1.1 s.1 s.2) (fun x=>(x.1.2.1,x.1.2.2.1)) fun x (oo0:(Int⊕Int)) _ kk0=>sel oo0 (fun bb0=>kk0 (.rt) ⟨[(4,.cs I64 bb0)],[]⟩) (fun cc0=>kk0 (.ex 0) ⟨[(1,.cs I64 cc0)],[]⟩)
theorem ok:Ya5 PR 32 2 (.loop c) fr:=
 Ys4 Xg Xf h0 .no (G:=Xcq.G) Xcq.Gok (L:=mkL []) (l:=[]) hT [(0,([1],[]))] ([4],[]) (fun x s=>((x.1.1,s.1,s.2,x.1.2.2.2),x.2))
  (fun x s=>by simp only[B,mC,mB,mS,mO,mN];kernel_rfl)
end Xbe
namespace Xcq
def pts:List PT:=[.cs (.sl Xh),.cs I64]
def FS:FS:=Yc8 [.sh,.sh] pts (fun x=>Xcq x.1 x.2.1) fun t=>⟨[.cs I64 t],[]⟩
theorem ok:Ycs PR 108 FS:=
 Ywm Xg Xf Proofs.Tryz.f108 h0 (.R (.L (.R (.one (.fr 0))))) (G:=G) Gok (L:=mkL [(0,Xbe.fr)]) (l:=[(0,.loop Xbe.c)]) ⟨Lam.cons Xbe.ok,trivial⟩
  (fun x=>by simp only[Xcq,mC,mB,mS,mO,mN];kernel_rfl)
end Xcq
def Xbf.B (a:List Xb) (k_:Int) (i_:Int):Option ((Int×Int)⊕((Int⊕Int))):=
 cond (decide (i_<(a.length:Int))) (cond (inB i_ a.length) (cond ((a.getD i_.toNat Xa).1 != k_) (some (.inr (.inl (-1)))) (cond (inB i_ a.length) ((some ((a.getD i_.toNat Xa).2.1 != (w64 (k_+1)))).bind fun v=>cond v (some (.inr (.inl (-1)))) (cond (inB i_ a.length) ((some ((a.getD i_.toNat Xa).2.2.1 != (w64 ((w64 (k_+1))+1)))).bind fun v2=>cond v2 (some (.inr (.inl (-1)))) (cond (inB i_ a.length) ((Xe8 (a.getD i_.toNat Xa).2.2.2.1 (w64 ((w64 ((w64 (k_+1))+1))+1))).bind fun r=>cond (decide (r<0)) (some (.inr (.inl (-1)))) (cond (inB i_ a.length) ((Xcq (a.getD i_.toNat Xa).2.2.2.2.1 r).bind fun r2=>cond (decide (r2<0)) (some (.inr (.inl (-1)))) (some (.inl (r2,w64 (i_+1))))) none)) none)) none)) none)) none) (some (.inr (.inr k_)))
def Xbf (a:List Xb):(Int×Int)→Option ((Int⊕Int)):=
 Yam fun s=>Xbf.B a s.1 s.2
def Xcr (a:List Xb) (k:Int):Option Int:=
 (Xbf a (k,0)).bind fun o=>sel o (fun b=>some b) (fun c=>some c)
namespace Xcr
def G:Gam:=mkG [(107,Xe8.FS),(108,Xcq.FS)]
theorem Gok:GOk PR G:=.cons Xe8.ok (.cons Xcq.ok .nil)
end Xcr
namespace Xbf
noncomputable def c:=Yaq (Yal Proofs.Tryz.f64) [1,0,1,0,0]
def sp:SP:=⟨[(0,.cs (.sl Xd)),(1,.cs I64),(5,.cs I64)],[]⟩
def fr:=Yi1 sp (fun x s=>Xbf.B x.1.1 s.1 s.2) (fun x=>(x.1.2.1,x.1.2.2.1)) fun x (oo0:(Int⊕Int)) _ kk0=>sel oo0 (fun bb0=>kk0 (.rt) ⟨[(4,.cs I64 bb0)],[]⟩) (fun cc0=>kk0 (.ex 0) ⟨[(1,.cs I64 cc0)],[]⟩)
theorem ok:Ya5 PR 58 2 (.loop c) fr:=
 Ys4 Xg Xf h0 .no (G:=Xcr.G) Xcr.Gok (L:=mkL []) (l:=[]) hT [(0,([1],[]))] ([4],[]) (fun x s=>((x.1.1,s.1,s.2,x.1.2.2.2),x.2))
  (fun x s=>by simp only[B,mC,mB,mS,mO,mN];kernel_rfl)
end Xbf
namespace Xcr
def pts:List PT:=[.cs (.sl Xd),.cs I64]
def FS:FS:=Yc8 [.sh,.sh] pts (fun x=>Xcr x.1 x.2.1) fun t=>⟨[.cs I64 t],[]⟩
theorem ok:Ycs PR 64 FS:=
 Ywm Xg Xf Proofs.Tryz.f64 h0 (.R (.L (.R (.one (.fr 0))))) (G:=G) Gok (L:=mkL [(0,Xbf.fr)]) (l:=[(0,.loop Xbf.c)]) ⟨Lam.cons Xbf.ok,trivial⟩
  (fun x=>by simp only[Xcr,mC,mB,mS,mO,mN];kernel_rfl)
end Xcr
def Xbg.B (a:List (List Int)) (k_:Int) (i_:Int):Option ((Int×Int)⊕((Int⊕Int))):=
 cond (decide (i_<(a.length:Int))) (cond (inB i_ a.length) ((Xdl (a.getD i_.toNat []) k_).bind fun r=>cond (decide (r<0)) (some (.inr (.inl (-1)))) (some (.inl (r,w64 (i_+1))))) none) (some (.inr (.inr k_)))
def Xbg (a:List (List Int)):(Int×Int)→Option ((Int⊕Int)):=
 Yam fun s=>Xbg.B a s.1 s.2
def Xcs (a:List (List Int)) (k:Int):Option Int:=
 (Xbg a (k,0)).bind fun o=>sel o (fun b=>some b) (fun c=>some c)
namespace Xcs
def G:Gam:=mkG [(34,Xdl.FS)]
theorem Gok:GOk PR G:=.cons Xdl.ok .nil
end Xcs
namespace Xbg
noncomputable def c:=Yaq (Yal Proofs.Tryz.f65) [1,0,1,0,0]
def sp:SP:=⟨[(0,.cs (.sl SB)),(1,.cs I64),(5,.cs I64)],[]⟩
def fr:=Yi1 sp (fun x s=>Xbg.B x.1.1 s.1 s.2) (fun x=>(x.1.2.1,x.1.2.2.1)) fun x (oo0:(Int⊕Int)) _ kk0=>sel oo0 (fun bb0=>kk0 (.rt) ⟨[(4,.cs I64 bb0)],[]⟩) (fun cc0=>kk0 (.ex 0) ⟨[(1,.cs I64 cc0)],[]⟩)
theorem ok:Ya5 PR 21 2 (.loop c) fr:=
 Ys4 Xg Xf h0 .no (G:=Xcs.G) Xcs.Gok (L:=mkL []) (l:=[]) hT [(0,([1],[]))] ([4],[]) (fun x s=>((x.1.1,s.1,s.2,x.1.2.2.2),x.2))
  (fun x s=>by simp only[B,mC,mB,mS,mO,mN];kernel_rfl)
end Xbg
namespace Xcs
def pts:List PT:=[.cs (.sl SB),.cs I64]
def FS:FS:=Yc8 [.sh,.sh] pts (fun x=>Xcs x.1 x.2.1) fun t=>⟨[.cs I64 t],[]⟩
theorem ok:Ycs PR 65 FS:=
 Ywm Xg Xf Proofs.Tryz.f65 h0 (.R (.L (.R (.one (.fr 0))))) (G:=G) Gok (L:=mkL [(0,Xbg.fr)]) (l:=[(0,.loop Xbg.c)]) ⟨Lam.cons Xbg.ok,trivial⟩
  (fun x=>by simp only[Xcs,mC,mB,mS,mO,mN];kernel_rfl)
end Xcs
def Xeg (a:Fs_) (k:Int):Option Int:=
 (Xcr a.1 k).bind fun r=>cond (decide (r<0)) (some (-1)) ((Xcs a.2.1 r).bind fun r2=>cond (decide (r2<0)) (some (-1)) (some r2))
namespace Xeg
def G:Gam:=mkG [(64,Xcr.FS),(65,Xcs.FS)]
def pts:List PT:=[.cs Xk,.cs I64]
def FS:FS:=Yc8 [.sh,.sh] pts (fun x=>Xeg x.1 x.2.1) fun t=>⟨[.cs I64 t],[]⟩
theorem ok:Ycs PR 36 FS:=
 Ywm Xg Xf Proofs.Tryz.f36 ⟨[2],[],[],0⟩ .no (G:=G) (show GOk PR G from .cons Xcr.ok (.cons Xcs.ok .nil)) (L:=mkL []) (l:=[]) hT
  (fun x=>by simp only[Xeg,mC,mB,mS,mO,mN];kernel_rfl)
end Xeg
def Xeh (a:Xq) (k:Int):Option Int:=
 (Xdl a.2.2.2.1 k).bind fun r=>cond (decide (r<0)) (some (-1)) ((Xcp a.2.2.2.2.1 r).bind fun r2=>cond (decide (r2<0)) (some (-1)) ((Xeg a.2.2.2.2.2.1 r2).bind fun r3=>cond (decide (r3<0)) (some (-1)) (some r3)))
namespace Xeh
def G:Gam:=mkG [(34,Xdl.FS),(35,Xcp.FS),(36,Xeg.FS)]
def pts:List PT:=[.cs Xi,.cs I64]
def FS:FS:=Yc8 [.sh,.sh] pts (fun x=>Xeh x.1 x.2.1) fun t=>⟨[.cs I64 t],[]⟩
theorem ok:Ycs PR 13 FS:=
 Ywm Xg Xf Proofs.Tryz.f13 ⟨[2],[],[],0⟩ .no (G:=G) (show GOk PR G from .cons Xdl.ok (.cons Xcp.ok (.cons Xeg.ok .nil))) (L:=mkL []) (l:=[]) hT
  (fun x=>by simp only[Xeh,mC,mB,mS,mO,mN];kernel_rfl)
end Xeh
def Xgu (aF:Fs_) (aPath:List UInt8) (aTo:List UInt8):Option Bool:=
 cond (decide ((aPath.length:Int)>1048576)) (some true) (cond (decide ((aTo.length:Int)>1048576)) (some true) ((Xib aF 1048576).bind fun r=>cond (decide (r<0)) (some true) ((Xg1 aF).bind fun r2=>(Xhm (r2.1,r2.2.1,r2.2.2) aPath aTo).bind fun r3=>(Xg1 aF).bind fun r4=>(Xdh (r4.1,r4.2.1,r4.2.2) aPath aTo).bind fun r5=>(Xdv (r5.1,r5.2.1,r5.2.2.1,r5.2.2.2.1,r5.2.2.2.2.1,(r5.2.2.2.2.2.1.1,r5.2.2.2.2.2.1.2.1,r5.2.2.2.2.2.1.2.2),r5.2.2.2.2.2.2) (r3.1,r3.2.1,r3.2.2.1,r3.2.2.2.1,r3.2.2.2.2.1,(r3.2.2.2.2.2.1.1,r3.2.2.2.2.2.1.2.1,r3.2.2.2.2.2.1.2.2),r3.2.2.2.2.2.2)).bind fun r6=>cond (!r6) (some false) ((Xg1 aF).bind fun r7=>(Xdj (r4.1,r4.2.1,r4.2.2) (r7.1,r7.2.1,r7.2.2)).bind fun r8=>cond (!r8) (some false) ((Xcn (r4.1,r4.2.1,r4.2.2) 1).bind fun r9=>cond (decide (r9.1<0)) (some false) ((Xdv (r5.1,r5.2.1,r5.2.2.1,r5.2.2.2.1,r5.2.2.2.2.1,(r5.2.2.2.2.2.1.1,r5.2.2.2.2.2.1.2.1,r5.2.2.2.2.2.1.2.2),r5.2.2.2.2.2.2) (r3.1,r3.2.1,r3.2.2.1,r3.2.2.2.1,r3.2.2.2.2.1,(r3.2.2.2.2.2.1.1,r3.2.2.2.2.2.1.2.1,r3.2.2.2.2.2.1.2.2),r3.2.2.2.2.2.2)).bind fun r10=>cond (!r10) (some false) ((Xe7 (r5.1,r5.2.1,r5.2.2.1,r5.2.2.2.1,r5.2.2.2.2.1,(r5.2.2.2.2.2.1.1,r5.2.2.2.2.2.1.2.1,r5.2.2.2.2.2.1.2.2),r5.2.2.2.2.2.2) 1).bind fun r11=>(Xeh (r5.1,r5.2.1,r5.2.2.1,r11.2.2.2.2.1,r11.2.2.2.2.2.1,(r11.2.2.2.2.2.2.1.1,r11.2.2.2.2.2.2.1.2.1,r5.2.2.2.2.2.1.2.2),r5.2.2.2.2.2.2) 1).bind fun r12=>cond (decide (r12<0)) (some false) (cond (r12 != r11.1) (some false) ((Xg1 aF).bind fun r13=>(Xdh (r13.1,r13.2.1,r13.2.2) aPath aTo).bind fun r14=>(Xdv (r14.1,r14.2.1,r14.2.2.1,r14.2.2.2.1,r14.2.2.2.2.1,(r14.2.2.2.2.2.1.1,r14.2.2.2.2.2.1.2.1,r14.2.2.2.2.2.1.2.2),r14.2.2.2.2.2.2) (r3.1,r3.2.1,r3.2.2.1,r3.2.2.2.1,r3.2.2.2.2.1,(r3.2.2.2.2.2.1.1,r3.2.2.2.2.2.1.2.1,r3.2.2.2.2.2.1.2.2),r3.2.2.2.2.2.2)).bind fun r15=>cond (!r15) (some false) ((Xeh (r5.1,r5.2.1,r5.2.2.1,r11.2.2.2.2.1,r11.2.2.2.2.2.1,(r11.2.2.2.2.2.2.1.1,r11.2.2.2.2.2.2.1.2.1,r5.2.2.2.2.2.1.2.2),r5.2.2.2.2.2.2) 1).bind fun r16=>cond (decide (r16<0)) (some false) (cond (r16 != r11.1) (some false) (some true))))))))))))
namespace Xgu
def G:Gam:=mkG [(5,Xib.FS),(7,Xg1.FS),(14,Xhm.FS),(15,Xdh.FS),(9,Xdv.FS),(10,Xdj.FS),(11,Xcn.FS),(12,Xe7.FS),(13,Xeh.FS)]
def pts:List PT:=[.cs Xk,.cs .str,.cs .str]
def FS:FS:=Yc8 [.sh,.sh,.sh] pts (fun x=>Xgu x.1 x.2.1 x.2.2.1) fun t=>⟨[.cs .bool t],[]⟩
theorem ok:Ycs PR 4 FS:=
 Ywm Xg Xf Proofs.Tryz.f4 ⟨[3],[],[],0⟩ .no (G:=G) (show GOk PR G from .cons Xib.ok (.cons Xg1.ok (.cons Xhm.ok (.cons Xdh.ok (.cons Xdv.ok (.cons Xdj.ok (.cons Xcn.ok (.cons Xe7.ok (.cons Xeh.ok .nil))))))))) (L:=mkL []) (l:=[]) hT
  (fun x=>by simp only[Xgu,mC,mB,mS,mO,mN];kernel_rfl)
end Xgu
end Mf
