import Derived.Test.YthaonimonnheeaaGreatPlanSyncA1
noncomputable section
namespace Mf
open Go
set_option linter.unusedVariables false
set_option linter.unusedSimpArgs false
set_option maxRecDepth 100000
def Xfg (a:Xk) (k:Int):Option (Int×Xk):=
 (Xcf a.1 k).bind fun r=>(Xb1 a.2.1 r.1).bind fun r2=>some (r2.1,(r.2,r2.2,a.2.2))
namespace Xfg
def G:Gam:=mkG [(61,Xcf.FS),(62,Xb1.FS)]
def pts:List PT:=[.cd Xj,.cs I64]
def FS:FS:=Ybk [.mu,.sh] pts (fun x=>Xfg x.1 x.2.1) fun t=>⟨[.cs I64 t.1],[.cd Xj t.2]⟩
theorem ok:Yb2 PR 16 FS:=
 Yxn Xe Xd Proofs.Tryz.f16 ⟨[2],[],[],0⟩ .no (G:=G) (show GOk PR G from .cons Xcf.ok (.cons Xb1.ok .nil)) (L:=mkL []) (l:=[]) hT
  (fun x=>by simp only[Xfg,mC,mB,mS,mO,mN];kernel_rfl)
end Xfg
def Xce.B (k_:Int) (out_:List UInt8):Option ((Int×List UInt8)⊕(List UInt8)):=
 cond (decide (k_>0)) (cond (!((10:Int) == 0)) ((some (IntKind.u8.wrap (w64 ((48:Int)+(k_.tmod 10))))).bind fun v=>cond (decide ((([v]).map fun n=>UInt8.ofNat n.toNat).length+out_.length≤2147483648)) (cond (!((10:Int) == 0)) (some (.inl (w64 (k_.tdiv 10),(([v]).map fun n=>UInt8.ofNat n.toNat)++out_))) none) none) none) (some (.inr out_))
def Xce :(Int×List UInt8)→Option (List UInt8):=
 Y9 fun s=>Xce.B s.1 s.2
def Xf0 (k:Int):Option (List UInt8):=
 cond (decide (k≤0)) (some ([109,48]:List UInt8)) ((Xce (k,([]:List UInt8))).bind fun o=>cond (decide (([109]:List UInt8).length+o.length≤2147483648)) (some (([109]:List UInt8)++o)) none)
namespace Xce
def c:=Yap (Yaf Proofs.Tryz.f191) [1,1,1,0,0,0]
def sp:SP:=⟨[(0,.cs I64),(3,.cs .str)],[]⟩
def fr:=Yja sp (fun x s=>Xce.B  s.1 s.2) (fun x=>(x.1.1,x.1.2.1)) fun x (bb0:List UInt8) _ kk0=>kk0 (.ex 0) ⟨[(3,.cs .str bb0)],[]⟩
theorem ok:Ya7 PR 20 1 (.loop c) fr:=
 Yxd Xe Xd h0 [(0,([3],[]))] (fun x s=>((s.1,s.2,x.1.2.2),x.2))
  (fun x s=>by simp only[B,mC,mB,mS,mO,mN];kernel_rfl)
end Xce
namespace Xf0
def pts:List PT:=[.cs I64]
def FS:FS:=Ybk [.sh] pts (fun x=>Xf0 x.1) fun t=>⟨[.cs .str t],[]⟩
theorem ok:Yb2 PR 191 FS:=
 Yxn Xe Xd Proofs.Tryz.f191 h0 (.R (.R (.R (.L (.one (.fr 0)))))) (G:=(mkG [])) .nil (L:=mkL [(0,Xce.fr)]) (l:=[(0,.loop Xce.c)]) ⟨Lam.cons Xce.ok,trivial⟩
  (fun x=>by simp only[Xf0,mC,mB,mS,mO,mN];kernel_rfl)
end Xf0
def Xa9.B (k_:Int) (i_:Int) (a_:List Xf):Option ((Int×Int×List Xf)⊕(Int×List Xf)):=
 cond (decide (i_<(a_.length:Int))) ((Xf0 k_).bind fun r=>cond (inB i_ a_.length) ((some (a_.set i_.toNat (r,(a_.getD i_.toNat Xo).2))).bind fun a_2=>cond (inB i_ a_2.length) ((some (a_2.set i_.toNat ((a_2.getD i_.toNat Xo).1,w64 (k_+1),(a_2.getD i_.toNat Xo).2.2))).bind fun a_3=>some (.inl (w64 ((w64 (k_+1))+1),w64 (i_+1),a_3))) none) none) (some (.inr (k_,a_)))
def Xa9 :(Int×Int×List Xf)→Option (Int×List Xf):=
 Y9 fun s=>Xa9.B s.1 s.2.1 s.2.2
def Xcc (a:List Xf) (k:Int):Option (Int×List Xf):=
 (Xa9 (k,0,a)).bind fun o=>some (o.1,o.2)
namespace Xcc
def G:Gam:=mkG [(191,Xf0.FS)]
theorem Gok:GOk PR G:=.cons Xf0.ok .nil
end Xcc
namespace Xa9
def c:=Yap (Yaf Proofs.Tryz.f127) [1,0,1,0,0]
def sp:SP:=⟨[(0,.seg 0 []),(1,.cs I64),(5,.cs I64)],[(0,.reg,.cd (.sl Xh))]⟩
def fr:=Yja sp (fun x s=>Xa9.B  s.1 s.2.1 s.2.2) (fun x=>(x.1.2.1,x.1.2.2.1,x.2.1)) fun x (bb0:Int×List Xf) _ kk0=>kk0 (.ex 0) ⟨[(1,.cs I64 bb0.1)],[sr 0 (.cd (.sl Xh) bb0.2)]⟩
theorem ok:Ya7 PR 28 2 (.loop c) fr:=
 Yxo Xe Xd h0 (G:=Xcc.G) Xcc.Gok [(0,([1],[0]))] (fun x s=>((x.1.1,s.1,s.2.1,x.1.2.2.2),(s.2.2,x.2.2)))
  (fun x s=>by simp only[B,mC,mB,mS,mO,mN];kernel_rfl)
end Xa9
namespace Xcc
def pts:List PT:=[.cd (.sl Xh),.cs I64]
def FS:FS:=Ybk [.mu,.sh] pts (fun x=>Xcc x.1 x.2.1) fun t=>⟨[.cs I64 t.1],[.cd (.sl Xh) t.2]⟩
theorem ok:Yb2 PR 127 FS:=
 Yxn Xe Xd Proofs.Tryz.f127 h0 (.R (.L (.R (.one (.fr 0))))) (G:=G) Gok (L:=mkL [(0,Xa9.fr)]) (l:=[(0,.loop Xa9.c)]) ⟨Lam.cons Xa9.ok,trivial⟩
  (fun x=>by simp only[Xcc,mC,mB,mS,mO,mN];kernel_rfl)
end Xcc
def Xbi.B (k_:Int) (i_:Int) (a_:List Xa):Option ((Int×Int×List Xa)⊕(Int×List Xa)):=
 cond (decide (i_<(a_.length:Int))) (cond (inB i_ a_.length) ((some (a_.set i_.toNat (k_,(a_.getD i_.toNat Xb).2))).bind fun a_2=>cond (inB i_ a_2.length) ((some (a_2.set i_.toNat ((a_2.getD i_.toNat Xb).1,w64 (k_+1),(a_2.getD i_.toNat Xb).2.2))).bind fun a_3=>cond (inB i_ a_3.length) ((some (a_3.set i_.toNat ((a_3.getD i_.toNat Xb).1,(a_3.getD i_.toNat Xb).2.1,w64 ((w64 (k_+1))+1),(a_3.getD i_.toNat Xb).2.2.2))).bind fun a_4=>cond (inB i_ a_4.length) ((Xaf (a_4.getD i_.toNat Xb).2.2.2.1 (w64 ((w64 ((w64 (k_+1))+1))+1))).bind fun r=>cond (inB i_ ((a_4.set i_.toNat ((a_4.getD i_.toNat Xb).1,(a_4.getD i_.toNat Xb).2.1,(a_4.getD i_.toNat Xb).2.2.1,r.2,(a_4.getD i_.toNat Xb).2.2.2.2)).length)) ((Xcc ((a_4.set i_.toNat ((a_4.getD i_.toNat Xb).1,(a_4.getD i_.toNat Xb).2.1,(a_4.getD i_.toNat Xb).2.2.1,r.2,(a_4.getD i_.toNat Xb).2.2.2.2)).getD i_.toNat Xb).2.2.2.2.1 r.1).bind fun r2=>some (.inl (r2.1,w64 (i_+1),(a_4.set i_.toNat ((a_4.getD i_.toNat Xb).1,(a_4.getD i_.toNat Xb).2.1,(a_4.getD i_.toNat Xb).2.2.1,r.2,(a_4.getD i_.toNat Xb).2.2.2.2)).set i_.toNat (((a_4.set i_.toNat ((a_4.getD i_.toNat Xb).1,(a_4.getD i_.toNat Xb).2.1,(a_4.getD i_.toNat Xb).2.2.1,r.2,(a_4.getD i_.toNat Xb).2.2.2.2)).getD i_.toNat Xb).1,((a_4.set i_.toNat ((a_4.getD i_.toNat Xb).1,(a_4.getD i_.toNat Xb).2.1,(a_4.getD i_.toNat Xb).2.2.1,r.2,(a_4.getD i_.toNat Xb).2.2.2.2)).getD i_.toNat Xb).2.1,((a_4.set i_.toNat ((a_4.getD i_.toNat Xb).1,(a_4.getD i_.toNat Xb).2.1,(a_4.getD i_.toNat Xb).2.2.1,r.2,(a_4.getD i_.toNat Xb).2.2.2.2)).getD i_.toNat Xb).2.2.1,((a_4.set i_.toNat ((a_4.getD i_.toNat Xb).1,(a_4.getD i_.toNat Xb).2.1,(a_4.getD i_.toNat Xb).2.2.1,r.2,(a_4.getD i_.toNat Xb).2.2.2.2)).getD i_.toNat Xb).2.2.2.1,r2.2,((a_4.set i_.toNat ((a_4.getD i_.toNat Xb).1,(a_4.getD i_.toNat Xb).2.1,(a_4.getD i_.toNat Xb).2.2.1,r.2,(a_4.getD i_.toNat Xb).2.2.2.2)).getD i_.toNat Xb).2.2.2.2.2)))) none) none) none) none) none) (some (.inr (k_,a_)))
def Xbi :(Int×Int×List Xa)→Option (Int×List Xa):=
 Y9 fun s=>Xbi.B s.1 s.2.1 s.2.2
def Xc1 (a:List Xa) (k:Int):Option (Int×List Xa):=
 (Xbi (k,0,a)).bind fun o=>some (o.1,o.2)
namespace Xc1
def G:Gam:=mkG [(72,Xaf.FS),(127,Xcc.FS)]
theorem Gok:GOk PR G:=.cons Xaf.ok (.cons Xcc.ok .nil)
end Xc1
namespace Xbi
def c:=Yap (Yaf Proofs.Tryz.f63) [1,0,1,0,0]
def sp:SP:=⟨[(0,.seg 0 []),(1,.cs I64),(5,.cs I64)],[(0,.reg,.cd (.sl Xc))]⟩
def fr:=Yja sp (fun x s=>Xbi.B  s.1 s.2.1 s.2.2) (fun x=>(x.1.2.1,x.1.2.2.1,x.2.1)) fun x (bb0:Int×List Xa) _ kk0=>kk0 (.ex 0) ⟨[(1,.cs I64 bb0.1)],[sr 0 (.cd (.sl Xc) bb0.2)]⟩
theorem ok:Ya7 PR 48 2 (.loop c) fr:=
 Yxo Xe Xd h0 (G:=Xc1.G) Xc1.Gok [(0,([1],[0]))] (fun x s=>((x.1.1,s.1,s.2.1,x.1.2.2.2),(s.2.2,x.2.2)))
  (fun x s=>by simp only[B,mC,mB,mS,mO,mN];kernel_rfl)
end Xbi
namespace Xc1
def pts:List PT:=[.cd (.sl Xc),.cs I64]
def FS:FS:=Ybk [.mu,.sh] pts (fun x=>Xc1 x.1 x.2.1) fun t=>⟨[.cs I64 t.1],[.cd (.sl Xc) t.2]⟩
theorem ok:Yb2 PR 63 FS:=
 Yxn Xe Xd Proofs.Tryz.f63 h0 (.R (.L (.R (.one (.fr 0))))) (G:=G) Gok (L:=mkL [(0,Xbi.fr)]) (l:=[(0,.loop Xbi.c)]) ⟨Lam.cons Xbi.ok,trivial⟩
  (fun x=>by simp only[Xc1,mC,mB,mS,mO,mN];kernel_rfl)
end Xc1
def Xbf.B (k_:Int) (i_:Int) (a_:List Int):Option ((Int×Int×List Int)⊕(Int×List Int)):=
 cond (decide (i_<(a_.length:Int))) (cond (inB i_ a_.length) (some (.inl (w64 (k_+1),w64 (i_+1),a_.set i_.toNat (IntKind.u8.wrap k_)))) none) (some (.inr (k_,a_)))
def Xbf :(Int×Int×List Int)→Option (Int×List Int):=
 Y9 fun s=>Xbf.B s.1 s.2.1 s.2.2
def Xfw (a:List Int) (k:Int):Option (Int×List Int):=
 (Xbf (k,0,a)).bind fun o=>some (o.1,o.2)
namespace Xbf
def c:=Yap (Yaf Proofs.Tryz.f128) [1,0,1,0,0]
def sp:SP:=⟨[(0,.seg 0 []),(1,.cs I64),(5,.cs I64)],[(0,.reg,.cd SB)]⟩
def fr:=Yja sp (fun x s=>Xbf.B  s.1 s.2.1 s.2.2) (fun x=>(x.1.2.1,x.1.2.2.1,x.2.1)) fun x (bb0:Int×List Int) _ kk0=>kk0 (.ex 0) ⟨[(1,.cs I64 bb0.1)],[sr 0 (.cd SB bb0.2)]⟩
theorem ok:Ya7 PR 20 2 (.loop c) fr:=
 Yxd Xe Xd h0 [(0,([1],[0]))] (fun x s=>((x.1.1,s.1,s.2.1,x.1.2.2.2),(s.2.2,x.2.2)))
  (fun x s=>by simp only[B,mC,mB,mS,mO,mN];kernel_rfl)
end Xbf
namespace Xfw
def pts:List PT:=[.cd SB,.cs I64]
def FS:FS:=Ybk [.mu,.sh] pts (fun x=>Xfw x.1 x.2.1) fun t=>⟨[.cs I64 t.1],[.cd SB t.2]⟩
theorem ok:Yb2 PR 128 FS:=
 Yxn Xe Xd Proofs.Tryz.f128 h0 (.R (.L (.R (.one (.fr 0))))) (G:=(mkG [])) .nil (L:=mkL [(0,Xbf.fr)]) (l:=[(0,.loop Xbf.c)]) ⟨Lam.cons Xbf.ok,trivial⟩
  (fun x=>by simp only[Xfw,mC,mB,mS,mO,mN];kernel_rfl)
end Xfw
def Xa3.B (k_:Int) (i_:Int) (a_:List (List Int)):Option ((Int×Int×List (List Int))⊕(Int×List (List Int))):=
 cond (decide (i_<(a_.length:Int))) (cond (inB i_ a_.length) ((Xfw (a_.getD i_.toNat []) k_).bind fun r=>some (.inl (r.1,w64 (i_+1),a_.set i_.toNat r.2))) none) (some (.inr (k_,a_)))
def Xa3 :(Int×Int×List (List Int))→Option (Int×List (List Int)):=
 Y9 fun s=>Xa3.B s.1 s.2.1 s.2.2
def Xcm (a:List (List Int)) (k:Int):Option (Int×List (List Int)):=
 (Xa3 (k,0,a)).bind fun o=>some (o.1,o.2)
namespace Xcm
def G:Gam:=mkG [(128,Xfw.FS)]
theorem Gok:GOk PR G:=.cons Xfw.ok .nil
end Xcm
namespace Xa3
def c:=Yap (Yaf Proofs.Tryz.f64) [1,0,1,0,0]
def sp:SP:=⟨[(0,.seg 0 []),(1,.cs I64),(5,.cs I64)],[(0,.reg,.cd (.sl SB))]⟩
def fr:=Yja sp (fun x s=>Xa3.B  s.1 s.2.1 s.2.2) (fun x=>(x.1.2.1,x.1.2.2.1,x.2.1)) fun x (bb0:Int×List (List Int)) _ kk0=>kk0 (.ex 0) ⟨[(1,.cs I64 bb0.1)],[sr 0 (.cd (.sl SB) bb0.2)]⟩
theorem ok:Ya7 PR 19 2 (.loop c) fr:=
 Yxo Xe Xd h0 (G:=Xcm.G) Xcm.Gok [(0,([1],[0]))] (fun x s=>((x.1.1,s.1,s.2.1,x.1.2.2.2),(s.2.2,x.2.2)))
  (fun x s=>by simp only[B,mC,mB,mS,mO,mN];kernel_rfl)
end Xa3
namespace Xcm
def pts:List PT:=[.cd (.sl SB),.cs I64]
def FS:FS:=Ybk [.mu,.sh] pts (fun x=>Xcm x.1 x.2.1) fun t=>⟨[.cs I64 t.1],[.cd (.sl SB) t.2]⟩
theorem ok:Yb2 PR 64 FS:=
 Yxn Xe Xd Proofs.Tryz.f64 h0 (.R (.L (.R (.one (.fr 0))))) (G:=G) Gok (L:=mkL [(0,Xa3.fr)]) (l:=[(0,.loop Xa3.c)]) ⟨Lam.cons Xa3.ok,trivial⟩
  (fun x=>by simp only[Xcm,mC,mB,mS,mO,mN];kernel_rfl)
end Xcm
def Xfz (a:Fs_) (k:Int):Option (Int×Fs_):=
 (Xc1 a.1 k).bind fun r=>(Xcm a.2.1 r.1).bind fun r2=>some (r2.1,(r.2,r2.2,a.2.2))
namespace Xfz
def G:Gam:=mkG [(63,Xc1.FS),(64,Xcm.FS)]
def pts:List PT:=[.cd Xn,.cs I64]
def FS:FS:=Ybk [.mu,.sh] pts (fun x=>Xfz x.1 x.2.1) fun t=>⟨[.cs I64 t.1],[.cd Xn t.2]⟩
theorem ok:Yb2 PR 17 FS:=
 Yxn Xe Xd Proofs.Tryz.f17 ⟨[2],[],[],0⟩ .no (G:=G) (show GOk PR G from .cons Xc1.ok (.cons Xcm.ok .nil)) (L:=mkL []) (l:=[]) hT
  (fun x=>by simp only[Xfz,mC,mB,mS,mO,mN];kernel_rfl)
end Xfz
def Xbb.B (k_:Int) (i_:Int) (a_:List Xl):Option ((Int×Int×List Xl)⊕(Int×List Xl)):=
 cond (decide (i_<(a_.length:Int))) (cond (!((3:Int) == 0)) (cond (inB i_ a_.length) ((some (a_.set i_.toNat ((k_.tmod 3) == 0,(a_.getD i_.toNat Xar).2))).bind fun a_2=>cond (inB i_ a_2.length) ((some (a_2.set i_.toNat ((a_2.getD i_.toNat Xar).1,w64 (k_+1),(a_2.getD i_.toNat Xar).2.2))).bind fun a_3=>cond (inB i_ a_3.length) ((Xaf (a_3.getD i_.toNat Xar).2.2.1 (w64 ((w64 (k_+1))+1))).bind fun r=>some (.inl (r.1,w64 (i_+1),a_3.set i_.toNat ((a_3.getD i_.toNat Xar).1,(a_3.getD i_.toNat Xar).2.1,r.2,(a_3.getD i_.toNat Xar).2.2.2)))) none) none) none) none) (some (.inr (k_,a_)))
def Xbb :(Int×Int×List Xl)→Option (Int×List Xl):=
 Y9 fun s=>Xbb.B s.1 s.2.1 s.2.2
def Xcp (a:List Xl) (k:Int):Option (Int×List Xl):=
 (Xbb (k,0,a)).bind fun o=>some (o.1,o.2)
namespace Xcp
def G:Gam:=mkG [(72,Xaf.FS)]
theorem Gok:GOk PR G:=.cons Xaf.ok .nil
end Xcp
namespace Xbb
def c:=Yap (Yaf Proofs.Tryz.f65) [1,0,1,0,0]
def sp:SP:=⟨[(0,.seg 0 []),(1,.cs I64),(5,.cs I64)],[(0,.reg,.cd (.sl Xp))]⟩
def fr:=Yja sp (fun x s=>Xbb.B  s.1 s.2.1 s.2.2) (fun x=>(x.1.2.1,x.1.2.2.1,x.2.1)) fun x (bb0:Int×List Xl) _ kk0=>kk0 (.ex 0) ⟨[(1,.cs I64 bb0.1)],[sr 0 (.cd (.sl Xp) bb0.2)]⟩
theorem ok:Ya7 PR 36 2 (.loop c) fr:=
 Yxo Xe Xd h0 (G:=Xcp.G) Xcp.Gok [(0,([1],[0]))] (fun x s=>((x.1.1,s.1,s.2.1,x.1.2.2.2),(s.2.2,x.2.2)))
  (fun x s=>by simp only[B,mC,mB,mS,mO,mN];kernel_rfl)
end Xbb
namespace Xcp
def pts:List PT:=[.cd (.sl Xp),.cs I64]
def FS:FS:=Ybk [.mu,.sh] pts (fun x=>Xcp x.1 x.2.1) fun t=>⟨[.cs I64 t.1],[.cd (.sl Xp) t.2]⟩
theorem ok:Yb2 PR 65 FS:=
 Yxn Xe Xd Proofs.Tryz.f65 h0 (.R (.L (.R (.one (.fr 0))))) (G:=G) Gok (L:=mkL [(0,Xbb.fr)]) (l:=[(0,.loop Xbb.c)]) ⟨Lam.cons Xbb.ok,trivial⟩
  (fun x=>by simp only[Xcp,mC,mB,mS,mO,mN];kernel_rfl)
end Xcp
def Xe2 (a:Xv) (k:Int):Option (Int×Xv):=
 (Xcp a.2.1 k).bind fun r=>some (r.1,(a.1,r.2,a.2.2))
namespace Xe2
def G:Gam:=mkG [(65,Xcp.FS)]
def pts:List PT:=[.cd Xm,.cs I64]
def FS:FS:=Ybk [.mu,.sh] pts (fun x=>Xe2 x.1 x.2.1) fun t=>⟨[.cs I64 t.1],[.cd Xm t.2]⟩
theorem ok:Yb2 PR 18 FS:=
 Yxn Xe Xd Proofs.Tryz.f18 ⟨[2],[],[],0⟩ .no (G:=G) (show GOk PR G from .cons Xcp.ok .nil) (L:=mkL []) (l:=[]) hT
  (fun x=>by simp only[Xe2,mC,mB,mS,mO,mN];kernel_rfl)
end Xe2
def Xbm.B (a:List Int) (k_:Int) (i_:Int):Option ((Int×Int)⊕((Int⊕Int))):=
 cond (decide (i_<(a.length:Int))) (cond (inB i_ a.length) (cond ((a.getD i_.toNat 0) != k_) (some (.inr (.inl (-1)))) (some (.inl (w64 (k_+1),w64 (i_+1))))) none) (some (.inr (.inr k_)))
def Xbm (a:List Int):(Int×Int)→Option ((Int⊕Int)):=
 Y9 fun s=>Xbm.B a s.1 s.2
def Xfi (a:List Int) (k:Int):Option Int:=
 (Xbm a (k,0)).bind fun o=>sel o (fun b=>some b) (fun c=>some c)
namespace Xbm
def c:=Yap (Yaf Proofs.Tryz.f73) [1,0,1,0,0]
def sp:SP:=⟨[(0,.cs SI),(1,.cs I64),(5,.cs I64)],[]⟩
def fr:=Yja sp (fun x s=>Xbm.B x.1.1 s.1 s.2) (fun x=>(x.1.2.1,x.1.2.2.1)) fun x (oo0:(Int⊕Int)) _ kk0=>sel oo0 (fun bb0=>kk0 (.rt) ⟨[(4,.cs I64 bb0)],[]⟩) (fun cc0=>kk0 (.ex 0) ⟨[(1,.cs I64 cc0)],[]⟩)
theorem ok:Ya7 PR 21 2 (.loop c) fr:=
 Yt2 Xe Xd h0 .no (G:=(mkG [])) .nil (L:=mkL []) (l:=[]) hT [(0,([1],[]))] ([4],[]) (fun x s=>((x.1.1,s.1,s.2,x.1.2.2.2),x.2))
  (fun x s=>by simp only[B,mC,mB,mS,mO,mN];kernel_rfl)
end Xbm
namespace Xfi
def pts:List PT:=[.cs SI,.cs I64]
def FS:FS:=Ybk [.sh,.sh] pts (fun x=>Xfi x.1 x.2.1) fun t=>⟨[.cs I64 t],[]⟩
theorem ok:Yb2 PR 73 FS:=
 Yxn Xe Xd Proofs.Tryz.f73 h0 (.R (.L (.R (.one (.fr 0))))) (G:=(mkG [])) .nil (L:=mkL [(0,Xbm.fr)]) (l:=[(0,.loop Xbm.c)]) ⟨Lam.cons Xbm.ok,trivial⟩
  (fun x=>by simp only[Xfi,mC,mB,mS,mO,mN];kernel_rfl)
end Xfi
def Xbe.B (a:List Xl) (k_:Int) (i_:Int):Option ((Int×Int)⊕((Int⊕Int))):=
 cond (decide (i_<(a.length:Int))) (cond (inB i_ a.length) (cond (!((3:Int) == 0)) ((some (!((a.getD i_.toNat Xar).1 == ((k_.tmod 3) == 0)))).bind fun v=>cond v (some (.inr (.inl (-1)))) (cond (inB i_ a.length) ((some ((a.getD i_.toNat Xar).2.1 != (w64 (k_+1)))).bind fun v2=>cond v2 (some (.inr (.inl (-1)))) (cond (inB i_ a.length) ((Xfi (a.getD i_.toNat Xar).2.2.1 (w64 ((w64 (k_+1))+1))).bind fun r=>cond (decide (r<0)) (some (.inr (.inl (-1)))) (some (.inl (r,w64 (i_+1))))) none)) none)) none) none) (some (.inr (.inr k_)))
def Xbe (a:List Xl):(Int×Int)→Option ((Int⊕Int)):=
 Y9 fun s=>Xbe.B a s.1 s.2
def Xbw (a:List Xl) (k:Int):Option Int:=
 (Xbe a (k,0)).bind fun o=>sel o (fun b=>some b) (fun c=>some c)
namespace Xbw
def G:Gam:=mkG [(73,Xfi.FS)]
theorem Gok:GOk PR G:=.cons Xfi.ok .nil
end Xbw
namespace Xbe
def c:=Yap (Yaf Proofs.Tryz.f66) [1,0,1,0,0]
def sp:SP:=⟨[(0,.cs (.sl Xp)),(1,.cs I64),(5,.cs I64)],[]⟩
def fr:=Yja sp (fun x s=>Xbe.B x.1.1 s.1 s.2) (fun x=>(x.1.2.1,x.1.2.2.1)) fun x (oo0:(Int⊕Int)) _ kk0=>sel oo0 (fun bb0=>kk0 (.rt) ⟨[(4,.cs I64 bb0)],[]⟩) (fun cc0=>kk0 (.ex 0) ⟨[(1,.cs I64 cc0)],[]⟩)
theorem ok:Ya7 PR 42 2 (.loop c) fr:=
 Yt2 Xe Xd h0 .no (G:=Xbw.G) Xbw.Gok (L:=mkL []) (l:=[]) hT [(0,([1],[]))] ([4],[]) (fun x s=>((x.1.1,s.1,s.2,x.1.2.2.2),x.2))
  (fun x s=>by simp only[B,mC,mB,mS,mO,mN];kernel_rfl)
end Xbe
namespace Xbw
def pts:List PT:=[.cs (.sl Xp),.cs I64]
def FS:FS:=Ybk [.sh,.sh] pts (fun x=>Xbw x.1 x.2.1) fun t=>⟨[.cs I64 t],[]⟩
theorem ok:Yb2 PR 66 FS:=
 Yxn Xe Xd Proofs.Tryz.f66 h0 (.R (.L (.R (.one (.fr 0))))) (G:=G) Gok (L:=mkL [(0,Xbe.fr)]) (l:=[(0,.loop Xbe.c)]) ⟨Lam.cons Xbe.ok,trivial⟩
  (fun x=>by simp only[Xbw,mC,mB,mS,mO,mN];kernel_rfl)
end Xbw
def Xeh (a:Xv) (k:Int):Option Int:=
 (Xbw a.2.1 k).bind fun r=>cond (decide (r<0)) (some (-1)) (some r)
namespace Xeh
def G:Gam:=mkG [(66,Xbw.FS)]
def pts:List PT:=[.cs Xm,.cs I64]
def FS:FS:=Ybk [.sh,.sh] pts (fun x=>Xeh x.1 x.2.1) fun t=>⟨[.cs I64 t],[]⟩
theorem ok:Yb2 PR 19 FS:=
 Yxn Xe Xd Proofs.Tryz.f19 ⟨[2],[],[],0⟩ .no (G:=G) (show GOk PR G from .cons Xbw.ok .nil) (L:=mkL []) (l:=[]) hT
  (fun x=>by simp only[Xeh,mC,mB,mS,mO,mN];kernel_rfl)
end Xeh
def Xhc (aD:Xk) (aF:Fs_):Option Bool:=
 (Zq6 aD 1048576).bind fun r=>cond (decide (r<0)) (some true) ((Xje aF r).bind fun r2=>cond (decide (r2<0)) (some true) ((Xhy aD).bind fun r3=>(Xhu aF).bind fun r4=>(Xdr (r3.1,r3.2.1,r3.2.2) (r4.1,r4.2.1,r4.2.2)).bind fun r5=>(Xhy aD).bind fun r6=>(Xhu aF).bind fun r7=>(Xd6 (r6.1,r6.2.1,r6.2.2) (r7.1,r7.2.1,r7.2.2)).bind fun r8=>(Xdv (r8.1,r8.2.1,r8.2.2) (r5.1,r5.2.1,r5.2.2)).bind fun r9=>cond (!r9) (some false) ((Xhy aD).bind fun r10=>(Xfc (r6.1,r6.2.1,r6.2.2) (r10.1,r10.2.1,r10.2.2)).bind fun r11=>cond (!r11) (some false) ((Xhu aF).bind fun r12=>(Xfx (r7.1,r7.2.1,r7.2.2) (r12.1,r12.2.1,r12.2.2)).bind fun r13=>cond (!r13) (some false) ((Xfg (r6.1,r6.2.1,r6.2.2) 1).bind fun r14=>(Xfz (r7.1,r7.2.1,r7.2.2) r14.1).bind fun r15=>cond (decide (r15.1<0)) (some false) ((Xdv (r8.1,r8.2.1,r8.2.2) (r5.1,r5.2.1,r5.2.2)).bind fun r16=>cond (!r16) (some false) ((Xe2 (r8.1,r8.2.1,r8.2.2) 1).bind fun r17=>(Xeh (r8.1,r17.2.2.1,r8.2.2) 1).bind fun r18=>cond (decide (r18<0)) (some false) (cond (r18 != r17.1) (some false) ((Xhy aD).bind fun r19=>(Xhu aF).bind fun r20=>(Xd6 (r19.1,r19.2.1,r19.2.2) (r20.1,r20.2.1,r20.2.2)).bind fun r21=>(Xdv (r21.1,r21.2.1,r21.2.2) (r5.1,r5.2.1,r5.2.2)).bind fun r22=>cond (!r22) (some false) ((Xeh (r8.1,r17.2.2.1,r8.2.2) 1).bind fun r23=>cond (decide (r23<0)) (some false) (cond (r23 != r17.1) (some false) (some true))))))))))))
namespace Xhc
def G:Gam:=mkG [(7,Zq6.FS),(8,Xje.FS),(10,Xhy.FS),(11,Xhu.FS),(9,Xdr.FS),(12,Xd6.FS),(13,Xdv.FS),(14,Xfc.FS),(15,Xfx.FS),(16,Xfg.FS),(17,Xfz.FS),(18,Xe2.FS),(19,Xeh.FS)]
def pts:List PT:=[.cs Xj,.cs Xn]
def FS:FS:=Ybk [.sh,.sh] pts (fun x=>Xhc x.1 x.2.1) fun t=>⟨[.cs .bool t],[]⟩
theorem ok:Yb2 PR 3 FS:=
 Yxn Xe Xd Proofs.Tryz.f3 ⟨[2,3],[],[],0⟩ .no (G:=G) (show GOk PR G from .cons Zq6.ok (.cons Xje.ok (.cons Xhy.ok (.cons Xhu.ok (.cons Xdr.ok (.cons Xd6.ok (.cons Xdv.ok (.cons Xfc.ok (.cons Xfx.ok (.cons Xfg.ok (.cons Xfz.ok (.cons Xe2.ok (.cons Xeh.ok .nil))))))))))))) (L:=mkL []) (l:=[]) hT
  (fun x=>by simp only[Xhc,mC,mB,mS,mO,mN];kernel_rfl)
end Xhc
end Mf
