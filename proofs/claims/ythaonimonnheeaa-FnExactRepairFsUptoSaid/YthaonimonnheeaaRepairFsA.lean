import Derived.Test.YthaonimonnheeaaMf8
import Derived.Test.YthaonimonnheeaaMf8
import Derived.Test.YthaonimonnheeaaProg
import Derived.KernelRfl
noncomputable section
namespace Mf
open Go
set_option linter.unusedVariables false
set_option linter.unusedSimpArgs false
set_option maxRecDepth 100000
abbrev Xe:Ty:=(.pair .str (.pair (.int .i64) .unit))
abbrev Xc:Type:=(List UInt8)×Int×Unit
def Xh:Xc:=([],0,())
abbrev Xd:Ty:=(.pair (.int .i64) (.pair (.int .i64) (.pair (.int .i64) (.pair (.sl (.int .i64)) (.pair (.sl Xe) .unit)))))
abbrev Xb:Type:=Int×Int×Int×(List Int)×(List Xc)×Unit
def Xa:Xb:=(0,0,0,[],[],())
abbrev Xi:Ty:=(.pair (.sl Xd) (.pair (.sl (.sl (.int .u8))) .unit))
abbrev Fs_:Type:=(List Xb)×(List (List Int))×Unit
def Xjz:Fs_:=([],[],())
abbrev Xl:Ty:=(.pair (.int .i64) (.pair Xi .unit))
abbrev Xv:Type:=Int×Fs_×Unit
def Xhq:Xv:=(0,([],[],()),())
abbrev Xcz:Ty:=(.pair (.int .i64) (.pair (.sl (.int .i64)) .unit))
abbrev Xf4:Type:=Int×(List Int)×Unit
def Xhb:Xf4:=(0,[],())
abbrev Xeq:Ty:=(.pair Xi (.pair (.sl .bool) (.pair (.sl (.sl Xe)) (.pair (.int .i64) (.pair (.sl (.int .i64)) (.pair (.sl (.int .i64)) .unit))))))
abbrev Xfy:Type:=Fs_×(List Bool)×(List (List Xc))×Int×(List Int)×(List Int)×Unit
def Xjs:Xfy:=(([],[],()),[],[],0,[],[],())
abbrev Xcb:Ty:=(.pair (.int .i64) (.pair (.int .i64) (.pair .bool (.pair (.int .u8) .unit))))
abbrev Xfb:Type:=Int×Int×Bool×Int×Unit
def Xg9:Xfb:=(0,0,false,0,())
abbrev X6:Ty:=(.pair .str (.pair (.int .u64) .unit))
abbrev Xb4:Type:=(List UInt8)×Int×Unit
def Xf5:Xb4:=([],0,())
abbrev PR:Program:=Go.Proofs.Try.prog
def tb:Tb:=[(2,⟨.int .i64,(.int .i64),8⟩),(3,⟨.int .i64,(.int .i64),8⟩),(4,⟨.bool,.bool,1⟩),(5,⟨.int .u8,(.int .u8),1⟩),(6,⟨.int .u8,(.int .u8),1⟩),(7,⟨.st [0,1,2,3],Xcb,24⟩),(8,⟨.st [0,1,2,3],Xcb,24⟩),(9,⟨.str,.str,16⟩),(10,⟨.str,.str,16⟩),(11,⟨.str,.str,16⟩),(12,⟨.int .u64,(.int .u64),8⟩),(13,⟨.st [0,1],X6,24⟩),(14,⟨.st [0,1],X6,24⟩),(21,⟨.int .i32,(.int .i32),4⟩),(22,⟨.sl 66,(.sl Xd),24⟩),(23,⟨.sl 68,(.sl (.sl (.int .u8))),24⟩),(24,⟨.st [0,1],Xi,48⟩),(25,⟨.st [0,1],Xi,48⟩),(27,⟨.sl 2,(.sl (.int .i64)),24⟩),(28,⟨.st [0,1],Xcz,32⟩),(29,⟨.st [0,1],Xcz,32⟩),(31,⟨.sl 72,(.sl Xd),24⟩),(32,⟨.st [0,1],Xi,48⟩),(33,⟨.st [0,1],Xi,48⟩),(40,⟨.st [0,1],Xl,56⟩),(41,⟨.st [0,1],Xl,56⟩),(64,⟨.sl 110,(.sl Xe),24⟩),(65,⟨.st [0,1,2,3,4],Xd,72⟩),(66,⟨.st [0,1,2,3,4],Xd,72⟩),(68,⟨.sl 5,(.sl (.int .u8)),24⟩),(70,⟨.sl 91,(.sl Xe),24⟩),(71,⟨.st [0,1,2,3,4],Xd,72⟩),(72,⟨.st [0,1,2,3,4],Xd,72⟩),(73,⟨.sl 4,(.sl .bool),24⟩),(80,⟨.sl 70,(.sl (.sl Xe)),24⟩),(81,⟨.st [0,2,3,4,5,6],Xeq,152⟩),(82,⟨.st [0,2,3,4,5,6],Xeq,152⟩),(84,⟨.arr 20 2,(.arr 20 (.int .i64)),160⟩),(90,⟨.st [0,1],Xe,24⟩),(91,⟨.st [0,1],Xe,24⟩),(110,⟨.st [0,1],Xe,24⟩),(127,⟨.int .u32,(.int .u32),4⟩),(128,⟨.int .u8,(.int .u8),1⟩),(129,⟨.int .u8,(.int .u8),1⟩),(132,⟨.int .i32,(.int .i32),4⟩),(133,⟨.int .i32,(.int .i32),4⟩)]
theorem Xf:Yah Go.Proofs.Try.prog tb:=Yxa (by kernel_rfl)
theorem Xg:Go.Proofs.Try.prog.follows .mixedOrders=true:=by kernel_rfl
def Zq0 (a:List Int) (left:Int):Option Int:=
 cond (decide ((w64 (left-(a.length:Int)))<0)) (some (-1)) (some (w64 (left-(a.length:Int))))
namespace Zq0
def pts:List PT:=[.cs SI,.cs I64]
def FS:FS:=Ybn [.sh,.sh] pts (fun x=>Zq0 x.1 x.2.1) fun t=>⟨[.cs I64 t],[]⟩
theorem ok:Yb5 PR 60 FS:=
 Yxj Xf Xg Proofs.Try.f60 h0 .no (G:=(mkG [])) .nil (L:=mkL []) (l:=[]) hT
  (fun x=>by simp only[Zq0,mC,mB,mS,mO,mN];kernel_rfl)
end Zq0
def Zq1 (a:Xc) (left:Int):Option Int:=
 cond (decide ((w64 (left-(a.1.length:Int)))<0)) (some (-1)) (some (w64 (left-(a.1.length:Int))))
namespace Zq1
def pts:List PT:=[.cs Xe,.cs I64]
def FS:FS:=Ybn [.sh,.sh] pts (fun x=>Zq1 x.1 x.2.1) fun t=>⟨[.cs I64 t],[]⟩
theorem ok:Yb5 PR 79 FS:=
 Yxj Xf Xg Proofs.Try.f79 ⟨[2],[],[],0⟩ .no (G:=(mkG [])) .nil (L:=mkL []) (l:=[]) hT
  (fun x=>by simp only[Zq1,mC,mB,mS,mO,mN];kernel_rfl)
end Zq1
def Zq2.B (a:List Xc) (left_:Int) (i_:Int):Option ((Int×Int)⊕((Int⊕Int))):=
 cond (decide (i_<(a.length:Int))) (cond (inB i_ a.length) ((Zq1 (a.getD i_.toNat Xh) left_).bind fun r=>cond (decide (r<0)) (some (.inr (.inl (-1)))) (some (.inl (r,w64 (i_+1))))) none) (some (.inr (.inr left_)))
def Zq2 (a:List Xc):(Int×Int)→Option ((Int⊕Int)):=
 Y9 fun s=>Zq2.B a s.1 s.2
def Zq3 (a:List Xc) (left:Int):Option Int:=
 cond (decide ((w64 (left-(a.length:Int)))<0)) (some (-1)) ((Zq2 a (w64 (left-(a.length:Int)),0)).bind fun o=>sel o (fun b=>some b) (fun c=>some c))
namespace Zq3
def G:Gam:=mkG [(79,Zq1.FS)]
theorem Gok:GOk PR G:=.cons Zq1.ok .nil
end Zq3
namespace Zq2
def c:=Yap (Yag Proofs.Try.f61) [1,1,1,0,1,0,0]
def sp:SP:=⟨[(0,.cs (.sl Xe)),(1,.cs I64),(5,.cs I64)],[]⟩
def fr:=Yjc sp (fun x s=>Zq2.B x.1.1 s.1 s.2) (fun x=>(x.1.2.1,x.1.2.2.1)) fun x (oo0:(Int⊕Int)) _ kk0=>sel oo0 (fun bb0=>kk0 (.rt) ⟨[(4,.cs I64 bb0)],[]⟩) (fun cc0=>kk0 (.ex 0) ⟨[(1,.cs I64 cc0)],[]⟩)
theorem ok:Ya5 PR 27 2 (.loop c) fr:=
 Ytf Xf Xg h0 .no (G:=Zq3.G) Zq3.Gok (L:=mkL []) (l:=[]) hT [(0,([1],[]))] ([4],[]) (fun x s=>((x.1.1,s.1,s.2,x.1.2.2.2),x.2))
  (fun x s=>by simp only[B,mC,mB,mS,mO,mN];kernel_rfl)
end Zq2
namespace Zq3
def pts:List PT:=[.cs (.sl Xe),.cs I64]
def FS:FS:=Ybn [.sh,.sh] pts (fun x=>Zq3 x.1 x.2.1) fun t=>⟨[.cs I64 t],[]⟩
theorem ok:Yb5 PR 61 FS:=
 Yxj Xf Xg Proofs.Try.f61 h0 (.R (.R (.R (.L (.R (.one (.fr 0))))))) (G:=G) Gok (L:=mkL [(0,Zq2.fr)]) (l:=[(0,.loop Zq2.c)]) ⟨Lam.cons Zq2.ok,trivial⟩
  (fun x=>by simp only[Zq3,mC,mB,mS,mO,mN];kernel_rfl)
end Zq3
def Zq4 (a:Xb) (left:Int):Option Int:=
 (Zq0 a.2.2.2.1 left).bind fun r=>cond (decide (r<0)) (some (-1)) ((Zq3 a.2.2.2.2.1 r).bind fun r2=>cond (decide (r2<0)) (some (-1)) (some r2))
namespace Zq4
def G:Gam:=mkG [(60,Zq0.FS),(61,Zq3.FS)]
def pts:List PT:=[.cs Xd,.cs I64]
def FS:FS:=Ybn [.sh,.sh] pts (fun x=>Zq4 x.1 x.2.1) fun t=>⟨[.cs I64 t],[]⟩
theorem ok:Yb5 PR 37 FS:=
 Yxj Xf Xg Proofs.Try.f37 ⟨[2],[],[],0⟩ .no (G:=G) (show GOk PR G from .cons Zq0.ok (.cons Zq3.ok .nil)) (L:=mkL []) (l:=[]) hT
  (fun x=>by simp only[Zq4,mC,mB,mS,mO,mN];kernel_rfl)
end Zq4
def Zq5.B (a:List Xb) (left_:Int) (i_:Int):Option ((Int×Int)⊕((Int⊕Int))):=
 cond (decide (i_<(a.length:Int))) (cond (inB i_ a.length) ((Zq4 (a.getD i_.toNat Xa) left_).bind fun r=>cond (decide (r<0)) (some (.inr (.inl (-1)))) (some (.inl (r,w64 (i_+1))))) none) (some (.inr (.inr left_)))
def Zq5 (a:List Xb):(Int×Int)→Option ((Int⊕Int)):=
 Y9 fun s=>Zq5.B a s.1 s.2
def Zq6 (a:List Xb) (left:Int):Option Int:=
 cond (decide ((w64 (left-(a.length:Int)))<0)) (some (-1)) ((Zq5 a (w64 (left-(a.length:Int)),0)).bind fun o=>sel o (fun b=>some b) (fun c=>some c))
namespace Zq6
def G:Gam:=mkG [(37,Zq4.FS)]
theorem Gok:GOk PR G:=.cons Zq4.ok .nil
end Zq6
namespace Zq5
def c:=Yap (Yag Proofs.Try.f19) [1,1,1,0,1,0,0]
def sp:SP:=⟨[(0,.cs (.sl Xd)),(1,.cs I64),(5,.cs I64)],[]⟩
def fr:=Yjc sp (fun x s=>Zq5.B x.1.1 s.1 s.2) (fun x=>(x.1.2.1,x.1.2.2.1)) fun x (oo0:(Int⊕Int)) _ kk0=>sel oo0 (fun bb0=>kk0 (.rt) ⟨[(4,.cs I64 bb0)],[]⟩) (fun cc0=>kk0 (.ex 0) ⟨[(1,.cs I64 cc0)],[]⟩)
theorem ok:Ya5 PR 27 2 (.loop c) fr:=
 Ytf Xf Xg h0 .no (G:=Zq6.G) Zq6.Gok (L:=mkL []) (l:=[]) hT [(0,([1],[]))] ([4],[]) (fun x s=>((x.1.1,s.1,s.2,x.1.2.2.2),x.2))
  (fun x s=>by simp only[B,mC,mB,mS,mO,mN];kernel_rfl)
end Zq5
namespace Zq6
def pts:List PT:=[.cs (.sl Xd),.cs I64]
def FS:FS:=Ybn [.sh,.sh] pts (fun x=>Zq6 x.1 x.2.1) fun t=>⟨[.cs I64 t],[]⟩
theorem ok:Yb5 PR 19 FS:=
 Yxj Xf Xg Proofs.Try.f19 h0 (.R (.R (.R (.L (.R (.one (.fr 0))))))) (G:=G) Gok (L:=mkL [(0,Zq5.fr)]) (l:=[(0,.loop Zq5.c)]) ⟨Lam.cons Zq5.ok,trivial⟩
  (fun x=>by simp only[Zq6,mC,mB,mS,mO,mN];kernel_rfl)
end Zq6
def Zq7 (a:List Int) (left:Int):Option Int:=
 cond (decide ((w64 (left-(a.length:Int)))<0)) (some (-1)) (some (w64 (left-(a.length:Int))))
namespace Zq7
def pts:List PT:=[.cs SB,.cs I64]
def FS:FS:=Ybn [.sh,.sh] pts (fun x=>Zq7 x.1 x.2.1) fun t=>⟨[.cs I64 t],[]⟩
theorem ok:Yb5 PR 38 FS:=
 Yxj Xf Xg Proofs.Try.f38 h0 .no (G:=(mkG [])) .nil (L:=mkL []) (l:=[]) hT
  (fun x=>by simp only[Zq7,mC,mB,mS,mO,mN];kernel_rfl)
end Zq7
def Zq8.B (a:List (List Int)) (left_:Int) (i_:Int):Option ((Int×Int)⊕((Int⊕Int))):=
 cond (decide (i_<(a.length:Int))) (cond (inB i_ a.length) ((Zq7 (a.getD i_.toNat []) left_).bind fun r=>cond (decide (r<0)) (some (.inr (.inl (-1)))) (some (.inl (r,w64 (i_+1))))) none) (some (.inr (.inr left_)))
def Zq8 (a:List (List Int)):(Int×Int)→Option ((Int⊕Int)):=
 Y9 fun s=>Zq8.B a s.1 s.2
def Zq9 (a:List (List Int)) (left:Int):Option Int:=
 cond (decide ((w64 (left-(a.length:Int)))<0)) (some (-1)) ((Zq8 a (w64 (left-(a.length:Int)),0)).bind fun o=>sel o (fun b=>some b) (fun c=>some c))
namespace Zq9
def G:Gam:=mkG [(38,Zq7.FS)]
theorem Gok:GOk PR G:=.cons Zq7.ok .nil
end Zq9
namespace Zq8
def c:=Yap (Yag Proofs.Try.f20) [1,1,1,0,1,0,0]
def sp:SP:=⟨[(0,.cs (.sl SB)),(1,.cs I64),(5,.cs I64)],[]⟩
def fr:=Yjc sp (fun x s=>Zq8.B x.1.1 s.1 s.2) (fun x=>(x.1.2.1,x.1.2.2.1)) fun x (oo0:(Int⊕Int)) _ kk0=>sel oo0 (fun bb0=>kk0 (.rt) ⟨[(4,.cs I64 bb0)],[]⟩) (fun cc0=>kk0 (.ex 0) ⟨[(1,.cs I64 cc0)],[]⟩)
theorem ok:Ya5 PR 27 2 (.loop c) fr:=
 Ytf Xf Xg h0 .no (G:=Zq9.G) Zq9.Gok (L:=mkL []) (l:=[]) hT [(0,([1],[]))] ([4],[]) (fun x s=>((x.1.1,s.1,s.2,x.1.2.2.2),x.2))
  (fun x s=>by simp only[B,mC,mB,mS,mO,mN];kernel_rfl)
end Zq8
namespace Zq9
def pts:List PT:=[.cs (.sl SB),.cs I64]
def FS:FS:=Ybn [.sh,.sh] pts (fun x=>Zq9 x.1 x.2.1) fun t=>⟨[.cs I64 t],[]⟩
theorem ok:Yb5 PR 20 FS:=
 Yxj Xf Xg Proofs.Try.f20 h0 (.R (.R (.R (.L (.R (.one (.fr 0))))))) (G:=G) Gok (L:=mkL [(0,Zq8.fr)]) (l:=[(0,.loop Zq8.c)]) ⟨Lam.cons Zq8.ok,trivial⟩
  (fun x=>by simp only[Zq9,mC,mB,mS,mO,mN];kernel_rfl)
end Zq9
def Xfc (a:Fs_) (left:Int):Option Int:=
 (Zq6 a.1 left).bind fun r=>cond (decide (r<0)) (some (-1)) ((Zq9 a.2.1 r).bind fun r2=>cond (decide (r2<0)) (some (-1)) (some r2))
namespace Xfc
def G:Gam:=mkG [(19,Zq6.FS),(20,Zq9.FS)]
def pts:List PT:=[.cs Xi,.cs I64]
def FS:FS:=Ybn [.sh,.sh] pts (fun x=>Xfc x.1 x.2.1) fun t=>⟨[.cs I64 t],[]⟩
theorem ok:Yb5 PR 5 FS:=
 Yxj Xf Xg Proofs.Try.f5 ⟨[2],[],[],0⟩ .no (G:=G) (show GOk PR G from .cons Zq6.ok (.cons Zq9.ok .nil)) (L:=mkL []) (l:=[]) hT
  (fun x=>by simp only[Xfc,mC,mB,mS,mO,mN];kernel_rfl)
end Xfc
def Xdu.B (a:List Int) (i_:Int) (out_:List Int):Option ((Int×List Int)⊕(List Int)):=
 cond (decide (i_<(a.length:Int))) (cond (inB i_ a.length) (cond (inB i_ out_.length) (some (.inl (w64 (i_+1),out_.set i_.toNat (a.getD i_.toNat 0)))) none) none) (some (.inr out_))
def Xdu (a:List Int):(Int×List Int)→Option (List Int):=
 Y9 fun s=>Xdu.B a s.1 s.2
def Xe4 (a:List Int):Option (List Int):=
 cond (decide ((0:Int)≤(a.length:Int))&&(decide ((a.length:Int)≤(a.length:Int))&&decide ((a.length:Int)≤2147483648))) ((Xdu a (0,List.replicate (a.length:Int).toNat 0)).bind fun o=>some o) none
namespace Xdu
def c:=Yap (Yag Proofs.Try.f68) [1,1,0,1,0,0]
def sp:SP:=⟨[(0,.cs SI),(3,.seg 3 []),(4,.cs I64)],[(3,.reg,.cd SI)]⟩
def fr:=Yjc sp (fun x s=>Xdu.B x.1.1 s.1 s.2) (fun x=>(x.1.2.2.1,x.2.1)) fun x (bb0:List Int) _ kk0=>kk0 (.ex 0) ⟨[(3,.seg 3 [])],[sr 3 (.cd SI bb0)]⟩
theorem ok:Ya5 PR 22 1 (.loop c) fr:=
 Yw4 Xf Xg h0 [(0,([3],[3]))] (fun x s=>((x.1.1,x.1.2.1,s.1,x.1.2.2.2),(s.2,x.2.2)))
  (fun x s=>by simp only[B,mC,mB,mS,mO,mN];kernel_rfl)
end Xdu
namespace Xe4
def pts:List PT:=[.cs SI]
def FS:FS:=Ybn [.sh] pts (fun x=>Xe4 x.1) fun t=>⟨[.cd SI t],[]⟩
theorem ok:Yb5 PR 68 FS:=
 Yxj Xf Xg Proofs.Try.f68 h0 (.R (.R (.L (.R (.one (.fr 0)))))) (G:=(mkG [])) .nil (L:=mkL [(0,Xdu.fr)]) (l:=[(0,.loop Xdu.c)]) ⟨Lam.cons Xdu.ok,trivial⟩
  (fun x=>by simp only[Xe4,mC,mB,mS,mO,mN];kernel_rfl)
end Xe4
def Xfp (a:Xc):Option Xc:=
 some (a.1,a.2.1,())
namespace Xfp
def pts:List PT:=[.cs Xe]
def FS:FS:=Ybn [.sh] pts (fun x=>Xfp x.1) fun t=>⟨[.cs Xe t],[]⟩
theorem ok:Yb5 PR 84 FS:=
 Yxj Xf Xg Proofs.Try.f84 ⟨[1],[],[],0⟩ .no (G:=(mkG [])) .nil (L:=mkL []) (l:=[]) hT
  (fun x=>by simp only[Xfp,mC,mB,mS,mO,mN];kernel_rfl)
end Xfp
def Xc6.B (a:List Xc) (i_:Int) (out_:List Xc):Option ((Int×List Xc)⊕(List Xc)):=
 cond (decide (i_<(a.length:Int))) (cond (inB i_ a.length) ((Xfp (a.getD i_.toNat Xh)).bind fun r=>cond (inB i_ out_.length) (some (.inl (w64 (i_+1),out_.set i_.toNat r))) none) none) (some (.inr out_))
def Xc6 (a:List Xc):(Int×List Xc)→Option (List Xc):=
 Y9 fun s=>Xc6.B a s.1 s.2
def Xdp (a:List Xc):Option (List Xc):=
 cond (decide ((0:Int)≤(a.length:Int))&&(decide ((a.length:Int)≤(a.length:Int))&&decide ((a.length:Int)≤2147483648))) ((Xc6 a (0,List.replicate (a.length:Int).toNat Xh)).bind fun o=>some o) none
namespace Xdp
def G:Gam:=mkG [(84,Xfp.FS)]
theorem Gok:GOk PR G:=.cons Xfp.ok .nil
end Xdp
namespace Xc6
def c:=Yap (Yag Proofs.Try.f69) [1,1,0,1,0,0]
def sp:SP:=⟨[(0,.cs (.sl Xe)),(3,.seg 3 []),(4,.cs I64)],[(3,.reg,.cd (.sl Xe))]⟩
def fr:=Yjc sp (fun x s=>Xc6.B x.1.1 s.1 s.2) (fun x=>(x.1.2.2.1,x.2.1)) fun x (bb0:List Xc) _ kk0=>kk0 (.ex 0) ⟨[(3,.seg 3 [])],[sr 3 (.cd (.sl Xe) bb0)]⟩
theorem ok:Ya5 PR 23 1 (.loop c) fr:=
 Yxl Xf Xg h0 (G:=Xdp.G) Xdp.Gok [(0,([3],[3]))] (fun x s=>((x.1.1,x.1.2.1,s.1,x.1.2.2.2),(s.2,x.2.2)))
  (fun x s=>by simp only[B,mC,mB,mS,mO,mN];kernel_rfl)
end Xc6
namespace Xdp
def pts:List PT:=[.cs (.sl Xe)]
def FS:FS:=Ybn [.sh] pts (fun x=>Xdp x.1) fun t=>⟨[.cd (.sl Xe) t],[]⟩
theorem ok:Yb5 PR 69 FS:=
 Yxj Xf Xg Proofs.Try.f69 h0 (.R (.R (.L (.R (.one (.fr 0)))))) (G:=G) Gok (L:=mkL [(0,Xc6.fr)]) (l:=[(0,.loop Xc6.c)]) ⟨Lam.cons Xc6.ok,trivial⟩
  (fun x=>by simp only[Xdp,mC,mB,mS,mO,mN];kernel_rfl)
end Xdp
def Xfj (a:Xb):Option Xb:=
 (Xe4 a.2.2.2.1).bind fun r=>(Xdp a.2.2.2.2.1).bind fun r2=>some (a.1,a.2.1,a.2.2.1,r,r2,())
namespace Xfj
def G:Gam:=mkG [(68,Xe4.FS),(69,Xdp.FS)]
def pts:List PT:=[.cs Xd]
def FS:FS:=Ybn [.sh] pts (fun x=>Xfj x.1) fun t=>⟨[.cd Xd t],[]⟩
theorem ok:Yb5 PR 43 FS:=
 Yxj Xf Xg Proofs.Try.f43 ⟨[1],[],[],0⟩ .no (G:=G) (show GOk PR G from .cons Xe4.ok (.cons Xdp.ok .nil)) (L:=mkL []) (l:=[]) hT
  (fun x=>by simp only[Xfj,mC,mB,mS,mO,mN];kernel_rfl)
end Xfj
def Xdh.B (a:List Xb) (i_:Int) (out_:List Xb):Option ((Int×List Xb)⊕(List Xb)):=
 cond (decide (i_<(a.length:Int))) (cond (inB i_ a.length) ((Xfj (a.getD i_.toNat Xa)).bind fun r=>cond (inB i_ out_.length) ((some (out_.set i_.toNat (r.1,r.2.1,r.2.2.1,r.2.2.2.1,r.2.2.2.2.1,r.2.2.2.2.2))).bind fun out_2=>some (.inl (w64 (i_+1),out_2))) none) none) (some (.inr out_))
def Xdh (a:List Xb):(Int×List Xb)→Option (List Xb):=
 Y9 fun s=>Xdh.B a s.1 s.2
def Xdg (a:List Xb):Option (List Xb):=
 cond (decide ((0:Int)≤(a.length:Int))&&(decide ((a.length:Int)≤(a.length:Int))&&decide ((a.length:Int)≤2147483648))) ((Xdh a (0,List.replicate (a.length:Int).toNat Xa)).bind fun o=>some o) none
namespace Xdg
def G:Gam:=mkG [(43,Xfj.FS)]
theorem Gok:GOk PR G:=.cons Xfj.ok .nil
end Xdg
namespace Xdh
def c:=Yap (Yag Proofs.Try.f23) [1,1,0,1,0,0]
def sp:SP:=⟨[(0,.cs (.sl Xd)),(3,.seg 3 []),(4,.cs I64)],[(3,.reg,.cd (.sl Xd))]⟩
def fr:=Yjc sp (fun x s=>Xdh.B x.1.1 s.1 s.2) (fun x=>(x.1.2.2.1,x.2.1)) fun x (bb0:List Xb) _ kk0=>kk0 (.ex 0) ⟨[(3,.seg 3 [])],[sr 3 (.cd (.sl Xd) bb0)]⟩
theorem ok:Ya5 PR 23 1 (.loop c) fr:=
 Yxl Xf Xg h0 (G:=Xdg.G) Xdg.Gok [(0,([3],[3]))] (fun x s=>((x.1.1,x.1.2.1,s.1,x.1.2.2.2),(s.2,x.2.2)))
  (fun x s=>by simp only[B,mC,mB,mS,mO,mN];kernel_rfl)
end Xdh
namespace Xdg
def pts:List PT:=[.cs (.sl Xd)]
def FS:FS:=Ybn [.sh] pts (fun x=>Xdg x.1) fun t=>⟨[.cd (.sl Xd) t],[]⟩
theorem ok:Yb5 PR 23 FS:=
 Yxj Xf Xg Proofs.Try.f23 h0 (.R (.R (.L (.R (.one (.fr 0)))))) (G:=G) Gok (L:=mkL [(0,Xdh.fr)]) (l:=[(0,.loop Xdh.c)]) ⟨Lam.cons Xdh.ok,trivial⟩
  (fun x=>by simp only[Xdg,mC,mB,mS,mO,mN];kernel_rfl)
end Xdg
def Xc9.B (a:List Int) (i_:Int) (out_:List Int):Option ((Int×List Int)⊕(List Int)):=
 cond (decide (i_<(a.length:Int))) (cond (inB i_ a.length) (cond (inB i_ out_.length) (some (.inl (w64 (i_+1),out_.set i_.toNat (a.getD i_.toNat 0)))) none) none) (some (.inr out_))
def Xc9 (a:List Int):(Int×List Int)→Option (List Int):=
 Y9 fun s=>Xc9.B a s.1 s.2
def Xe7 (a:List Int):Option (List Int):=
 cond (decide ((0:Int)≤(a.length:Int))&&(decide ((a.length:Int)≤(a.length:Int))&&decide ((a.length:Int)≤2147483648))) ((Xc9 a (0,List.replicate (a.length:Int).toNat 0)).bind fun o=>some o) none
namespace Xc9
def c:=Yap (Yag Proofs.Try.f44) [1,1,0,1,0,0]
def sp:SP:=⟨[(0,.cs SB),(3,.seg 3 []),(4,.cs I64)],[(3,.reg,.cd SB)]⟩
def fr:=Yjc sp (fun x s=>Xc9.B x.1.1 s.1 s.2) (fun x=>(x.1.2.2.1,x.2.1)) fun x (bb0:List Int) _ kk0=>kk0 (.ex 0) ⟨[(3,.seg 3 [])],[sr 3 (.cd SB bb0)]⟩
theorem ok:Ya5 PR 22 1 (.loop c) fr:=
 Yw4 Xf Xg h0 [(0,([3],[3]))] (fun x s=>((x.1.1,x.1.2.1,s.1,x.1.2.2.2),(s.2,x.2.2)))
  (fun x s=>by simp only[B,mC,mB,mS,mO,mN];kernel_rfl)
end Xc9
namespace Xe7
def pts:List PT:=[.cs SB]
def FS:FS:=Ybn [.sh] pts (fun x=>Xe7 x.1) fun t=>⟨[.cd SB t],[]⟩
theorem ok:Yb5 PR 44 FS:=
 Yxj Xf Xg Proofs.Try.f44 h0 (.R (.R (.L (.R (.one (.fr 0)))))) (G:=(mkG [])) .nil (L:=mkL [(0,Xc9.fr)]) (l:=[(0,.loop Xc9.c)]) ⟨Lam.cons Xc9.ok,trivial⟩
  (fun x=>by simp only[Xe7,mC,mB,mS,mO,mN];kernel_rfl)
end Xe7
def Xdk.B (a:List (List Int)) (i_:Int) (out_:List (List Int)):Option ((Int×List (List Int))⊕(List (List Int))):=
 cond (decide (i_<(a.length:Int))) (cond (inB i_ a.length) ((Xe7 (a.getD i_.toNat [])).bind fun r=>cond (inB i_ out_.length) (some (.inl (w64 (i_+1),out_.set i_.toNat r))) none) none) (some (.inr out_))
def Xdk (a:List (List Int)):(Int×List (List Int))→Option (List (List Int)):=
 Y9 fun s=>Xdk.B a s.1 s.2
def Xc5 (a:List (List Int)):Option (List (List Int)):=
 cond (decide ((0:Int)≤(a.length:Int))&&(decide ((a.length:Int)≤(a.length:Int))&&decide ((a.length:Int)≤2147483648))) ((some (List.replicate (a.length:Int).toNat ([]:List Int))).bind fun v=>(Xdk a (0,v)).bind fun o=>some o) none
namespace Xc5
def G:Gam:=mkG [(44,Xe7.FS)]
theorem Gok:GOk PR G:=.cons Xe7.ok .nil
end Xc5
namespace Xdk
def c:=Yap (Yag Proofs.Try.f24) [1,1,0,1,0,0]
def sp:SP:=⟨[(0,.cs (.sl SB)),(3,.seg 3 []),(4,.cs I64)],[(3,.reg,.cd (.sl SB))]⟩
def fr:=Yjc sp (fun x s=>Xdk.B x.1.1 s.1 s.2) (fun x=>(x.1.2.2.1,x.2.1)) fun x (bb0:List (List Int)) _ kk0=>kk0 (.ex 0) ⟨[(3,.seg 3 [])],[sr 3 (.cd (.sl SB) bb0)]⟩
theorem ok:Ya5 PR 23 1 (.loop c) fr:=
 Yxl Xf Xg h0 (G:=Xc5.G) Xc5.Gok [(0,([3],[3]))] (fun x s=>((x.1.1,x.1.2.1,s.1,x.1.2.2.2),(s.2,x.2.2)))
  (fun x s=>by simp only[B,mC,mB,mS,mO,mN];kernel_rfl)
end Xdk
namespace Xc5
def pts:List PT:=[.cs (.sl SB)]
def FS:FS:=Ybn [.sh] pts (fun x=>Xc5 x.1) fun t=>⟨[.cd (.sl SB) t],[]⟩
theorem ok:Yb5 PR 24 FS:=
 Yxj Xf Xg Proofs.Try.f24 h0 (.R (.R (.L (.R (.one (.fr 0)))))) (G:=G) Gok (L:=mkL [(0,Xdk.fr)]) (l:=[(0,.loop Xdk.c)]) ⟨Lam.cons Xdk.ok,trivial⟩
  (fun x=>by simp only[Xc5,mC,mB,mS,mO,mN];kernel_rfl)
end Xc5
def Xem (a:Fs_):Option Fs_:=
 (Xdg a.1).bind fun r=>(Xc5 a.2.1).bind fun r2=>some (r,r2,())
namespace Xem
def G:Gam:=mkG [(23,Xdg.FS),(24,Xc5.FS)]
def pts:List PT:=[.cs Xi]
def FS:FS:=Ybn [.sh] pts (fun x=>Xem x.1) fun t=>⟨[.cd Xi t],[]⟩
theorem ok:Yb5 PR 7 FS:=
 Yxj Xf Xg Proofs.Try.f7 ⟨[1],[],[],0⟩ .no (G:=G) (show GOk PR G from .cons Xdg.ok (.cons Xc5.ok .nil)) (L:=mkL []) (l:=[]) hT
  (fun x=>by simp only[Xem,mC,mB,mS,mO,mN];kernel_rfl)
end Xem
def Xau (v:Int) (v2:Int) (v3:Int):Option Bool:=
 some (cond (decide (v≥v2)) (decide (v≤v3)) false)
namespace Xau
def pts:List PT:=[.cs I64,.cs I64,.cs I64]
def FS:FS:=Ybn [.sh,.sh,.sh] pts (fun x=>Xau x.1 x.2.1 x.2.2.1) fun t=>⟨[.cs .bool t],[]⟩
theorem ok:Yb5 PR 80 FS:=
 Yxj Xf Xg Proofs.Try.f80 h0 .no (G:=(mkG [])) .nil (L:=mkL []) (l:=[]) hT
  (fun x=>by simp only[Xau,mC,mB,mS,mO,mN];kernel_rfl)
end Xau
def Xfx (v:Int):Option Bool:=
 (Xau v 0 32).bind fun v2=>some v2
namespace Xfx
def G:Gam:=mkG [(80,Xau.FS)]
def pts:List PT:=[.cs I64]
def FS:FS:=Ybn [.sh] pts (fun x=>Xfx x.1) fun t=>⟨[.cs .bool t],[]⟩
theorem ok:Yb5 PR 90 FS:=
 Yxj Xf Xg Proofs.Try.f90 h0 .no (G:=G) (show GOk PR G from .cons Xau.ok .nil) (L:=mkL []) (l:=[]) hT
  (fun x=>by simp only[Xfx,mC,mB,mS,mO,mN];kernel_rfl)
end Xfx
def Xgb (v:Int):Option Int:=
 cond (!((8:Int) == 0)) (some (w64 ((w64 ((w64 (v+8))-1)).tdiv 8))) none
namespace Xgb
def pts:List PT:=[.cs I64]
def FS:FS:=Ybn [.sh] pts (fun x=>Xgb x.1) fun t=>⟨[.cs I64 t],[]⟩
theorem ok:Yb5 PR 91 FS:=
 Yxj Xf Xg Proofs.Try.f91 h0 .no (G:=(mkG [])) .nil (L:=mkL []) (l:=[]) hT
  (fun x=>by simp only[Xgb,mC,mB,mS,mO,mN];kernel_rfl)
end Xgb
def Xen.B (v:Xb) (v5:Int):Option (Int⊕((Int⊕Unit))):=
 cond (decide (v5<(v.2.2.2.1.length:Int))) (cond (inB v5 v.2.2.2.1.length) ((Xau (v.2.2.2.1.getD v5.toNat 0) 0 19).bind fun v6=>cond (!v6) (some (.inr (.inl 3))) (some (.inl (w64 (v5+1))))) none) (some (.inr (.inr ())))
def Xen (v:Xb):Int→Option ((Int⊕Unit)):=
 Y9 fun s=>Xen.B v s
def Xcu.B (v:Xb) (v10:Int) (v11:Int):Option (Int⊕((Int⊕Unit))):=
 cond (decide (v11<v10)) (cond (inB v11 v.2.2.2.1.length) (cond (inB v10 v.2.2.2.1.length) ((some ((v.2.2.2.1.getD v11.toNat 0) == (v.2.2.2.1.getD v10.toNat 0))).bind fun v12=>cond v12 (some (.inr (.inl 7))) (some (.inl (w64 (v11+1))))) none) none) (some (.inr (.inr ())))
def Xcu (v:Xb) (v10:Int):Int→Option ((Int⊕Unit)):=
 Y9 fun s=>Xcu.B v v10 s
def Xdo.B (v:Xb) (v10:Int):Option (Int⊕((Int⊕Unit))):=
 cond (decide (v10<(v.2.2.2.1.length:Int))) ((Xcu v v10 0).bind fun v13=>sel v13 (fun v14=>some (.inr (.inl v14))) (fun v15=>some (.inl (w64 (v10+1))))) (some (.inr (.inr ())))
def Xdo (v:Xb):Int→Option ((Int⊕Unit)):=
 Y9 fun s=>Xdo.B v s
def Xbv (v:Xb):Option Int:=
 (Xau v.2.1 1 60).bind fun v2=>cond (!v2) (some 3) ((Xfx v.2.2.1).bind fun v3=>cond (!v3) (some 3) ((Xgb v.2.2.1).bind fun v4=>cond ((v.2.2.2.1.length:Int) != v4) (some 1) ((Xen v 0).bind fun v7=>sel v7 (fun v8=>some v8) (fun v9=>(Xdo v 0).bind fun v16=>sel v16 (fun v17=>some v17) (fun v18=>some 0)))))
namespace Xbv
def G:Gam:=mkG [(80,Xau.FS),(90,Xfx.FS),(91,Xgb.FS)]
theorem Gok:GOk PR G:=.cons Xau.ok (.cons Xfx.ok (.cons Xgb.ok .nil))
end Xbv
namespace Xen
def c:=Yap (Yag Proofs.Try.f81) [1,1,1,0,1,0,0]
def sp:SP:=⟨[(0,.pt Xd),(3,.cs I64)],[]⟩
def fr:=Yjc sp (fun x s=>Xen.B x.1.1 s) (fun x=>x.1.2.1) fun x (oo0:(Int⊕Unit)) _ kk0=>sel oo0 (fun bb0=>kk0 (.rt) ⟨[(2,.cs I64 bb0)],[]⟩) (fun cc0=>kk0 (.ex 0) ⟨[(0,.pt Xd x.1.1)],[]⟩)
theorem ok:Ya5 PR 78 1 (.loop c) fr:=
 Ytf Xf Xg h0 .no (G:=Xbv.G) Xbv.Gok (L:=mkL []) (l:=[]) hT [(0,([0],[]))] ([2],[]) (fun x s=>((x.1.1,s,x.1.2.2),x.2))
  (fun x s=>by simp only[B,mC,mB,mS,mO,mN];kernel_rfl)
end Xen
namespace Xcu
def c:=Yap (Yag Proofs.Try.f81) [1,1,1,1,0,1,0,0,1,0,0,1,0,0]
def sp:SP:=⟨[(0,.pt Xd),(4,.cs I64),(5,.cs I64)],[]⟩
def fr:=Yjc sp (fun x s=>Xcu.B x.1.1 x.1.2.1 s) (fun x=>x.1.2.2.1) fun x (oo0:(Int⊕Unit)) _ kk0=>sel oo0 (fun bb0=>kk0 (.rt) ⟨[(2,.cs I64 bb0)],[]⟩) (fun cc0=>kk0 (.ex 4) ⟨[(0,.pt Xd x.1.1),(4,.cs I64 x.1.2.1)],[]⟩)
theorem ok:Ya5 PR 78 1 (.loop c) fr:=
 Ytf Xf Xg h0 .no (G:=Xbv.G) Xbv.Gok (L:=mkL []) (l:=[]) hT [(4,([0,4],[]))] ([2],[]) (fun x s=>((x.1.1,x.1.2.1,s,x.1.2.2.2),x.2))
  (fun x s=>by simp only[B,mC,mB,mS,mO,mN];kernel_rfl)
end Xcu
namespace Xdo
def c:=Yap (Yag Proofs.Try.f81) [1,1,1,1,0,1,0,0]
def sp:SP:=⟨[(0,.pt Xd),(4,.cs I64)],[]⟩
def fr:=Yjc sp (fun x s=>Xdo.B x.1.1 s) (fun x=>x.1.2.1) fun x (oo0:(Int⊕Unit)) _ kk0=>sel oo0 (fun bb0=>kk0 (.rt) ⟨[(2,.cs I64 bb0)],[]⟩) (fun cc0=>kk0 (.ex 2) ⟨[],[]⟩)
theorem ok:Ya5 PR 78 1 (.loop c) fr:=
 Ytf Xf Xg h0 (.R (.L (.one (.R (.one (.fr 2)))))) (G:=Xbv.G) Xbv.Gok (L:=mkL [(2,Xcu.fr)]) (l:=[(2,.loop Xcu.c)]) ⟨Lam.cons Xcu.ok,trivial⟩ [(2,([],[]))] ([2],[]) (fun x s=>((x.1.1,s,x.1.2.2),x.2))
  (fun x s=>by simp only[B,mC,mB,mS,mO,mN];kernel_rfl)
end Xdo
namespace Xbv
def pts:List PT:=[.pt Xd]
def FS:FS:=Ybn [.sh] pts (fun x=>Xbv x.1) fun t=>⟨[.cs I64 t],[]⟩
theorem ok:Yb5 PR 81 FS:=
 Yxj Xf Xg Proofs.Try.f81 h0 (.R (.R (.R (.two (.R (.one (.fr 0))) (.L (.R (.one (.fr 1)))))))) (G:=G) Gok (L:=mkL [(0,Xen.fr),(2,Xcu.fr),(1,Xdo.fr)]) (l:=[(0,.loop Xen.c),(1,.loop Xdo.c)]) ⟨Lam.cons Xen.ok,Lam.skip rfl (Lam.skip rfl (Lam.cons Xdo.ok)),trivial⟩
  (fun x=>by simp only[Xbv,mC,mB,mS,mO,mN];kernel_rfl)
end Xbv
def Xej.B (v:List UInt8) (v2:Int):Option (Int⊕((Int⊕Unit))):=
 cond (decide (v2<(v.length:Int))) (cond (inB v2 v.length) (cond (cond (!(decide (((v.getD v2.toNat 0).toNat:Int)<97))) (inB v2 v.length) true) ((some (cond (decide (((v.getD v2.toNat 0).toNat:Int)<97)) true (decide (((v.getD v2.toNat 0).toNat:Int)>122)))).bind fun v3=>cond v3 (some (.inr (.inl 5))) (some (.inl (w64 (v2+1))))) none) none) (some (.inr (.inr ())))
def Xej (v:List UInt8):Int→Option ((Int⊕Unit)):=
 Y9 fun s=>Xej.B v s
def Xfk (v:List UInt8):Option Int:=
 (Xej v 0).bind fun v4=>sel v4 (fun v5=>some v5) (fun v6=>cond (v == ([]:List UInt8)) (some 5) (cond (decide ((v.length:Int)>4)) (some 2) (some 0)))
namespace Xej
def c:=Yap (Yag Proofs.Try.f92) [1,0,1,0,0]
def sp:SP:=⟨[(0,.cs .str),(3,.cs I64)],[]⟩
def fr:=Yjc sp (fun x s=>Xej.B x.1.1 s) (fun x=>x.1.2.1) fun x (oo0:(Int⊕Unit)) _ kk0=>sel oo0 (fun bb0=>kk0 (.rt) ⟨[(2,.cs I64 bb0)],[]⟩) (fun cc0=>kk0 (.ex 0) ⟨[(0,.cs .str x.1.1)],[]⟩)
theorem ok:Ya5 PR 25 1 (.loop c) fr:=
 Ytf Xf Xg h0 .no (G:=(mkG [])) .nil (L:=mkL []) (l:=[]) hT [(0,([0],[]))] ([2],[]) (fun x s=>((x.1.1,s,x.1.2.2),x.2))
  (fun x s=>by simp only[B,mC,mB,mS,mO,mN];kernel_rfl)
end Xej
namespace Xfk
def pts:List PT:=[.cs .str]
def FS:FS:=Ybn [.sh] pts (fun x=>Xfk x.1) fun t=>⟨[.cs I64 t],[]⟩
theorem ok:Yb5 PR 92 FS:=
 Yxj Xf Xg Proofs.Try.f92 h0 (.R (.L (.R (.one (.fr 0))))) (G:=(mkG [])) .nil (L:=mkL [(0,Xej.fr)]) (l:=[(0,.loop Xej.c)]) ⟨Lam.cons Xej.ok,trivial⟩
  (fun x=>by simp only[Xfk,mC,mB,mS,mO,mN];kernel_rfl)
end Xfk
def Xdj.B (v:Xb) (v2:Int):Option (Int⊕((Int⊕Unit))):=
 cond (decide (v2<(v.2.2.2.2.1.length:Int))) (cond (inB v2 v.2.2.2.2.1.length) ((Xfk (v.2.2.2.2.1.getD v2.toNat Xh).1).bind fun v3=>cond (v3 != 0) (some (.inr (.inl v3))) (cond (inB v2 v.2.2.2.2.1.length) ((Xau (v.2.2.2.2.1.getD v2.toNat Xh).2.1 0 9).bind fun v4=>cond (!v4) (some (.inr (.inl 3))) (cond (cond (decide (v2>0)) (inB v2 v.2.2.2.2.1.length) true) (cond (cond (decide (v2>0)) (inB (w64 (v2-1)) v.2.2.2.2.1.length) true) ((some (cond (decide (v2>0)) (leB (v.2.2.2.2.1.getD v2.toNat Xh).1 (v.2.2.2.2.1.getD (w64 (v2-1)).toNat Xh).1 || (v.2.2.2.2.1.getD v2.toNat Xh).1 == (v.2.2.2.2.1.getD (w64 (v2-1)).toNat Xh).1) false)).bind fun v5=>cond v5 (some (.inr (.inl 1))) (some (.inl (w64 (v2+1))))) none) none)) none)) none) (some (.inr (.inr ())))
def Xdj (v:Xb):Int→Option ((Int⊕Unit)):=
 Y9 fun s=>Xdj.B v s
def Xdv (v:Xb):Option Int:=
 cond (decide ((v.2.2.2.2.1.length:Int)>6)) (some 2) ((Xdj v 0).bind fun v6=>sel v6 (fun v7=>some v7) (fun v8=>some 0))
namespace Xdv
def G:Gam:=mkG [(92,Xfk.FS),(80,Xau.FS)]
theorem Gok:GOk PR G:=.cons Xfk.ok (.cons Xau.ok .nil)
end Xdv
namespace Xdj
def c:=Yap (Yag Proofs.Try.f82) [1,1,0,1,0,0]
def sp:SP:=⟨[(0,.pt Xd),(3,.cs I64)],[]⟩
def fr:=Yjc sp (fun x s=>Xdj.B x.1.1 s) (fun x=>x.1.2.1) fun x (oo0:(Int⊕Unit)) _ kk0=>sel oo0 (fun bb0=>kk0 (.rt) ⟨[(2,.cs I64 bb0)],[]⟩) (fun cc0=>kk0 (.ex 0) ⟨[],[]⟩)
theorem ok:Ya5 PR 64 1 (.loop c) fr:=
 Ytf Xf Xg h0 .no (G:=Xdv.G) Xdv.Gok (L:=mkL []) (l:=[]) hT [(0,([],[]))] ([2],[]) (fun x s=>((x.1.1,s,x.1.2.2),x.2))
  (fun x s=>by simp only[B,mC,mB,mS,mO,mN];kernel_rfl)
end Xdj
namespace Xdv
def pts:List PT:=[.pt Xd]
def FS:FS:=Ybn [.sh] pts (fun x=>Xdv x.1) fun t=>⟨[.cs I64 t],[]⟩
theorem ok:Yb5 PR 82 FS:=
 Yxj Xf Xg Proofs.Try.f82 h0 (.R (.R (.L (.R (.one (.fr 0)))))) (G:=G) Gok (L:=mkL [(0,Xdj.fr)]) (l:=[(0,.loop Xdj.c)]) ⟨Lam.cons Xdj.ok,trivial⟩
  (fun x=>by simp only[Xdv,mC,mB,mS,mO,mN];kernel_rfl)
end Xdv
def Xe3 (v:Xb):Option Int:=
 (Xau v.1 0 2).bind fun v2=>cond (!v2) (some 1) ((some (cond (v.1 != 1) (cond (cond (v.2.1 != 0) true (v.2.2.1 != 0)) true (decide ((v.2.2.2.1.length:Int)>0))) false)).bind fun v3=>(some (cond v3 true (cond (v.1 != 2) (decide ((v.2.2.2.2.1.length:Int)>0)) false))).bind fun v4=>cond v4 (some 1) (cond (v.1 == 1) ((Xbv v).bind fun v5=>some v5) (cond (v.1 == 2) ((Xdv v).bind fun v6=>some v6) (some 0))))
namespace Xe3
def G:Gam:=mkG [(80,Xau.FS),(81,Xbv.FS),(82,Xdv.FS)]
def pts:List PT:=[.pt Xd]
def FS:FS:=Ybn [.sh] pts (fun x=>Xe3 x.1) fun t=>⟨[.cs I64 t],[]⟩
theorem ok:Yb5 PR 62 FS:=
 Yxj Xf Xg Proofs.Try.f62 h0 .no (G:=G) (show GOk PR G from .cons Xau.ok (.cons Xbv.ok (.cons Xdv.ok .nil))) (L:=mkL []) (l:=[]) hT
  (fun x=>by simp only[Xe3,mC,mB,mS,mO,mN];kernel_rfl)
end Xe3
def Xeg.B (v:List Xb) (v2:Int):Option (Int⊕((Int⊕Unit))):=
 cond (decide (v2<(v.length:Int))) (cond (inB v2 v.length) ((Xe3 (v.getD v2.toNat Xa)).bind fun v3=>cond (v3 != 0) (some (.inr (.inl v3))) (some (.inl (w64 (v2+1))))) none) (some (.inr (.inr ())))
def Xeg (v:List Xb):Int→Option ((Int⊕Unit)):=
 Y9 fun s=>Xeg.B v s
def Xc7 (v:List Xb):Option Int:=
 cond (decide ((v.length:Int)>10)) (some 2) ((Xeg v 0).bind fun v4=>sel v4 (fun v5=>some v5) (fun v6=>some 0))
namespace Xc7
def G:Gam:=mkG [(62,Xe3.FS)]
theorem Gok:GOk PR G:=.cons Xe3.ok .nil
end Xc7
namespace Xeg
def c:=Yap (Yag Proofs.Try.f39) [1,1,0,1,0,0]
def sp:SP:=⟨[(0,.cs (.sl Xd)),(3,.cs I64)],[]⟩
def fr:=Yjc sp (fun x s=>Xeg.B x.1.1 s) (fun x=>x.1.2.1) fun x (oo0:(Int⊕Unit)) _ kk0=>sel oo0 (fun bb0=>kk0 (.rt) ⟨[(2,.cs I64 bb0)],[]⟩) (fun cc0=>kk0 (.ex 0) ⟨[],[]⟩)
theorem ok:Ya5 PR 21 1 (.loop c) fr:=
 Ytf Xf Xg h0 .no (G:=Xc7.G) Xc7.Gok (L:=mkL []) (l:=[]) hT [(0,([],[]))] ([2],[]) (fun x s=>((x.1.1,s,x.1.2.2),x.2))
  (fun x s=>by simp only[B,mC,mB,mS,mO,mN];kernel_rfl)
end Xeg
namespace Xc7
def pts:List PT:=[.cs (.sl Xd)]
def FS:FS:=Ybn [.sh] pts (fun x=>Xc7 x.1) fun t=>⟨[.cs I64 t],[]⟩
theorem ok:Yb5 PR 39 FS:=
 Yxj Xf Xg Proofs.Try.f39 h0 (.R (.R (.L (.R (.one (.fr 0)))))) (G:=G) Gok (L:=mkL [(0,Xeg.fr)]) (l:=[(0,.loop Xeg.c)]) ⟨Lam.cons Xeg.ok,trivial⟩
  (fun x=>by simp only[Xc7,mC,mB,mS,mO,mN];kernel_rfl)
end Xc7
def Xe6 (v:Fs_):Option Int:=
 (Xc7 v.1).bind fun v2=>cond (v2 != 0) (some v2) (cond (cond (!((v.1.length:Int) == 0)) (inB 0 v.1.length) true) ((some (cond ((v.1.length:Int) == 0) true ((v.1.getD (0:Int).toNat Xa).1 != 2))).bind fun v3=>cond (cond v3 true ((v.2.1.length:Int) != 20)) (some 1) (some 0)) none)
namespace Xe6
def G:Gam:=mkG [(39,Xc7.FS)]
def pts:List PT:=[.pt Xi]
def FS:FS:=Ybn [.sh] pts (fun x=>Xe6 x.1) fun t=>⟨[.cs I64 t],[]⟩
theorem ok:Yb5 PR 21 FS:=
 Yxj Xf Xg Proofs.Try.f21 h0 .no (G:=G) (show GOk PR G from .cons Xc7.ok .nil) (L:=mkL []) (l:=[]) hT
  (fun x=>by simp only[Xe6,mC,mB,mS,mO,mN];kernel_rfl)
end Xe6
def Xfu (v:List Int):Option (List Int):=
 cond (decide (([]++v).length≤2147483648)) (some ([]++v)) none
namespace Xfu
def pts:List PT:=[.cs SI]
def FS:FS:=Ybn [.sh] pts (fun x=>Xfu x.1) fun t=>⟨[.cd SI t],[]⟩
theorem ok:Yb5 PR 93 FS:=
 Yxj Xf Xg Proofs.Try.f93 h0 .no (G:=(mkG [])) .nil (L:=mkL []) (l:=[]) hT
  (fun x=>by simp only[Xfu,mC,mB,mS,mO,mN];kernel_rfl)
end Xfu
def Xfi (v:Xb):Option Xb:=
 (Xfu v.2.2.2.1).bind fun v2=>cond (decide (([]++v.2.2.2.2.1).length≤2147483648)) (some (v.1,v.2.1,v.2.2.1,v2,[]++v.2.2.2.2.1,v.2.2.2.2.2)) none
namespace Xfi
def G:Gam:=mkG [(93,Xfu.FS)]
def pts:List PT:=[.cs Xd]
def FS:FS:=Ybn [.sh] pts (fun x=>Xfi x.1) fun t=>⟨[.cd Xd t],[]⟩
theorem ok:Yb5 PR 83 FS:=
 Yxj Xf Xg Proofs.Try.f83 h0 .no (G:=G) (show GOk PR G from .cons Xfu.ok .nil) (L:=mkL []) (l:=[]) hT
  (fun x=>by simp only[Xfi,mC,mB,mS,mO,mN];kernel_rfl)
end Xfi
def Xdx.B (v:Fs_) (v3:Fs_) (v2:Int) (v4:Fs_):Option ((Int×Fs_)⊕Fs_):=
 cond (decide (v2<(v.1.length:Int))) (cond (inB v2 v.1.length) ((Xfi (v.1.getD v2.toNat Xa)).bind fun v5=>(some (v4.1++([(v5.1,v5.2.1,v5.2.2.1,v5.2.2.2.1,v5.2.2.2.2.1,v5.2.2.2.2.2)]))).bind fun v6=>cond (decide (v6.length≤2147483648)) (some (.inl (w64 (v2+1),(v6,v4.2)))) none) none) (some (.inr v4))
def Xdx (v:Fs_) (v3:Fs_):(Int×Fs_)→Option Fs_:=
 Y9 fun s=>Xdx.B v v3 s.1 s.2
def Xdb.B (v:Fs_) (v9:Fs_) (v8:Int) (v10:Fs_):Option ((Int×Fs_)⊕Fs_):=
 cond (decide (v8<(v.2.1.length:Int))) (cond (inB v8 v.2.1.length) (cond (decide (([]++(v.2.1.getD v8.toNat [])).length≤2147483648)) (cond (decide ((v10.2.1++([[]++(v.2.1.getD v8.toNat [])])).length≤2147483648)) (some (.inl (w64 (v8+1),(v10.1,v10.2.1++([[]++(v.2.1.getD v8.toNat [])]),v10.2.2)))) none) none) none) (some (.inr v10))
def Xdb (v:Fs_) (v9:Fs_):(Int×Fs_)→Option Fs_:=
 Y9 fun s=>Xdb.B v v9 s.1 s.2
def Xch (v:Fs_):Option Fs_:=
 (Xdx v ([],[],()) (0,([],[],()))).bind fun v7=>(Xdb v ([],[],()) (0,v7)).bind fun v11=>some (v11.1,v11.2.1,v11.2.2)
namespace Xch
def G:Gam:=mkG [(83,Xfi.FS)]
theorem Gok:GOk PR G:=.cons Xfi.ok .nil
end Xch
namespace Xdx
def c:=Yap (Yag Proofs.Try.f63) [1,1,0,1,0,0]
def sp:SP:=⟨[(1,.pt Xi),(2,.loc 2 []),(3,.loc 3 []),(4,.cs I64)],[(2,.mem,.cd Xi),(3,.mem,.cd Xi)]⟩
def fr:=Yjc sp (fun x s=>Xdx.B x.1.1 x.2.1 s.1 s.2) (fun x=>(x.1.2.2.2.1,x.2.2.1)) fun x (bb0:Fs_) _ kk0=>kk0 (.ex 0) ⟨[(1,.pt Xi x.1.1),(2,.loc 2 []),(3,.loc 3 [])],[(2,some ⟨.mem,.cd Xi x.2.1⟩),(3,some ⟨.mem,.cd Xi bb0⟩)]⟩
theorem ok:Ya5 PR 45 1 (.loop c) fr:=
 Yxl Xf Xg ⟨[1],[],[],0⟩ (G:=Xch.G) Xch.Gok [(0,([1,2,3],[2,3]))] (fun x s=>((x.1.1,x.1.2.1,x.1.2.2.1,s.1,x.1.2.2.2.2),(x.2.1,s.2,x.2.2.2)))
  (fun x s=>by simp only[B,mC,mB,mS,mO,mN];kernel_rfl)
end Xdx
namespace Xdb
def c:=Yap (Yag Proofs.Try.f63) [1,1,1,0,1,0,0]
def sp:SP:=⟨[(1,.pt Xi),(2,.loc 2 []),(3,.loc 3 []),(5,.cs I64)],[(2,.mem,.cd Xi),(3,.mem,.cd Xi)]⟩
def fr:=Yjc sp (fun x s=>Xdb.B x.1.1 x.2.1 s.1 s.2) (fun x=>(x.1.2.2.2.1,x.2.2.1)) fun x (bb0:Fs_) _ kk0=>kk0 (.ex 2) ⟨[(2,.loc 2 []),(3,.loc 3 [])],[(2,some ⟨.mem,.cd Xi x.2.1⟩),(3,some ⟨.mem,.cd Xi bb0⟩)]⟩
theorem ok:Ya5 PR 45 1 (.loop c) fr:=
 Yxl Xf Xg ⟨[1],[],[],0⟩ (G:=Xch.G) Xch.Gok [(2,([2,3],[2,3]))] (fun x s=>((x.1.1,x.1.2.1,x.1.2.2.1,s.1,x.1.2.2.2.2),(x.2.1,s.2,x.2.2.2)))
  (fun x s=>by simp only[B,mC,mB,mS,mO,mN];kernel_rfl)
end Xdb
namespace Xch
def pts:List PT:=[.cs Xi]
def FS:FS:=Ybn [.sh] pts (fun x=>Xch x.1) fun t=>⟨[.cd Xi t],[]⟩
theorem ok:Yb5 PR 63 FS:=
 Yxj Xf Xg Proofs.Try.f63 ⟨[1],[],[],0⟩ (.R (.R (.two (.R (.one (.fr 0))) (.L (.R (.one (.fr 1))))))) (G:=G) Gok (L:=mkL [(0,Xdx.fr),(1,Xdb.fr)]) (l:=[(0,.loop Xdx.c),(1,.loop Xdb.c)]) ⟨Lam.cons Xdx.ok,Lam.skip rfl (Lam.cons Xdb.ok),trivial⟩
  (fun x=>by simp only[Xch,mC,mB,mS,mO,mN];kernel_rfl)
end Xch
def Xfn (v:Fs_) (v2:Int):Option Bool:=
 (Xau v2 0 (w64 ((v.1.length:Int)-1))).bind fun v3=>some v3
namespace Xfn
def G:Gam:=mkG [(80,Xau.FS)]
def pts:List PT:=[.pt Xi,.cs I64]
def FS:FS:=Ybn [.sh,.sh] pts (fun x=>Xfn x.1 x.2.1) fun t=>⟨[.cs .bool t],[]⟩
theorem ok:Yb5 PR 64 FS:=
 Yxj Xf Xg Proofs.Try.f64 h0 .no (G:=G) (show GOk PR G from .cons Xau.ok .nil) (L:=mkL []) (l:=[]) hT
  (fun x=>by simp only[Xfn,mC,mB,mS,mO,mN];kernel_rfl)
end Xfn
def Xck.B (v:Fs_) (v12:Int) (v10:List Xc) (v5:Fs_) (v6:Fs_) (v11:Int) (v13:Int) (v14:List Bool) (v15:List Int) (v16:List Xc):Option ((Int×Int×(List Bool)×(List Int)×List Xc)⊕(Int×(List Bool)×(List Int)×List Xc)):=
 cond (decide (v13<(v10.length:Int))) (cond (inB v13 v10.length) ((Xfn v (v10.getD v13.toNat Xh).2.1).bind fun v17=>cond (cond (!(!v17)) (inB (v10.getD v13.toNat Xh).2.1 v.1.length) true) ((some (cond (!v17) true ((v.1.getD (v10.getD v13.toNat Xh).2.1.toNat Xa).1 == 0))).bind fun v18=>cond (cond (!v18) (inB (v10.getD v13.toNat Xh).2.1 v.1.length) true) (cond (cond ((!v18)&&((v.1.getD (v10.getD v13.toNat Xh).2.1.toNat Xa).1 == 2)) (inB (v10.getD v13.toNat Xh).2.1 v14.length) true) ((some (cond v18 true (cond ((v.1.getD (v10.getD v13.toNat Xh).2.1.toNat Xa).1 == 2) (v14.getD ((v10.getD v13.toNat Xh).2.1.toNat) false) false))).bind fun v19=>cond v19 (some (.inl (w64 (v11+1),w64 (v13+1),v14,v15,v16))) (cond (inB (v10.getD v13.toNat Xh).2.1 v.1.length) ((some (v.1.getD (v10.getD v13.toNat Xh).2.1.toNat Xa).1).bind fun v20=>cond (v20 == 2) (cond (decide ((v15++([(v10.getD v13.toNat Xh).2.1])).length≤2147483648)) (cond (inB (v10.getD v13.toNat Xh).2.1 v14.length) ((some (v14.set ((v10.getD v13.toNat Xh).2.1.toNat) true)).bind fun v21=>cond (inB v13 v10.length) (cond (decide ((v16++([v10.getD v13.toNat Xh])).length≤2147483648)) (some (.inl (v11,w64 (v13+1),v21,v15++([(v10.getD v13.toNat Xh).2.1]),v16++([v10.getD v13.toNat Xh])))) none) none) none) none) (cond (inB (v10.getD v13.toNat Xh).2.1 v14.length) ((some (v14.set ((v10.getD v13.toNat Xh).2.1.toNat) true)).bind fun v22=>cond (inB v13 v10.length) (cond (decide ((v16++([v10.getD v13.toNat Xh])).length≤2147483648)) (some (.inl (v11,w64 (v13+1),v22,v15,v16++([v10.getD v13.toNat Xh])))) none) none) none)) none)) none) none) none) none) (some (.inr (v11,v14,v15,v16)))
def Xck (v:Fs_) (v12:Int) (v10:List Xc) (v5:Fs_) (v6:Fs_):(Int×Int×(List Bool)×(List Int)×List Xc)→Option (Int×(List Bool)×(List Int)×List Xc):=
 Y9 fun s=>Xck.B v v12 v10 v5 v6 s.1 s.2.1 s.2.2.1 s.2.2.2.1 s.2.2.2.2
def Xdy.B (v:Fs_) (v5:Fs_) (v4:Int) (v6:Fs_) (v7:List Bool) (v8:List Int):Option ((Int×Fs_×(List Bool)×List Int)⊕(Int×Fs_×List Bool)):=
 cond (decide ((v8.length:Int)>0)) (cond (inB 0 v8.length) (cond (decide ((0:Int)≤(1:Int))&&decide ((1:Int)≤(v8.length:Int))) ((some ((v8.drop ((1:Int).toNat)).take (v8.length-((1:Int).toNat)))).bind fun v9=>cond (inB (v8.getD ((0:Int).toNat) 0) v.1.length) ((some (v.1.getD (v8.getD ((0:Int).toNat) 0).toNat Xa).2.2.2.2.1).bind fun v10=>(Xck v (v8.getD ((0:Int).toNat) 0) v10 v5 v6 (v4,0,v7,v9,[])).bind fun v23=>cond (inB (v8.getD ((0:Int).toNat) 0) v6.1.length) ((some (v6.1.set ((v8.getD ((0:Int).toNat) 0).toNat) ((v6.1.getD ((v8.getD ((0:Int).toNat) 0).toNat) Xa).1,(v6.1.getD ((v8.getD ((0:Int).toNat) 0).toNat) Xa).2.1,(v6.1.getD ((v8.getD ((0:Int).toNat) 0).toNat) Xa).2.2.1,(v6.1.getD ((v8.getD ((0:Int).toNat) 0).toNat) Xa).2.2.2.1,v23.2.2.2,(v6.1.getD ((v8.getD ((0:Int).toNat) 0).toNat) Xa).2.2.2.2.2))).bind fun v24=>some (.inl (v23.1,(v24,v6.2),v23.2.1,v23.2.2.1))) none) none) none) none) (some (.inr (v4,v6,v7)))
def Xdy (v:Fs_) (v5:Fs_):(Int×Fs_×(List Bool)×List Int)→Option (Int×Fs_×List Bool):=
 Y9 fun s=>Xdy.B v v5 s.1 s.2.1 s.2.2.1 s.2.2.2
def Xcj (v:Fs_):Option (Fs_×(List Bool)×Int):=
 (Xch v).bind fun v2=>cond (decide ((0:Int)≤(v.1.length:Int))&&(decide ((v.1.length:Int)≤(v.1.length:Int))&&decide ((v.1.length:Int)≤2147483648))) (cond (inB 0 ((List.replicate (v.1.length:Int).toNat false).length)) ((some ((List.replicate (v.1.length:Int).toNat false).set ((0:Int).toNat) true)).bind fun v3=>(Xdy v ([],[],()) (0,(v2.1,v2.2.1,v2.2.2),v3,[0])).bind fun v25=>some ((v25.2.1.1,v25.2.1.2.1,v25.2.1.2.2),v25.2.2,v25.1)) none) none
namespace Xcj
def G:Gam:=mkG [(63,Xch.FS),(64,Xfn.FS)]
theorem Gok:GOk PR G:=.cons Xch.ok (.cons Xfn.ok .nil)
end Xcj
namespace Xck
def c:=Yap (Yag Proofs.Try.f40) [1,1,1,1,1,1,0,0,0,1,0,1,1,1,1,0,1,0,0]
def sp:SP:=⟨[(0,.pt Xi),(2,.loc 2 []),(5,.loc 5 []),(6,.seg 6 []),(7,.cs I64),(8,.seg 8 []),(9,.cs I64),(10,.seg 10 []),(11,.cs (.sl Xe)),(12,.cs I64)],[(2,.mem,.cd Xi),(5,.mem,.cd Xi),(6,.reg,.cd (.sl .bool)),(8,.reg,.cd SI),(10,.reg,.cd (.sl Xe))]⟩
def fr:=Yjc sp (fun x s=>Xck.B x.1.1 x.1.2.2.2.2.2.2.1 x.1.2.2.2.2.2.2.2.2.1 x.2.1 x.2.2.1 s.1 s.2.1 s.2.2.1 s.2.2.2.1 s.2.2.2.2) (fun x=>(x.1.2.2.2.2.1,x.1.2.2.2.2.2.2.2.2.2.1,x.2.2.2.1,x.2.2.2.2.1,x.2.2.2.2.2.1)) fun x (bb0:Int×(List Bool)×(List Int)×List Xc) _ kk0=>kk0 (.ex 2) ⟨[(0,.pt Xi x.1.1),(2,.loc 2 []),(5,.loc 5 []),(6,.seg 6 []),(7,.cs I64 bb0.1),(8,.seg 8 []),(9,.cs I64 x.1.2.2.2.2.2.2.1),(10,.seg 10 [])],[(2,some ⟨.mem,.cd Xi x.2.1⟩),(5,some ⟨.mem,.cd Xi x.2.2.1⟩),sr 6 (.cd (.sl .bool) bb0.2.1),sr 8 (.cd SI bb0.2.2.1),sr 10 (.cd (.sl Xe) bb0.2.2.2)]⟩
theorem ok:Ya5 PR 123 1 (.loop c) fr:=
 Yxl Xf Xg h0 (G:=Xcj.G) Xcj.Gok [(2,([0,2,5,6,7,8,9,10],[2,5,6,8,10]))] (fun x s=>((x.1.1,x.1.2.1,x.1.2.2.1,x.1.2.2.2.1,s.1,x.1.2.2.2.2.2.1,x.1.2.2.2.2.2.2.1,x.1.2.2.2.2.2.2.2.1,x.1.2.2.2.2.2.2.2.2.1,s.2.1,x.1.2.2.2.2.2.2.2.2.2.2),(x.2.1,x.2.2.1,s.2.2.1,s.2.2.2.1,s.2.2.2.2,x.2.2.2.2.2.2)))
  (fun x s=>by simp only[B,mC,mB,mS,mO,mN];kernel_rfl)
end Xck
namespace Xdy
def c:=Yap (Yag Proofs.Try.f40) [1,1,1,1,1,1,0,0,0]
def sp:SP:=⟨[(0,.pt Xi),(2,.loc 2 []),(5,.loc 5 []),(6,.seg 6 []),(7,.cs I64),(8,.seg 8 [])],[(2,.mem,.cd Xi),(5,.mem,.cd Xi),(6,.reg,.cd (.sl .bool)),(8,.reg,.cd SI)]⟩
def fr:=Yjc sp (fun x s=>Xdy.B x.1.1 x.2.1 s.1 s.2.1 s.2.2.1 s.2.2.2) (fun x=>(x.1.2.2.2.2.1,x.2.2.1,x.2.2.2.1,x.2.2.2.2.1)) fun x (bb0:Int×Fs_×List Bool) _ kk0=>kk0 (.ex 0) ⟨[(2,.loc 2 []),(5,.loc 5 []),(6,.seg 6 []),(7,.cs I64 bb0.1)],[(2,some ⟨.mem,.cd Xi x.2.1⟩),(5,some ⟨.mem,.cd Xi bb0.2.1⟩),sr 6 (.cd (.sl .bool) bb0.2.2)]⟩
theorem ok:Ya5 PR 123 1 (.loop c) fr:=
 Yxn Xf Xg h0 (.R (.one (.R (.R (.R (.R (.L (.R (.one (.fr 1)))))))))) (G:=Xcj.G) Xcj.Gok (L:=mkL [(1,Xck.fr)]) (l:=[(1,.loop Xck.c)]) ⟨Lam.cons Xck.ok,trivial⟩ [(0,([2,5,6,7],[2,5,6]))] (fun x s=>((x.1.1,x.1.2.1,x.1.2.2.1,x.1.2.2.2.1,s.1,x.1.2.2.2.2.2),(x.2.1,s.2.1,s.2.2.1,s.2.2.2,x.2.2.2.2.2)))
  (fun x s=>by simp only[B,mC,mB,mS,mO,mN];kernel_rfl)
end Xdy
namespace Xcj
def pts:List PT:=[.pt Xi]
def FS:FS:=Ybn [.sh] pts (fun x=>Xcj x.1) fun t=>⟨[.cd Xi t.1,.cd (.sl .bool) t.2.1,.cs I64 t.2.2],[]⟩
theorem ok:Yb5 PR 40 FS:=
 Yxj Xf Xg Proofs.Try.f40 h0 (.R (.R (.R (.R (.R (.R (.L (.one (.fr 0))))))))) (G:=G) Gok (L:=mkL [(1,Xck.fr),(0,Xdy.fr)]) (l:=[(0,.loop Xdy.c)]) ⟨Lam.skip rfl (Lam.cons Xdy.ok),trivial⟩
  (fun x=>by simp only[Xcj,mC,mB,mS,mO,mN];kernel_rfl)
end Xcj
def Xcy.B (v:List Xb) (v2:Int) (v4:Int) (v5:Int) (v6:Int):Option ((Int×Int)⊕Int):=
 cond (inB v4 v.length) ((some ((v.getD v4.toNat Xa).2.2.2.1.length:Int)).bind fun v7=>cond (decide (v6<v7)) (cond (inB v4 v.length) (cond (inB v6 ((v.getD v4.toNat Xa).2.2.2.1.length)) ((some ((v.getD v4.toNat Xa).2.2.2.1.getD v6.toNat 0)).bind fun v8=>cond (v8 == v2) (some (.inl (w64 (v5+1),w64 (v6+1)))) (some (.inl (v5,w64 (v6+1))))) none) none) (some (.inr v5))) none
def Xcy (v:List Xb) (v2:Int) (v4:Int):(Int×Int)→Option Int:=
 Y9 fun s=>Xcy.B v v2 v4 s.1 s.2
def Xdd.B (v:List Xb) (v2:Int) (v3:Int) (v4:Int):Option ((Int×Int)⊕Int):=
 cond (decide (v4<(v.length:Int))) ((Xcy v v2 v4 (v3,0)).bind fun v9=>some (.inl (v9,w64 (v4+1)))) (some (.inr v3))
def Xdd (v:List Xb) (v2:Int):(Int×Int)→Option Int:=
 Y9 fun s=>Xdd.B v v2 s.1 s.2
def Xe1 (v:List Xb) (v2:Int):Option Int:=
 (Xdd v v2 (0,0)).bind fun v10=>some v10
namespace Xcy
def c:=Yap (Yag Proofs.Try.f65) [1,1,0,1,0,0,1,0,0,1,0,0]
def sp:SP:=⟨[(0,.cs (.sl Xd)),(1,.cs I64),(5,.cs I64),(6,.cs I64),(7,.cs I64)],[]⟩
def fr:=Yjc sp (fun x s=>Xcy.B x.1.1 x.1.2.1 x.1.2.2.2.1 s.1 s.2) (fun x=>(x.1.2.2.1,x.1.2.2.2.2.1)) fun x (bb0:Int) _ kk0=>kk0 (.ex 2) ⟨[(0,.cs (.sl Xd) x.1.1),(1,.cs I64 x.1.2.1),(5,.cs I64 bb0),(6,.cs I64 x.1.2.2.2.1)],[]⟩
theorem ok:Ya5 PR 37 2 (.loop c) fr:=
 Yw4 Xf Xg h0 [(2,([0,1,5,6],[]))] (fun x s=>((x.1.1,x.1.2.1,s.1,x.1.2.2.2.1,s.2,x.1.2.2.2.2.2),x.2))
  (fun x s=>by simp only[B,mC,mB,mS,mO,mN];kernel_rfl)
end Xcy
namespace Xdd
def c:=Yap (Yag Proofs.Try.f65) [1,1,0,1,0,0]
def sp:SP:=⟨[(0,.cs (.sl Xd)),(1,.cs I64),(5,.cs I64),(6,.cs I64)],[]⟩
def fr:=Yjc sp (fun x s=>Xdd.B x.1.1 x.1.2.1 s.1 s.2) (fun x=>(x.1.2.2.1,x.1.2.2.2.1)) fun x (bb0:Int) _ kk0=>kk0 (.ex 0) ⟨[(5,.cs I64 bb0)],[]⟩
theorem ok:Ya5 PR 37 2 (.loop c) fr:=
 Yxk Xf Xg h0 (.R (.L (.one (.R (.one (.fr 1)))))) (L:=mkL [(1,Xcy.fr)]) (l:=[(1,.loop Xcy.c)]) ⟨Lam.cons Xcy.ok,trivial⟩ [(0,([5],[]))] (fun x s=>((x.1.1,x.1.2.1,s.1,s.2,x.1.2.2.2.2),x.2))
  (fun x s=>by simp only[B,mC,mB,mS,mO,mN];kernel_rfl)
end Xdd
namespace Xe1
def pts:List PT:=[.cs (.sl Xd),.cs I64]
def FS:FS:=Ybn [.sh,.sh] pts (fun x=>Xe1 x.1 x.2.1) fun t=>⟨[.cs I64 t],[]⟩
theorem ok:Yb5 PR 65 FS:=
 Yxj Xf Xg Proofs.Try.f65 h0 (.R (.R (.L (.R (.one (.fr 0)))))) (G:=(mkG [])) .nil (L:=mkL [(1,Xcy.fr),(0,Xdd.fr)]) (l:=[(0,.loop Xdd.c)]) ⟨Lam.skip rfl (Lam.cons Xdd.ok),trivial⟩
  (fun x=>by simp only[Xe1,mC,mB,mS,mO,mN];kernel_rfl)
end Xe1
def Xef (v:Int) (v2:Int):Option Int:=
 cond (decide (v<v2)) (some v) (some v2)
namespace Xef
def pts:List PT:=[.cs I64,.cs I64]
def FS:FS:=Ybn [.sh,.sh] pts (fun x=>Xef x.1 x.2.1) fun t=>⟨[.cs I64 t],[]⟩
theorem ok:Yb5 PR 66 FS:=
 Yxj Xf Xg Proofs.Try.f66 h0 .no (G:=(mkG [])) .nil (L:=mkL []) (l:=[]) hT
  (fun x=>by simp only[Xef,mC,mB,mS,mO,mN];kernel_rfl)
end Xef
def Xc2.B (v:List Xb) (v2:Int) (v4:Int) (v5:Int) (v6:Int):Option ((Int×Int)⊕Int):=
 cond (inB v4 v.length) ((some ((v.getD v4.toNat Xa).2.2.2.2.1.length:Int)).bind fun v7=>cond (decide (v6<v7)) (cond (inB v4 v.length) (cond (inB v6 ((v.getD v4.toNat Xa).2.2.2.2.1.length)) ((some ((v.getD v4.toNat Xa).2.2.2.2.1.getD v6.toNat Xh).2.1).bind fun v8=>cond (v8 == v2) (some (.inl (w64 (v5+1),w64 (v6+1)))) (some (.inl (v5,w64 (v6+1))))) none) none) (some (.inr v5))) none
def Xc2 (v:List Xb) (v2:Int) (v4:Int):(Int×Int)→Option Int:=
 Y9 fun s=>Xc2.B v v2 v4 s.1 s.2
def Xd0.B (v:List Xb) (v2:Int) (v3:Int) (v4:Int):Option ((Int×Int)⊕Int):=
 cond (decide (v4<(v.length:Int))) ((Xc2 v v2 v4 (v3,0)).bind fun v9=>some (.inl (v9,w64 (v4+1)))) (some (.inr v3))
def Xd0 (v:List Xb) (v2:Int):(Int×Int)→Option Int:=
 Y9 fun s=>Xd0.B v v2 s.1 s.2
def Xeu (v:List Xb) (v2:Int):Option Int:=
 (Xd0 v v2 (0,0)).bind fun v10=>some v10
namespace Xc2
def c:=Yap (Yag Proofs.Try.f67) [1,1,0,1,0,0,1,0,0,1,0,0]
def sp:SP:=⟨[(0,.cs (.sl Xd)),(1,.cs I64),(5,.cs I64),(6,.cs I64),(7,.cs I64)],[]⟩
def fr:=Yjc sp (fun x s=>Xc2.B x.1.1 x.1.2.1 x.1.2.2.2.1 s.1 s.2) (fun x=>(x.1.2.2.1,x.1.2.2.2.2.1)) fun x (bb0:Int) _ kk0=>kk0 (.ex 2) ⟨[(0,.cs (.sl Xd) x.1.1),(1,.cs I64 x.1.2.1),(5,.cs I64 bb0),(6,.cs I64 x.1.2.2.2.1)],[]⟩
theorem ok:Ya5 PR 38 2 (.loop c) fr:=
 Yw4 Xf Xg h0 [(2,([0,1,5,6],[]))] (fun x s=>((x.1.1,x.1.2.1,s.1,x.1.2.2.2.1,s.2,x.1.2.2.2.2.2),x.2))
  (fun x s=>by simp only[B,mC,mB,mS,mO,mN];kernel_rfl)
end Xc2
namespace Xd0
def c:=Yap (Yag Proofs.Try.f67) [1,1,0,1,0,0]
def sp:SP:=⟨[(0,.cs (.sl Xd)),(1,.cs I64),(5,.cs I64),(6,.cs I64)],[]⟩
def fr:=Yjc sp (fun x s=>Xd0.B x.1.1 x.1.2.1 s.1 s.2) (fun x=>(x.1.2.2.1,x.1.2.2.2.1)) fun x (bb0:Int) _ kk0=>kk0 (.ex 0) ⟨[(5,.cs I64 bb0)],[]⟩
theorem ok:Ya5 PR 38 2 (.loop c) fr:=
 Yxk Xf Xg h0 (.R (.L (.one (.R (.one (.fr 1)))))) (L:=mkL [(1,Xc2.fr)]) (l:=[(1,.loop Xc2.c)]) ⟨Lam.cons Xc2.ok,trivial⟩ [(0,([5],[]))] (fun x s=>((x.1.1,x.1.2.1,s.1,s.2,x.1.2.2.2.2),x.2))
  (fun x s=>by simp only[B,mC,mB,mS,mO,mN];kernel_rfl)
end Xd0
namespace Xeu
def pts:List PT:=[.cs (.sl Xd),.cs I64]
def FS:FS:=Ybn [.sh,.sh] pts (fun x=>Xeu x.1 x.2.1) fun t=>⟨[.cs I64 t],[]⟩
theorem ok:Yb5 PR 67 FS:=
 Yxj Xf Xg Proofs.Try.f67 h0 (.R (.R (.L (.R (.one (.fr 0)))))) (G:=(mkG [])) .nil (L:=mkL [(1,Xc2.fr),(0,Xd0.fr)]) (l:=[(0,.loop Xd0.c)]) ⟨Lam.skip rfl (Lam.cons Xd0.ok),trivial⟩
  (fun x=>by simp only[Xeu,mC,mB,mS,mO,mN];kernel_rfl)
end Xeu
def Xdm.B (v2:List Bool) (v4:Int) (v5:Int) (v3:Int) (v6:Int) (v7:Fs_):Option ((Int×Int×Fs_)⊕(Int×Fs_)):=
 cond (decide (v6<(v7.1.length:Int))) (cond (inB v6 v2.length) (cond (cond (!(v2.getD v6.toNat false)) (inB v6 v7.1.length) true) ((some (cond (!(v2.getD v6.toNat false)) ((v7.1.getD v6.toNat Xa).1 != 0) false)).bind fun v8=>cond v8 (cond (inB v6 v7.1.length) (some (.inl (w64 (v3+1),w64 (v6+1),(v7.1.set v6.toNat (0,0,0,[],[],()),v7.2)))) none) (some (.inl (v3,w64 (v6+1),v7)))) none) none) (some (.inr (v3,v7)))
def Xdm (v2:List Bool) (v4:Int) (v5:Int):(Int×Int×Fs_)→Option (Int×Fs_):=
 Y9 fun s=>Xdm.B v2 v4 v5 s.1 s.2.1 s.2.2
def Xci.B (v10:Int) (v11:Int) (v12:Int) (v13:Int) (v15:Nat) (v14:Fs_) (v16:Int):Option (Int⊕Int):=
 (some ((v14.1.getD v15 Xa).2.2.2.1.length:Int)).bind fun v17=>cond (decide (v16<v17)) (cond (decide ((0:Int)≤v13)&&decide (v13≤(v14.1.length:Int))) (cond (inB v16 ((v14.1.getD v15 Xa).2.2.2.1.length)) ((some ((v14.1.getD v15 Xa).2.2.2.1.getD v16.toNat 0)).bind fun v18=>(Xe1 ((v14.1.drop 0).take (v13.toNat-0)) v18).bind fun v19=>cond (v19 == 0) (some (.inl (w64 (v16+1)))) (some (.inr v16))) none) none) (some (.inr v16))
def Xci (v10:Int) (v11:Int) (v12:Int) (v13:Int) (v15:Nat) (v14:Fs_):Int→Option Int:=
 Y9 fun s=>Xci.B v10 v11 v12 v13 v15 v14 s
def Xde.B (v10:Int) (v11:Int) (v12:Int) (v13:Int) (v14:Fs_):Option ((Int×Int×Int×Fs_)⊕(Int×Int×Fs_)):=
 cond (decide (v13<(v14.1.length:Int))) (cond (inB v13 v14.1.length) (cond ((v14.1.getD v13.toNat Xa).1 != 1) (some (.inl (v11,v12,w64 (v13+1),v14))) ((Xci v10 v11 v12 v13 v13.toNat v14 0).bind fun v20=>(some ((v14.1.getD v13.toNat Xa).2.2.2.1.length:Int)).bind fun v21=>cond (decide ((0:Int)≤v20)&&decide (v20≤((v14.1.getD v13.toNat Xa).2.2.2.1.length:Int))) (cond (Nat.beq v13.toNat v13.toNat&&true) ((some (((v14.1.getD v13.toNat Xa).2.2.2.1.drop 0).take (v20.toNat-0))).bind fun v22=>(some (v14.1.set v13.toNat ((v14.1.getD v13.toNat Xa).1,(v14.1.getD v13.toNat Xa).2.1,(v14.1.getD v13.toNat Xa).2.2.1,v22,(v14.1.getD v13.toNat Xa).2.2.2.2))).bind fun v23=>(Xef (v23.getD v13.toNat Xa).2.2.1 (w64 (v20*8))).bind fun v24=>(some (v23.set v13.toNat ((v23.getD v13.toNat Xa).1,(v23.getD v13.toNat Xa).2.1,v24,(v23.getD v13.toNat Xa).2.2.2))).bind fun v25=>(Xeu v25 v13).bind fun v26=>cond ((v25.getD v13.toNat Xa).2.1 != v26) ((some (v25.set v13.toNat ((v25.getD v13.toNat Xa).1,v26,(v25.getD v13.toNat Xa).2.2))).bind fun v27=>some (.inl (w64 (v11+(w64 (v21-v20))),w64 (v12+1),w64 (v13+1),(v27,v14.2)))) (some (.inl (w64 (v11+(w64 (v21-v20))),v12,w64 (v13+1),(v25,v14.2))))) none) none)) none) (some (.inr (v11,v12,v14)))
def Xde (v10:Int):(Int×Int×Int×Fs_)→Option (Int×Int×Fs_):=
 Y9 fun s=>Xde.B v10 s.1 s.2.1 s.2.2.1 s.2.2.2
def Xbs (v:Fs_) (v2:List Bool):Option (Int×Int×Int×Fs_):=
 (Xdm v2 0 0 (0,0,v)).bind fun v9=>(Xde v9.1 (0,0,0,v9.2)).bind fun v28=>some (v9.1,v28.1,v28.2.1,v28.2.2)
namespace Xbs
def G:Gam:=mkG [(65,Xe1.FS),(66,Xef.FS),(67,Xeu.FS)]
theorem Gok:GOk PR G:=.cons Xe1.ok (.cons Xef.ok (.cons Xeu.ok .nil))
end Xbs
namespace Xdm
def c:=Yap (Yag Proofs.Try.f41) [1,1,1,1,0,1,0,0]
def sp:SP:=⟨[(0,.loc 0 []),(1,.cs (.sl .bool)),(7,.cs I64),(8,.cs I64),(9,.cs I64),(10,.cs I64)],[(0,.mem,.cd Xi)]⟩
def fr:=Yjc sp (fun x s=>Xdm.B x.1.2.1 x.1.2.2.2.1 x.1.2.2.2.2.1 s.1 s.2.1 s.2.2) (fun x=>(x.1.2.2.1,x.1.2.2.2.2.2.1,x.2.1)) fun x (bb0:Int×Fs_) _ kk0=>kk0 (.ex 0) ⟨[(0,.loc 0 []),(7,.cs I64 bb0.1),(8,.cs I64 x.1.2.2.2.1),(9,.cs I64 x.1.2.2.2.2.1)],[(0,some ⟨.mem,.cd Xi bb0.2⟩)]⟩
theorem ok:Ya5 PR 144 2 (.loop c) fr:=
 Yxl Xf Xg h0 (G:=Xbs.G) Xbs.Gok [(0,([0,7,8,9],[0]))] (fun x s=>((x.1.1,x.1.2.1,s.1,x.1.2.2.2.1,x.1.2.2.2.2.1,s.2.1,x.1.2.2.2.2.2.2),(s.2.2,x.2.2)))
  (fun x s=>by simp only[B,mC,mB,mS,mO,mN];kernel_rfl)
end Xdm
namespace Xci
def c:=Yap (Yag Proofs.Try.f41) [1,1,1,1,1,0,1,0,0,1,0,0,1,1,1,0,0,0]
def sp:SP:=⟨[(0,.loc 0 []),(7,.cs I64),(8,.cs I64),(9,.cs I64),(11,.cs I64),(12,.loc 0 [.f1,.el]),(13,.cs I64)],[(0,.mem,.cd Xi)]⟩
def fr:=Yjc sp (fun x s=>Xci.B x.1.2.1 x.1.2.2.1 x.1.2.2.2.1 x.1.2.2.2.2.1 x.1.2.2.2.2.2.1.1 x.2.1 s) (fun x=>x.1.2.2.2.2.2.2.1) fun x (bb0:Int) _ kk0=>kk0 (.ex 4) ⟨[(0,.loc 0 []),(7,.cs I64 x.1.2.1),(8,.cs I64 x.1.2.2.1),(9,.cs I64 x.1.2.2.2.1),(11,.cs I64 x.1.2.2.2.2.1),(12,.loc 0 [.f1,.el x.1.2.2.2.2.2.1.1]),(13,.cs I64 bb0)],[(0,some ⟨.mem,.cd Xi x.2.1⟩)]⟩
theorem ok:Ya5 PR 144 2 (.loop c) fr:=
 Yxl Xf Xg h0 (G:=Xbs.G) Xbs.Gok [(4,([0,7,8,9,11,12,13],[0]))] (fun x s=>((x.1.1,x.1.2.1,x.1.2.2.1,x.1.2.2.2.1,x.1.2.2.2.2.1,x.1.2.2.2.2.2.1,s,x.1.2.2.2.2.2.2.2),x.2))
  (fun x s=>by simp only[B,mC,mB,mS,mO,mN];kernel_rfl)
end Xci
namespace Xde
def c:=Yap (Yag Proofs.Try.f41) [1,1,1,1,1,0,1,0,0]
def sp:SP:=⟨[(0,.loc 0 []),(7,.cs I64),(8,.cs I64),(9,.cs I64),(11,.cs I64)],[(0,.mem,.cd Xi)]⟩
def fr:=Yjc sp (fun x s=>Xde.B x.1.2.1 s.1 s.2.1 s.2.2.1 s.2.2.2) (fun x=>(x.1.2.2.1,x.1.2.2.2.1,x.1.2.2.2.2.1,x.2.1)) fun x (bb0:Int×Int×Fs_) _ kk0=>kk0 (.ex 2) ⟨[(7,.cs I64 x.1.2.1),(8,.cs I64 bb0.1),(9,.cs I64 bb0.2.1)],[(0,some ⟨.mem,.cd Xi bb0.2.2⟩)]⟩
theorem ok:Ya5 PR 144 2 (.loop c) fr:=
 Yxn Xf Xg h0 (.R (.L (.one (.R (.R (.R (.L (.one (.fr 2))))))))) (G:=Xbs.G) Xbs.Gok (L:=mkL [(2,Xci.fr)]) (l:=[(2,.loop Xci.c)]) ⟨Lam.cons Xci.ok,trivial⟩ [(2,([7,8,9],[0]))] (fun x s=>((x.1.1,x.1.2.1,s.1,s.2.1,s.2.2.1,x.1.2.2.2.2.2),(s.2.2.2,x.2.2)))
  (fun x s=>by simp only[B,mC,mB,mS,mO,mN];kernel_rfl)
end Xde
namespace Xbs
def pts:List PT:=[.op (.cd Xi),.cs (.sl .bool)]
def FS:FS:=Ybn [.mu,.sh] pts (fun x=>Xbs x.1 x.2.1) fun t=>⟨[.cs I64 t.1,.cs I64 t.2.1,.cs I64 t.2.2.1],[.op (.cd Xi t.2.2.2)]⟩
theorem ok:Yb5 PR 41 FS:=
 Yxj Xf Xg Proofs.Try.f41 h0 (.R (.R (.R (.R (.two (.R (.one (.fr 0))) (.L (.R (.one (.fr 1))))))))) (G:=G) Gok (L:=mkL [(0,Xdm.fr),(2,Xci.fr),(1,Xde.fr)]) (l:=[(0,.loop Xdm.c),(1,.loop Xde.c)]) ⟨Lam.cons Xdm.ok,Lam.skip rfl (Lam.skip rfl (Lam.cons Xde.ok)),trivial⟩
  (fun x=>by simp only[Xbs,mC,mB,mS,mO,mN];kernel_rfl)
end Xbs
def Xcl.B (v2:Int) (v4:Nat) (v:Fs_) (v5:Int) (v6:List Int):Option ((Int×List Int)⊕(List Int)):=
 (some ((v.1.getD v4 Xa).2.2.2.1.length:Int)).bind fun v7=>cond (decide (v5<v7)) (cond (inB v5 ((v.1.getD v4 Xa).2.2.2.1.length)) ((some ((v.1.getD v4 Xa).2.2.2.1.getD v5.toNat 0)).bind fun v8=>(some (w64 ((v.1.getD v4 Xa).2.2.1-(w64 (v5*8))))).bind fun v9=>(Xef 8 v9).bind fun v10=>cond (inB v8 v6.length) (some (.inl (w64 (v5+1),v6.set v8.toNat v10))) none) none) (some (.inr v6))
def Xcl (v2:Int) (v4:Nat) (v:Fs_):(Int×List Int)→Option (List Int):=
 Y9 fun s=>Xcl.B v2 v4 v s.1 s.2
def Xd2.B (v:Fs_) (v2:Int) (v3:List Int):Option ((Int×List Int)⊕(List Int)):=
 cond (decide (v2<(v.1.length:Int))) (cond (inB v2 v.1.length) ((Xcl v2 v2.toNat v (0,v3)).bind fun v11=>some (.inl (w64 (v2+1),v11))) none) (some (.inr v3))
def Xd2 (v:Fs_):(Int×List Int)→Option (List Int):=
 Y9 fun s=>Xd2.B v s.1 s.2
def Xbp.B (v17:Int) (v14:Int) (v12:List Int) (v18:Fs_):Option (Fs_⊕Fs_):=
 cond (inB v14 v18.2.1.length) (cond (inB v14 v12.length) ((some (decide (((v18.2.1.getD v14.toNat []).length:Int)<(v12.getD v14.toNat 0)))).bind fun v19=>cond v19 (cond (inB v14 v18.2.1.length) (cond (decide (((v18.2.1.getD v14.toNat [])++([0])).length≤2147483648)) (cond (inB v14 v18.2.1.length) (cond (Nat.beq v14.toNat v14.toNat&&true) ((some (v18.2.1.set v14.toNat ((v18.2.1.getD v14.toNat [])++([0])))).bind fun v20=>some (.inl (v18.1,v20,v18.2.2))) none) none) none) none) (some (.inr v18))) none) none
def Xbp (v17:Int) (v14:Int) (v12:List Int):Fs_→Option Fs_:=
 Y9 fun s=>Xbp.B v17 v14 v12 s
def Xdz.B (v12:List Int) (v13:Int) (v14:Int) (v15:Fs_):Option ((Int×Int×Fs_)⊕(Int×Fs_)):=
 cond (decide (v14<(v15.2.1.length:Int))) (cond (inB v14 v15.2.1.length) (cond (inB v14 v12.length) ((some (((v15.2.1.getD v14.toNat []).length:Int) != (v12.getD v14.toNat 0))).bind fun v16=>cond v16 ((Xbp (w64 (v13+1)) v14 v12 v15).bind fun v21=>cond (inB v14 v21.2.1.length) (cond (inB v14 v12.length) (cond (decide ((0:Int)≤(v12.getD v14.toNat 0))&&decide ((v12.getD v14.toNat 0)≤((v21.2.1.getD v14.toNat []).length:Int))) (cond (inB v14 v21.2.1.length) (cond (Nat.beq v14.toNat v14.toNat&&true) ((some (((v21.2.1.getD v14.toNat []).drop 0).take (((v12.getD v14.toNat 0).toNat)-0))).bind fun v22=>some (.inl (w64 (v13+1),w64 (v14+1),(v21.1,v21.2.1.set v14.toNat v22,v21.2.2)))) none) none) none) none) none) ((Xbp v13 v14 v12 v15).bind fun v23=>cond (inB v14 v23.2.1.length) (cond (inB v14 v12.length) (cond (decide ((0:Int)≤(v12.getD v14.toNat 0))&&decide ((v12.getD v14.toNat 0)≤((v23.2.1.getD v14.toNat []).length:Int))) (cond (inB v14 v23.2.1.length) (cond (Nat.beq v14.toNat v14.toNat&&true) ((some (((v23.2.1.getD v14.toNat []).drop 0).take (((v12.getD v14.toNat 0).toNat)-0))).bind fun v24=>some (.inl (v13,w64 (v14+1),(v23.1,v23.2.1.set v14.toNat v24,v23.2.2)))) none) none) none) none) none)) none) none) (some (.inr (v13,v15)))
def Xdz (v12:List Int):(Int×Int×Fs_)→Option (Int×Fs_):=
 Y9 fun s=>Xdz.B v12 s.1 s.2.1 s.2.2
def Xbl (v:Fs_):Option (Int×Fs_):=
 cond (decide ((0:Int)≤(20:Int))&&(decide ((20:Int)≤(20:Int))&&decide ((20:Int)≤2147483648))) ((Xd2 v (0,List.replicate (20:Int).toNat 0)).bind fun v12=>(Xdz v12 (0,0,v)).bind fun v25=>some (v25.1,v25.2)) none
namespace Xbl
def G:Gam:=mkG [(66,Xef.FS)]
theorem Gok:GOk PR G:=.cons Xef.ok .nil
end Xbl
namespace Xcl
def c:=Yap (Yag Proofs.Try.f42) [1,1,0,1,0,0,1,0,0,1,1,0,0]
def sp:SP:=⟨[(0,.loc 0 []),(3,.seg 3 []),(4,.cs I64),(5,.loc 0 [.f1,.el]),(6,.cs I64)],[(0,.mem,.cd Xi),(3,.reg,.cd SI)]⟩
def fr:=Yjc sp (fun x s=>Xcl.B x.1.2.2.1 x.1.2.2.2.1.1 x.2.1 s.1 s.2) (fun x=>(x.1.2.2.2.2.1,x.2.2.1)) fun x (bb0:List Int) _ kk0=>kk0 (.ex 2) ⟨[(0,.loc 0 []),(3,.seg 3 []),(4,.cs I64 x.1.2.2.1)],[(0,some ⟨.mem,.cd Xi x.2.1⟩),sr 3 (.cd SI bb0)]⟩
theorem ok:Ya5 PR 122 1 (.loop c) fr:=
 Yxl Xf Xg h0 (G:=Xbl.G) Xbl.Gok [(2,([0,3,4],[0,3]))] (fun x s=>((x.1.1,x.1.2.1,x.1.2.2.1,x.1.2.2.2.1,s.1,x.1.2.2.2.2.2),(x.2.1,s.2,x.2.2.2)))
  (fun x s=>by simp only[B,mC,mB,mS,mO,mN];kernel_rfl)
end Xcl
namespace Xd2
def c:=Yap (Yag Proofs.Try.f42) [1,1,0,1,0,0]
def sp:SP:=⟨[(0,.loc 0 []),(3,.seg 3 []),(4,.cs I64)],[(0,.mem,.cd Xi),(3,.reg,.cd SI)]⟩
def fr:=Yjc sp (fun x s=>Xd2.B x.2.1 s.1 s.2) (fun x=>(x.1.2.2.1,x.2.2.1)) fun x (bb0:List Int) _ kk0=>kk0 (.ex 0) ⟨[(0,.loc 0 []),(3,.seg 3 [])],[(0,some ⟨.mem,.cd Xi x.2.1⟩),sr 3 (.cd SI bb0)]⟩
theorem ok:Ya5 PR 122 1 (.loop c) fr:=
 Yxn Xf Xg h0 (.R (.L (.one (.R (.R (.one (.fr 1))))))) (G:=Xbl.G) Xbl.Gok (L:=mkL [(1,Xcl.fr)]) (l:=[(1,.loop Xcl.c)]) ⟨Lam.cons Xcl.ok,trivial⟩ [(0,([0,3],[0,3]))] (fun x s=>((x.1.1,x.1.2.1,s.1,x.1.2.2.2),(x.2.1,s.2,x.2.2.2)))
  (fun x s=>by simp only[B,mC,mB,mS,mO,mN];kernel_rfl)
end Xd2
namespace Xbp
def c:=Yap (Yag Proofs.Try.f42) [1,1,1,1,0,1,0,0,1,0,0,1,0,0,0]
def sp:SP:=⟨[(0,.loc 0 []),(3,.seg 3 []),(7,.cs I64),(8,.cs I64)],[(0,.mem,.cd Xi),(3,.reg,.cd SI)]⟩
def fr:=Yjc sp (fun x s=>Xbp.B x.1.2.2.1 x.1.2.2.2.1 x.2.2.1 s) (fun x=>x.2.1) fun x (bb0:Fs_) _ kk0=>kk0 (.ex 6) ⟨[(0,.loc 0 []),(3,.seg 3 []),(7,.cs I64 x.1.2.2.1),(8,.cs I64 x.1.2.2.2.1)],[(0,some ⟨.mem,.cd Xi bb0⟩),sr 3 (.cd SI x.2.2.1)]⟩
theorem ok:Ya5 PR 122 1 (.loop c) fr:=
 Yxl Xf Xg h0 (G:=Xbl.G) Xbl.Gok [(6,([0,3,7,8],[0,3]))] (fun x s=>(x.1,(s,x.2.2)))
  (fun x s=>by simp only[B,mC,mB,mS,mO,mN];kernel_rfl)
end Xbp
namespace Xdz
def c:=Yap (Yag Proofs.Try.f42) [1,1,1,1,0,1,0,0]
def sp:SP:=⟨[(0,.loc 0 []),(3,.seg 3 []),(7,.cs I64),(8,.cs I64)],[(0,.mem,.cd Xi),(3,.reg,.cd SI)]⟩
def fr:=Yjc sp (fun x s=>Xdz.B x.2.2.1 s.1 s.2.1 s.2.2) (fun x=>(x.1.2.2.1,x.1.2.2.2.1,x.2.1)) fun x (bb0:Int×Fs_) _ kk0=>kk0 (.ex 4) ⟨[(7,.cs I64 bb0.1)],[(0,some ⟨.mem,.cd Xi bb0.2⟩)]⟩
theorem ok:Ya5 PR 122 1 (.loop c) fr:=
 Yxn Xf Xg h0 (.R (.L (.one (.R (.L (.one (.fr 3))))))) (G:=Xbl.G) Xbl.Gok (L:=mkL [(3,Xbp.fr)]) (l:=[(3,.loop Xbp.c)]) ⟨Lam.cons Xbp.ok,trivial⟩ [(4,([7],[0]))] (fun x s=>((x.1.1,x.1.2.1,s.1,s.2.1,x.1.2.2.2.2),(s.2.2,x.2.2)))
  (fun x s=>by simp only[B,mC,mB,mS,mO,mN];kernel_rfl)
end Xdz
namespace Xbl
def pts:List PT:=[.op (.cd Xi)]
def FS:FS:=Ybn [.mu] pts (fun x=>Xbl x.1) fun t=>⟨[.cs I64 t.1],[.op (.cd Xi t.2)]⟩
theorem ok:Yb5 PR 42 FS:=
 Yxj Xf Xg Proofs.Try.f42 h0 (.R (.R (.two (.R (.one (.fr 0))) (.R (.L (.R (.one (.fr 2)))))))) (G:=G) Gok (L:=mkL [(1,Xcl.fr),(0,Xd2.fr),(3,Xbp.fr),(2,Xdz.fr)]) (l:=[(0,.loop Xd2.c),(2,.loop Xdz.c)]) ⟨Lam.skip rfl (Lam.cons Xd2.ok),Lam.skip rfl (Lam.skip rfl (Lam.skip rfl (Lam.cons Xdz.ok))),trivial⟩
  (fun x=>by simp only[Xbl,mC,mB,mS,mO,mN];kernel_rfl)
end Xbl
def Xfa (v:Fs_):Option (Fs_×List Int):=
 (Xcj v).bind fun v2=>(Xbs (v2.1.1,v2.1.2.1,v2.1.2.2) v2.2.1).bind fun v3=>(Xbl v3.2.2.2).bind fun v4=>some ((v4.2.1,v4.2.2.1,v4.2.2.2),[v2.2.2,v3.1,v3.2.1,v3.2.2.1,v4.1])
namespace Xfa
def G:Gam:=mkG [(40,Xcj.FS),(41,Xbs.FS),(42,Xbl.FS)]
def pts:List PT:=[.pt Xi]
def FS:FS:=Ybn [.sh] pts (fun x=>Xfa x.1) fun t=>⟨[.cd Xi t.1,.cd SI t.2],[]⟩
theorem ok:Yb5 PR 22 FS:=
 Yxj Xf Xg Proofs.Try.f22 h0 .no (G:=G) (show GOk PR G from .cons Xcj.ok (.cons Xbs.ok (.cons Xbl.ok .nil))) (L:=mkL []) (l:=[]) hT
  (fun x=>by simp only[Xfa,mC,mB,mS,mO,mN];kernel_rfl)
end Xfa
def Xev (v:Fs_):Option Xv:=
 (Xe6 v).bind fun v2=>cond (v2 != 0) (some (v2,([],[],()),())) ((Xfa v).bind fun v3=>some (0,(v3.1.1,v3.1.2.1,v3.1.2.2),()))
namespace Xev
def G:Gam:=mkG [(21,Xe6.FS),(22,Xfa.FS)]
def pts:List PT:=[.cs Xi]
def FS:FS:=Ybn [.sh] pts (fun x=>Xev x.1) fun t=>⟨[.cd Xl t],[]⟩
theorem ok:Yb5 PR 14 FS:=
 Yxj Xf Xg Proofs.Try.f14 ⟨[1],[],[],0⟩ .no (G:=G) (show GOk PR G from .cons Xe6.ok (.cons Xfa.ok .nil)) (L:=mkL []) (l:=[]) hT
  (fun x=>by simp only[Xev,mC,mB,mS,mO,mN];kernel_rfl)
end Xev
def Xbo (v:Int) (v2:Int) (v3:Int):Option Bool:=
 some (cond (decide (v≥v2)) (decide (v≤v3)) false)
namespace Xbo
def pts:List PT:=[.cs I64,.cs I64,.cs I64]
def FS:FS:=Ybn [.sh,.sh,.sh] pts (fun x=>Xbo x.1 x.2.1 x.2.2.1) fun t=>⟨[.cs .bool t],[]⟩
theorem ok:Yb5 PR 85 FS:=
 Yxj Xf Xg Proofs.Try.f85 h0 .no (G:=(mkG [])) .nil (L:=mkL []) (l:=[]) hT
  (fun x=>by simp only[Xbo,mC,mB,mS,mO,mN];kernel_rfl)
end Xbo
def Xft (v:List Int):Option Int:=
 some (v.length:Int)
namespace Xft
def pts:List PT:=[.cs SI]
def FS:FS:=Ybn [.sh] pts (fun x=>Xft x.1) fun t=>⟨[.cs I64 t],[]⟩
theorem ok:Yb5 PR 46 FS:=
 Yxj Xf Xg Proofs.Try.f46 h0 .no (G:=(mkG [])) .nil (L:=mkL []) (l:=[]) hT
  (fun x=>by simp only[Xft,mC,mB,mS,mO,mN];kernel_rfl)
end Xft
def Xf7 (v:Int):Option Int:=
 cond (!((8:Int) == 0)) (some (w64 ((w64 ((w64 (v+8))-1)).tdiv 8))) none
namespace Xf7
def pts:List PT:=[.cs I64]
def FS:FS:=Ybn [.sh] pts (fun x=>Xf7 x.1) fun t=>⟨[.cs I64 t],[]⟩
theorem ok:Yb5 PR 94 FS:=
 Yxj Xf Xg Proofs.Try.f94 h0 .no (G:=(mkG [])) .nil (L:=mkL []) (l:=[]) hT
  (fun x=>by simp only[Xf7,mC,mB,mS,mO,mN];kernel_rfl)
end Xf7
def Xfr (v:Int):Option Bool:=
 (Xbo v 0 19).bind fun v2=>some (!v2)
namespace Xfr
def G:Gam:=mkG [(85,Xbo.FS)]
def pts:List PT:=[.cs I64]
def FS:FS:=Ybn [.sh] pts (fun x=>Xfr x.1) fun t=>⟨[.cs .bool t],[]⟩
theorem ok:Yb5 PR 96 FS:=
 Yxj Xf Xg Proofs.Try.f96 h0 .no (G:=G) (show GOk PR G from .cons Xbo.ok .nil) (L:=mkL []) (l:=[]) hT
  (fun x=>by simp only[Xfr,mC,mB,mS,mO,mN];kernel_rfl)
end Xfr
def Xek.B (v:List Int) (v2:Unit) (v3:Int) (v4:Int):Option (Int⊕((Int⊕Unit))):=
 cond (decide (v4<v3)) (cond (inB v4 v.length) ((Xfr (v.getD v4.toNat 0)).bind fun v5=>cond v5 (some (.inr (.inl v4))) (some (.inl (w64 (v4+1))))) none) (some (.inr (.inr ())))
def Xek (v:List Int) (v2:Unit) (v3:Int):Int→Option ((Int⊕Unit)):=
 Y9 fun s=>Xek.B v v2 v3 s
def Xel (v:List Int) (v2:Unit):Option Int:=
 (Xek v v2 (v.length:Int) 0).bind fun v6=>sel v6 (fun v7=>some v7) (fun v8=>some (-1))
namespace Xel
def G:Gam:=mkG [(96,Xfr.FS)]
theorem Gok:GOk PR G:=.cons Xfr.ok .nil
end Xel
namespace Xek
def c:=Yap (Yag Proofs.Try.f98) [1,0,1,0,0]
def sp:SP:=⟨[(0,.cs SI),(1,.clo 96 (.cs .unit)),(7,.cs I64),(8,.cs I64)],[]⟩
def fr:=Yjc sp (fun x s=>Xek.B x.1.1 x.1.2.1 x.1.2.2.1 s) (fun x=>x.1.2.2.2.1) fun x (oo0:(Int⊕Unit)) _ kk0=>sel oo0 (fun bb0=>kk0 (.rt) ⟨[(4,.cs I64 bb0)],[]⟩) (fun cc0=>kk0 (.ex 0) ⟨[],[]⟩)
theorem ok:Ya5 PR 19 2 (.loop c) fr:=
 Ytf Xf Xg h0 .no (G:=Xel.G) Xel.Gok (L:=mkL []) (l:=[]) hT [(0,([],[]))] ([4],[]) (fun x s=>((x.1.1,x.1.2.1,x.1.2.2.1,s,x.1.2.2.2.2),x.2))
  (fun x s=>by simp only[B,mC,mB,mS,mO,mN];kernel_rfl)
end Xek
namespace Xel
def pts:List PT:=[.cs SI,.clo 96 (.cs .unit)]
def FS:FS:=Ybn [.sh,.sh] pts (fun x=>Xel x.1 x.2.1) fun t=>⟨[.cs I64 t],[]⟩
theorem ok:Yb5 PR 98 FS:=
 Yxj Xf Xg Proofs.Try.f98 h0 (.R (.L (.R (.one (.fr 0))))) (G:=G) Gok (L:=mkL [(0,Xek.fr)]) (l:=[(0,.loop Xek.c)]) ⟨Lam.cons Xek.ok,trivial⟩
  (fun x=>by simp only[Xel,mC,mB,mS,mO,mN];kernel_rfl)
end Xel
def Xfg (v:List Int) (v2:Unit):Option Bool:=
 (Xel v v2).bind fun v3=>some (decide (v3≥0))
namespace Xfg
def G:Gam:=mkG [(98,Xel.FS)]
def pts:List PT:=[.cs SI,.clo 96 (.cs .unit)]
def FS:FS:=Ybn [.sh,.sh] pts (fun x=>Xfg x.1 x.2.1) fun t=>⟨[.cs .bool t],[]⟩
theorem ok:Yb5 PR 95 FS:=
 Yxj Xf Xg Proofs.Try.f95 h0 .no (G:=G) (show GOk PR G from .cons Xel.ok .nil) (L:=mkL []) (l:=[]) hT
  (fun x=>by simp only[Xfg,mC,mB,mS,mO,mN];kernel_rfl)
end Xfg
def Xed.B (v:List Int) (v2:Int) (v3:Int) (v4:Int):Option (Int⊕((Int⊕Unit))):=
 cond (decide (v4<v3)) (cond (inB v4 v.length) (cond (v2 == (v.getD v4.toNat 0)) (some (.inr (.inl v4))) (some (.inl (w64 (v4+1))))) none) (some (.inr (.inr ())))
def Xed (v:List Int) (v2:Int) (v3:Int):Int→Option ((Int⊕Unit)):=
 Y9 fun s=>Xed.B v v2 v3 s
def Xf3 (v:List Int) (v2:Int):Option Int:=
 (Xed v v2 (v.length:Int) 0).bind fun v5=>sel v5 (fun v6=>some v6) (fun v7=>some (-1))
namespace Xed
def c:=Yap (Yag Proofs.Try.f74) [1,0,1,0,0]
def sp:SP:=⟨[(0,.cs SI),(1,.cs I64),(7,.cs I64),(8,.cs I64)],[]⟩
def fr:=Yjc sp (fun x s=>Xed.B x.1.1 x.1.2.1 x.1.2.2.1 s) (fun x=>x.1.2.2.2.1) fun x (oo0:(Int⊕Unit)) _ kk0=>sel oo0 (fun bb0=>kk0 (.rt) ⟨[(4,.cs I64 bb0)],[]⟩) (fun cc0=>kk0 (.ex 0) ⟨[],[]⟩)
theorem ok:Ya5 PR 19 2 (.loop c) fr:=
 Ytf Xf Xg h0 .no (G:=(mkG [])) .nil (L:=mkL []) (l:=[]) hT [(0,([],[]))] ([4],[]) (fun x s=>((x.1.1,x.1.2.1,x.1.2.2.1,s,x.1.2.2.2.2),x.2))
  (fun x s=>by simp only[B,mC,mB,mS,mO,mN];kernel_rfl)
end Xed
namespace Xf3
def pts:List PT:=[.cs SI,.cs I64]
def FS:FS:=Ybn [.sh,.sh] pts (fun x=>Xf3 x.1 x.2.1) fun t=>⟨[.cs I64 t],[]⟩
theorem ok:Yb5 PR 74 FS:=
 Yxj Xf Xg Proofs.Try.f74 h0 (.R (.L (.R (.one (.fr 0))))) (G:=(mkG [])) .nil (L:=mkL [(0,Xed.fr)]) (l:=[(0,.loop Xed.c)]) ⟨Lam.cons Xed.ok,trivial⟩
  (fun x=>by simp only[Xf3,mC,mB,mS,mO,mN];kernel_rfl)
end Xf3
def Xda (v:List Int) (v2:Int):Option Bool:=
 (Xf3 v v2).bind fun v3=>some (decide (v3≥0))
namespace Xda
def G:Gam:=mkG [(74,Xf3.FS)]
def pts:List PT:=[.cs SI,.cs I64]
def FS:FS:=Ybn [.sh,.sh] pts (fun x=>Xda x.1 x.2.1) fun t=>⟨[.cs .bool t],[]⟩
theorem ok:Yb5 PR 54 FS:=
 Yxj Xf Xg Proofs.Try.f54 h0 .no (G:=G) (show GOk PR G from .cons Xf3.ok .nil) (L:=mkL []) (l:=[]) hT
  (fun x=>by simp only[Xda,mC,mB,mS,mO,mN];kernel_rfl)
end Xda
def Xdw.B (v:Xb) (v7:List Int) (v8:Int) (v9:Int):Option (Int⊕((Int⊕Unit))):=
 cond (decide (v9<v8)) (cond (inB v9 v7.length) (cond (decide ((0:Int)≤v9)&&decide (v9≤(v.2.2.2.1.length:Int))) ((Xda ((v.2.2.2.1.take v9.toNat).drop 0) (v7.getD v9.toNat 0)).bind fun v10=>cond v10 (some (.inr (.inl 7))) (some (.inl (w64 (v9+1))))) none) none) (some (.inr (.inr ())))
def Xdw (v:Xb) (v7:List Int) (v8:Int):Int→Option ((Int⊕Unit)):=
 Y9 fun s=>Xdw.B v v7 v8 s
def Xdc (v:Xb):Option Int:=
 (Xbo v.2.1 1 60).bind fun v2=>cond (!v2) (some 3) ((Xbo v.2.2.1 0 32).bind fun v3=>cond (!v3) (some 3) ((Xft v.2.2.2.1).bind fun v4=>(Xf7 v.2.2.1).bind fun v5=>cond (v4 != v5) (some 1) ((Xfg v.2.2.2.1 ()).bind fun v6=>cond v6 (some 3) ((Xdw v v.2.2.2.1 (v.2.2.2.1.length:Int) 0).bind fun v11=>sel v11 (fun v12=>some v12) (fun v13=>some 0)))))
namespace Xdc
def G:Gam:=mkG [(85,Xbo.FS),(46,Xft.FS),(94,Xf7.FS),(95,Xfg.FS),(54,Xda.FS)]
theorem Gok:GOk PR G:=.cons Xbo.ok (.cons Xft.ok (.cons Xf7.ok (.cons Xfg.ok (.cons Xda.ok .nil))))
end Xdc
namespace Xdw
def c:=Yap (Yag Proofs.Try.f86) [1,1,0,1,0,0]
def sp:SP:=⟨[(1,.pt Xd),(29,.cs SI),(30,.cs I64),(31,.cs I64)],[]⟩
def fr:=Yjc sp (fun x s=>Xdw.B x.1.1 x.1.2.1 x.1.2.2.1 s) (fun x=>x.1.2.2.2.1) fun x (oo0:(Int⊕Unit)) _ kk0=>sel oo0 (fun bb0=>kk0 (.rt) ⟨[(2,.cs I64 bb0)],[]⟩) (fun cc0=>kk0 (.ex 1) ⟨[],[]⟩)
theorem ok:Ya5 PR 43 1 (.loop c) fr:=
 Ytf Xf Xg ⟨[1],[],[],0⟩ .no (G:=Xdc.G) Xdc.Gok (L:=mkL []) (l:=[]) hT [(1,([],[]))] ([2],[]) (fun x s=>((x.1.1,x.1.2.1,x.1.2.2.1,s,x.1.2.2.2.2),x.2))
  (fun x s=>by simp only[B,mC,mB,mS,mO,mN];kernel_rfl)
end Xdw
namespace Xdc
def pts:List PT:=[.cs Xd]
def FS:FS:=Ybn [.sh] pts (fun x=>Xdc x.1) fun t=>⟨[.cs I64 t],[]⟩
theorem ok:Yb5 PR 86 FS:=
 Yxj Xf Xg Proofs.Try.f86 ⟨[1],[],[],0⟩ (.R (.R (.L (.R (.one (.fr 0)))))) (G:=G) Gok (L:=mkL [(0,Xdw.fr)]) (l:=[(0,.loop Xdw.c)]) ⟨Lam.cons Xdw.ok,trivial⟩
  (fun x=>by simp only[Xdc,mC,mB,mS,mO,mN];kernel_rfl)
end Xdc
def Xei.B (v:List UInt8) (v2:Int) (v3:Int):Option (Int⊕((Int⊕Unit))):=
 cond (decide (v3<v2)) (cond (inB v3 v.length) (cond (cond (!(decide (((v.getD v3.toNat 0).toNat:Int)<97))) (inB v3 v.length) true) ((some (cond (decide (((v.getD v3.toNat 0).toNat:Int)<97)) true (decide (((v.getD v3.toNat 0).toNat:Int)>122)))).bind fun v4=>cond v4 (some (.inr (.inl 5))) (some (.inl (w64 (v3+1))))) none) none) (some (.inr (.inr ())))
def Xei (v:List UInt8) (v2:Int):Int→Option ((Int⊕Unit)):=
 Y9 fun s=>Xei.B v v2 s
def Xfo (v:List UInt8):Option Int:=
 cond (v == ([]:List UInt8)) (some 5) ((Xei v (v.length:Int) 0).bind fun v5=>sel v5 (fun v6=>some v6) (fun v7=>cond (decide ((v.length:Int)>4)) (some 2) (some 0)))
namespace Xei
def c:=Yap (Yag Proofs.Try.f97) [1,1,0,1,0,0]
def sp:SP:=⟨[(0,.cs .str),(7,.cs I64),(8,.cs I64)],[]⟩
def fr:=Yjc sp (fun x s=>Xei.B x.1.1 x.1.2.1 s) (fun x=>x.1.2.2.1) fun x (oo0:(Int⊕Unit)) _ kk0=>sel oo0 (fun bb0=>kk0 (.rt) ⟨[(2,.cs I64 bb0)],[]⟩) (fun cc0=>kk0 (.ex 0) ⟨[(0,.cs .str x.1.1)],[]⟩)
theorem ok:Ya5 PR 25 1 (.loop c) fr:=
 Ytf Xf Xg h0 .no (G:=(mkG [])) .nil (L:=mkL []) (l:=[]) hT [(0,([0],[]))] ([2],[]) (fun x s=>((x.1.1,x.1.2.1,s,x.1.2.2.2),x.2))
  (fun x s=>by simp only[B,mC,mB,mS,mO,mN];kernel_rfl)
end Xei
namespace Xfo
def pts:List PT:=[.cs .str]
def FS:FS:=Ybn [.sh] pts (fun x=>Xfo x.1) fun t=>⟨[.cs I64 t],[]⟩
theorem ok:Yb5 PR 97 FS:=
 Yxj Xf Xg Proofs.Try.f97 h0 (.R (.R (.L (.R (.one (.fr 0)))))) (G:=(mkG [])) .nil (L:=mkL [(0,Xei.fr)]) (l:=[(0,.loop Xei.c)]) ⟨Lam.cons Xei.ok,trivial⟩
  (fun x=>by simp only[Xfo,mC,mB,mS,mO,mN];kernel_rfl)
end Xfo
def Xdl.B (v:Xb) (v2:List Xc) (v3:Int) (v4:Int):Option (Int⊕((Int⊕Unit))):=
 cond (decide (v4<v3)) (cond (inB v4 v2.length) ((Xfo (v2.getD v4.toNat Xh).1).bind fun v5=>cond (v5 != 0) (some (.inr (.inl v5))) ((Xbo (v2.getD v4.toNat Xh).2.1 0 9).bind fun v6=>cond (!v6) (some (.inr (.inl 3))) (cond (cond (decide (v4>0)) (inB (w64 (v4-1)) v.2.2.2.2.1.length) true) ((some (cond (decide (v4>0)) (!leB (v.2.2.2.2.1.getD (w64 (v4-1)).toNat Xh).1 (v2.getD v4.toNat Xh).1) false)).bind fun v7=>cond v7 (some (.inr (.inl 1))) (some (.inl (w64 (v4+1))))) none))) none) (some (.inr (.inr ())))
def Xdl (v:Xb) (v2:List Xc) (v3:Int):Int→Option ((Int⊕Unit)):=
 Y9 fun s=>Xdl.B v v2 v3 s
def Xd1 (v:Xb):Option Int:=
 cond (decide ((v.2.2.2.2.1.length:Int)>6)) (some 2) ((Xdl v v.2.2.2.2.1 (v.2.2.2.2.1.length:Int) 0).bind fun v8=>sel v8 (fun v9=>some v9) (fun v10=>some 0))
namespace Xd1
def G:Gam:=mkG [(97,Xfo.FS),(85,Xbo.FS)]
theorem Gok:GOk PR G:=.cons Xfo.ok (.cons Xbo.ok .nil)
end Xd1
namespace Xdl
def c:=Yap (Yag Proofs.Try.f87) [1,1,0,1,0,0]
def sp:SP:=⟨[(1,.pt Xd),(11,.cs (.sl Xe)),(12,.cs I64),(13,.cs I64)],[]⟩
def fr:=Yjc sp (fun x s=>Xdl.B x.1.1 x.1.2.1 x.1.2.2.1 s) (fun x=>x.1.2.2.2.1) fun x (oo0:(Int⊕Unit)) _ kk0=>sel oo0 (fun bb0=>kk0 (.rt) ⟨[(2,.cs I64 bb0)],[]⟩) (fun cc0=>kk0 (.ex 0) ⟨[],[]⟩)
theorem ok:Ya5 PR 43 1 (.loop c) fr:=
 Ytf Xf Xg ⟨[1],[],[],0⟩ .no (G:=Xd1.G) Xd1.Gok (L:=mkL []) (l:=[]) hT [(0,([],[]))] ([2],[]) (fun x s=>((x.1.1,x.1.2.1,x.1.2.2.1,s,x.1.2.2.2.2),x.2))
  (fun x s=>by simp only[B,mC,mB,mS,mO,mN];kernel_rfl)
end Xdl
namespace Xd1
def pts:List PT:=[.cs Xd]
def FS:FS:=Ybn [.sh] pts (fun x=>Xd1 x.1) fun t=>⟨[.cs I64 t],[]⟩
theorem ok:Yb5 PR 87 FS:=
 Yxj Xf Xg Proofs.Try.f87 ⟨[1],[],[],0⟩ (.R (.R (.L (.R (.one (.fr 0)))))) (G:=G) Gok (L:=mkL [(0,Xdl.fr)]) (l:=[(0,.loop Xdl.c)]) ⟨Lam.cons Xdl.ok,trivial⟩
  (fun x=>by simp only[Xd1,mC,mB,mS,mO,mN];kernel_rfl)
end Xd1
def Xe9 (v:Xb):Option Int:=
 (some (cond (cond (v.2.1 == 0) (v.2.2.1 == 0) false) ((v.2.2.2.1.length:Int) == 0) false)).bind fun v2=>(Xbo v.1 0 2).bind fun v3=>cond (!v3) (some 1) (cond (cond (v.1 != 1) (!v2) false) (some 1) ((some (cond (v.1 != 2) (!((v.2.2.2.2.1.length:Int) == 0)) false)).bind fun v4=>cond v4 (some 1) (cond (v.1 == 1) ((Xdc v).bind fun v5=>some v5) ((Xd1 v).bind fun v6=>some v6))))
namespace Xe9
def G:Gam:=mkG [(85,Xbo.FS),(86,Xdc.FS),(87,Xd1.FS)]
def pts:List PT:=[.cs Xd]
def FS:FS:=Ybn [.sh] pts (fun x=>Xe9 x.1) fun t=>⟨[.cs I64 t],[]⟩
theorem ok:Yb5 PR 70 FS:=
 Yxj Xf Xg Proofs.Try.f70 ⟨[1],[],[],0⟩ .no (G:=G) (show GOk PR G from .cons Xbo.ok (.cons Xdc.ok (.cons Xd1.ok .nil))) (L:=mkL []) (l:=[]) hT
  (fun x=>by simp only[Xe9,mC,mB,mS,mO,mN];kernel_rfl)
end Xe9
def Xee.B (v:List Xb) (v2:Int) (v3:Int):Option (Int⊕((Int⊕Unit))):=
 cond (decide (v3<v2)) (cond (inB v3 v.length) ((Xe9 (v.getD v3.toNat Xa)).bind fun v4=>cond (v4 != 0) (some (.inr (.inl v4))) (some (.inl (w64 (v3+1))))) none) (some (.inr (.inr ())))
def Xee (v:List Xb) (v2:Int):Int→Option ((Int⊕Unit)):=
 Y9 fun s=>Xee.B v v2 s
def Xdr (v:List Xb):Option Int:=
 cond (decide ((v.length:Int)>10)) (some 2) ((Xee v (v.length:Int) 0).bind fun v5=>sel v5 (fun v6=>some v6) (fun v7=>some 0))
namespace Xdr
def G:Gam:=mkG [(70,Xe9.FS)]
theorem Gok:GOk PR G:=.cons Xe9.ok .nil
end Xdr
namespace Xee
def c:=Yap (Yag Proofs.Try.f45) [1,1,0,1,0,0]
def sp:SP:=⟨[(9,.cs (.sl Xd)),(10,.cs I64),(11,.cs I64)],[]⟩
def fr:=Yjc sp (fun x s=>Xee.B x.1.1 x.1.2.1 s) (fun x=>x.1.2.2.1) fun x (oo0:(Int⊕Unit)) _ kk0=>sel oo0 (fun bb0=>kk0 (.rt) ⟨[(2,.cs I64 bb0)],[]⟩) (fun cc0=>kk0 (.ex 0) ⟨[],[]⟩)
theorem ok:Ya5 PR 21 1 (.loop c) fr:=
 Ytf Xf Xg h0 .no (G:=Xdr.G) Xdr.Gok (L:=mkL []) (l:=[]) hT [(0,([],[]))] ([2],[]) (fun x s=>((x.1.1,x.1.2.1,s,x.1.2.2.2),x.2))
  (fun x s=>by simp only[B,mC,mB,mS,mO,mN];kernel_rfl)
end Xee
namespace Xdr
def pts:List PT:=[.cs (.sl Xd)]
def FS:FS:=Ybn [.sh] pts (fun x=>Xdr x.1) fun t=>⟨[.cs I64 t],[]⟩
theorem ok:Yb5 PR 45 FS:=
 Yxj Xf Xg Proofs.Try.f45 h0 (.R (.R (.L (.R (.one (.fr 0)))))) (G:=G) Gok (L:=mkL [(0,Xee.fr)]) (l:=[(0,.loop Xee.c)]) ⟨Lam.cons Xee.ok,trivial⟩
  (fun x=>by simp only[Xdr,mC,mB,mS,mO,mN];kernel_rfl)
end Xdr
def Xe5 (v:Fs_):Option Int:=
 (Xdr v.1).bind fun v2=>cond (v2 != 0) (some v2) (cond (cond (!((v.1.length:Int) == 0)) (inB 0 v.1.length) true) ((some (cond ((v.1.length:Int) == 0) true ((v.1.getD (0:Int).toNat Xa).1 != 2))).bind fun v3=>cond (cond v3 true ((v.2.1.length:Int) != 20)) (some 1) (some 0)) none)
namespace Xe5
def G:Gam:=mkG [(45,Xdr.FS)]
def pts:List PT:=[.cs Xi]
def FS:FS:=Ybn [.sh] pts (fun x=>Xe5 x.1) fun t=>⟨[.cs I64 t],[]⟩
theorem ok:Yb5 PR 25 FS:=
 Yxj Xf Xg Proofs.Try.f25 ⟨[1],[],[],0⟩ .no (G:=G) (show GOk PR G from .cons Xdr.ok .nil) (L:=mkL []) (l:=[]) hT
  (fun x=>by simp only[Xe5,mC,mB,mS,mO,mN];kernel_rfl)
end Xe5
def Xfz (v:List Xb):Option Int:=
 some (v.length:Int)
namespace Xfz
def pts:List PT:=[.cs (.sl Xd)]
def FS:FS:=Ybn [.sh] pts (fun x=>Xfz x.1) fun t=>⟨[.cs I64 t],[]⟩
theorem ok:Yb5 PR 73 FS:=
 Yxj Xf Xg Proofs.Try.f73 h0 .no (G:=(mkG [])) .nil (L:=mkL []) (l:=[]) hT
  (fun x=>by simp only[Xfz,mC,mB,mS,mO,mN];kernel_rfl)
end Xfz
def Xfm (v:Xfy) (v2:Xc):Option Bool:=
 (Xfz v.1.1).bind fun v3=>cond (cond (decide (v2.2.1≥v3)) true (v2.2.1 == 0)) (some false) (cond (inB v2.2.1 v.1.1.length) (cond ((v.1.1.getD v2.2.1.toNat Xa).1 == 0) (some false) (cond ((v.1.1.getD v2.2.1.toNat Xa).1 == 2) (cond (inB v2.2.1 v.2.1.length) (some (!(v.2.1.getD v2.2.1.toNat false))) none) (some true))) none)
namespace Xfm
def G:Gam:=mkG [(73,Xfz.FS)]
def pts:List PT:=[.pt Xeq,.cs Xe]
def FS:FS:=Ybn [.sh,.sh] pts (fun x=>Xfm x.1 x.2.1) fun t=>⟨[.cs .bool t],[]⟩
theorem ok:Yb5 PR 53 FS:=
 Yxj Xf Xg Proofs.Try.f53 ⟨[3],[],[],0⟩ .no (G:=G) (show GOk PR G from .cons Xfz.ok .nil) (L:=mkL []) (l:=[]) hT
  (fun x=>by simp only[Xfm,mC,mB,mS,mO,mN];kernel_rfl)
end Xfm
def Xcq.B (v:Fs_) (v8:Int) (v7:List Xc) (v9:Int) (v5:Fs_) (v10:Int) (v11:List Int) (v12:(List Bool)×(List (List Xc))×Int×(List Int)×(List Int)×Unit):Option ((Int×(List Int)×(List Bool)×(List (List Xc))×Int×(List Int)×(List Int)×Unit)⊕((List Int)×(List Bool)×(List (List Xc))×Int×(List Int)×(List Int)×Unit)):=
 cond (decide (v10<v9)) (cond (inB v10 v7.length) ((Xfm (v5,v12) (v7.getD v10.toNat Xh)).bind fun v13=>cond (!v13) (some (.inl (w64 (v10+1),v11,(v12.1,v12.2.1,w64 (v12.2.2.1+1),v12.2.2.2)))) (cond (inB v8 v12.2.1.length) ((some ((v12.2.1.getD v8.toNat [])++([v7.getD v10.toNat Xh]))).bind fun v14=>cond (decide (v14.length≤2147483648)) (cond (inB v8 v12.2.1.length) (cond (Nat.beq v8.toNat v8.toNat&&true) (cond (inB (v7.getD v10.toNat Xh).2.1 v12.2.2.2.1.length) ((some (v12.2.2.2.1.getD ((v7.getD v10.toNat Xh).2.1.toNat) 0)).bind fun v15=>cond (inB (v7.getD v10.toNat Xh).2.1 v12.2.2.2.1.length) ((some (v12.2.2.2.1.set ((v7.getD v10.toNat Xh).2.1.toNat) (w64 (v15+1)))).bind fun v16=>cond (inB (v7.getD v10.toNat Xh).2.1 v12.1.length) ((some (v12.1.getD ((v7.getD v10.toNat Xh).2.1.toNat) false)).bind fun v17=>cond (cond (!v17) (inB (v7.getD v10.toNat Xh).2.1 v.1.length) true) ((some (cond (!v17) ((v.1.getD (v7.getD v10.toNat Xh).2.1.toNat Xa).1 == 2) false)).bind fun v18=>cond v18 (cond (decide ((v11++([(v7.getD v10.toNat Xh).2.1])).length≤2147483648)) (cond (inB (v7.getD v10.toNat Xh).2.1 v12.1.length) ((some (v12.1.set ((v7.getD v10.toNat Xh).2.1.toNat) true)).bind fun v19=>some (.inl (w64 (v10+1),v11++([(v7.getD v10.toNat Xh).2.1]),(v19,v12.2.1.set v8.toNat v14,v12.2.2.1,v16,v12.2.2.2.2)))) none) none) (cond (inB (v7.getD v10.toNat Xh).2.1 v12.1.length) ((some (v12.1.set ((v7.getD v10.toNat Xh).2.1.toNat) true)).bind fun v20=>some (.inl (w64 (v10+1),v11,(v20,v12.2.1.set v8.toNat v14,v12.2.2.1,v16,v12.2.2.2.2)))) none)) none) none) none) none) none) none) none) none)) none) (some (.inr (v11,v12)))
def Xcq (v:Fs_) (v8:Int) (v7:List Xc) (v9:Int) (v5:Fs_):(Int×(List Int)×(List Bool)×(List (List Xc))×Int×(List Int)×(List Int)×Unit)→Option ((List Int)×(List Bool)×(List (List Xc))×Int×(List Int)×(List Int)×Unit):=
 Y9 fun s=>Xcq.B v v8 v7 v9 v5 s.1 s.2.1 s.2.2
def Xec.B (v:Fs_) (v5:Fs_) (v4:List Int) (v6:(List Bool)×(List (List Xc))×Int×(List Int)×(List Int)×Unit):Option (((List Int)×(List Bool)×(List (List Xc))×Int×(List Int)×(List Int)×Unit)⊕((List Bool)×(List (List Xc))×Int×(List Int)×(List Int)×Unit)):=
 cond (decide ((v4.length:Int)>0)) (cond (inB 0 v4.length) (cond (inB (v4.getD ((0:Int).toNat) 0) v.1.length) ((some (v.1.getD (v4.getD ((0:Int).toNat) 0).toNat Xa).2.2.2.2.1).bind fun v7=>(Xcq v (v4.getD ((0:Int).toNat) 0) v7 (v7.length:Int) v5 (0,v4,v6)).bind fun v21=>cond (decide ((0:Int)≤(1:Int))&&decide ((1:Int)≤(v21.1.length:Int))) ((some ((v21.1.drop ((1:Int).toNat)).take (v21.1.length-((1:Int).toNat)))).bind fun v22=>some (.inl (v22,v21.2))) none) none) none) (some (.inr v6))
def Xec (v:Fs_) (v5:Fs_):((List Int)×(List Bool)×(List (List Xc))×Int×(List Int)×(List Int)×Unit)→Option ((List Bool)×(List (List Xc))×Int×(List Int)×(List Int)×Unit):=
 Y9 fun s=>Xec.B v v5 s.1 s.2
def Xcm.B (v26:Int) (v24:List Xb) (v25:Int) (v30:Int) (v31:List Int) (v29:Int) (v:Fs_) (v32:Int) (v33:List Int) (v34:(List Bool)×(List (List Xc))×Int×(List Int)×(List Int)×Unit):Option ((Int×(List Int)×(List Bool)×(List (List Xc))×Int×(List Int)×(List Int)×Unit)⊕((List Int)×(List Bool)×(List (List Xc))×Int×(List Int)×(List Int)×Unit)):=
 cond (decide (v32<v29)) (cond (inB v32 v31.length) ((Xda v33 (v31.getD v32.toNat 0)).bind fun v35=>cond v35 (some (.inr (v33,v34))) (cond (decide ((v33++([v31.getD v32.toNat 0])).length≤2147483648)) (cond (inB v26 v34.2.2.2.2.1.length) (cond (inB v26 v34.2.2.2.2.1.length) ((some (v34.2.2.2.2.1.set v26.toNat (w64 ((v34.2.2.2.2.1.getD v26.toNat 0)+1)))).bind fun v36=>some (.inl (w64 (v32+1),v33++([v31.getD v32.toNat 0]),(v34.1,v34.2.1,v34.2.2.1,v34.2.2.2.1,v36,v34.2.2.2.2.2)))) none) none) none)) none) (some (.inr (v33,v34)))
def Xcm (v26:Int) (v24:List Xb) (v25:Int) (v30:Int) (v31:List Int) (v29:Int) (v:Fs_):(Int×(List Int)×(List Bool)×(List (List Xc))×Int×(List Int)×(List Int)×Unit)→Option ((List Int)×(List Bool)×(List (List Xc))×Int×(List Int)×(List Int)×Unit):=
 Y9 fun s=>Xcm.B v26 v24 v25 v30 v31 v29 v s.1 s.2.1 s.2.2
def Xd3.B (v24:List Xb) (v25:Int) (v:Fs_) (v26:Int) (v27:List Int) (v28:(List Bool)×(List (List Xc))×Int×(List Int)×(List Int)×Unit):Option ((Int×(List Int)×(List Bool)×(List (List Xc))×Int×(List Int)×(List Int)×Unit)⊕((List Bool)×(List (List Xc))×Int×(List Int)×(List Int)×Unit)):=
 cond (decide (v26<v25)) (cond (inB v26 v24.length) (cond (inB v26 v28.1.length) (cond (!(v28.1.getD v26.toNat false)) (some (.inl (w64 (v26+1),v27,v28))) ((some ((v24.getD v26.toNat Xa).2.2.2.1.length:Int)).bind fun v29=>(Xcm v26 v24 v25 v26 (v24.getD v26.toNat Xa).2.2.2.1 v29 v (0,v27,v28)).bind fun v37=>some (.inl (w64 (v26+1),v37.1,v37.2)))) none) none) (some (.inr v28))
def Xd3 (v24:List Xb) (v25:Int) (v:Fs_):(Int×(List Int)×(List Bool)×(List (List Xc))×Int×(List Int)×(List Int)×Unit)→Option ((List Bool)×(List (List Xc))×Int×(List Int)×(List Int)×Unit):=
 Y9 fun s=>Xd3.B v24 v25 v s.1 s.2.1 s.2.2
def Xbi (v:Fs_):Option (Fs_×(List Bool)×(List (List Xc))×Int×(List Int)×(List Int)×Unit):=
 cond (decide ((0:Int)≤(v.1.length:Int))&&(decide ((v.1.length:Int)≤(v.1.length:Int))&&decide ((v.1.length:Int)≤2147483648))) (cond (decide ((0:Int)≤(v.1.length:Int))&&(decide ((v.1.length:Int)≤(v.1.length:Int))&&decide ((v.1.length:Int)≤2147483648))) ((some (List.replicate (v.1.length:Int).toNat ([]:List Xc))).bind fun v2=>cond (decide ((0:Int)≤(v.1.length:Int))&&(decide ((v.1.length:Int)≤(v.1.length:Int))&&decide ((v.1.length:Int)≤2147483648))) (cond (decide ((0:Int)≤(v.1.length:Int))&&(decide ((v.1.length:Int)≤(v.1.length:Int))&&decide ((v.1.length:Int)≤2147483648))) (cond (inB 0 ((List.replicate (v.1.length:Int).toNat false).length)) ((some ((List.replicate (v.1.length:Int).toNat false).set ((0:Int).toNat) true)).bind fun v3=>(Xec v v ([0],(v3,v2,0,List.replicate (v.1.length:Int).toNat 0,List.replicate (v.1.length:Int).toNat 0,()))).bind fun v23=>(Xd3 v.1 (v.1.length:Int) v (0,[],v23)).bind fun v38=>some (v,v38)) none) none) none) none) none
namespace Xbi
def G:Gam:=mkG [(53,Xfm.FS),(54,Xda.FS)]
theorem Gok:GOk PR G:=.cons Xfm.ok (.cons Xda.ok .nil)
end Xbi
namespace Xcq
def c:=Yap (Yag Proofs.Try.f34) [1,1,1,1,0,1,0,0,1,0,0,1,1,0,0]
def sp:SP:=⟨[(1,.pt Xi),(4,.loc 27 []),(5,.seg 5 []),(6,.cs I64),(47,.cs (.sl Xe)),(48,.cs I64),(49,.cs I64)],[(5,.reg,.cd SI),(27,.mem,.pr (.cs Xi) (.cd (.pair (.sl .bool) (.pair (.sl (.sl Xe)) (.pair I64 (.pair SI (.pair SI .unit)))))))]⟩
def fr:=Yjc sp (fun x s=>Xcq.B x.1.1 x.1.2.2.2.1 x.1.2.2.2.2.1 x.1.2.2.2.2.2.1 x.2.2.1.1 s.1 s.2.1 s.2.2) (fun x=>(x.1.2.2.2.2.2.2.1,x.2.1,x.2.2.1.2)) fun x (bb0:(List Int)×(List Bool)×(List (List Xc))×Int×(List Int)×(List Int)×Unit) _ kk0=>kk0 (.ex 2) ⟨[(1,.pt Xi x.1.1),(4,.loc 27 []),(5,.seg 5 [])],[sr 5 (.cd SI bb0.1),(27,some ⟨.mem,.pr (.cs Xi x.2.2.1.1) (.cd (.pair (.sl .bool) (.pair (.sl (.sl Xe)) (.pair I64 (.pair SI (.pair SI .unit))))) bb0.2)⟩)]⟩
theorem ok:Ya5 PR 164 1 (.loop c) fr:=
 Yxl Xf Xg ⟨[1],[],[],0⟩ (G:=Xbi.G) Xbi.Gok [(2,([1,4,5],[5,27]))] (fun x s=>((x.1.1,x.1.2.1,x.1.2.2.1,x.1.2.2.2.1,x.1.2.2.2.2.1,x.1.2.2.2.2.2.1,s.1,x.1.2.2.2.2.2.2.2),(s.2.1,(x.2.2.1.1,s.2.2),x.2.2.2)))
  (fun x s=>by simp only[B,mC,mB,mS,mO,mN];kernel_rfl)
end Xcq
namespace Xec
def c:=Yap (Yag Proofs.Try.f34) [1,1,1,1,0,1,0,0]
def sp:SP:=⟨[(1,.pt Xi),(4,.loc 27 []),(5,.seg 5 [])],[(5,.reg,.cd SI),(27,.mem,.pr (.cs Xi) (.cd (.pair (.sl .bool) (.pair (.sl (.sl Xe)) (.pair I64 (.pair SI (.pair SI .unit)))))))]⟩
def fr:=Yjc sp (fun x s=>Xec.B x.1.1 x.2.2.1.1 s.1 s.2) (fun x=>(x.2.1,x.2.2.1.2)) fun x (bb0:(List Bool)×(List (List Xc))×Int×(List Int)×(List Int)×Unit) _ kk0=>kk0 (.ex 0) ⟨[(1,.pt Xi x.1.1),(4,.loc 27 [])],[(27,some ⟨.mem,.pr (.cs Xi x.2.2.1.1) (.cd (.pair (.sl .bool) (.pair (.sl (.sl Xe)) (.pair I64 (.pair SI (.pair SI .unit))))) bb0)⟩)]⟩
theorem ok:Ya5 PR 164 1 (.loop c) fr:=
 Yxn Xf Xg ⟨[1],[],[],0⟩ (.R (.L (.one (.R (.R (.one (.fr 1))))))) (G:=Xbi.G) Xbi.Gok (L:=mkL [(1,Xcq.fr)]) (l:=[(1,.loop Xcq.c)]) ⟨Lam.cons Xcq.ok,trivial⟩ [(0,([1,4],[27]))] (fun x s=>(x.1,(s.1,(x.2.2.1.1,s.2),x.2.2.2)))
  (fun x s=>by simp only[B,mC,mB,mS,mO,mN];kernel_rfl)
end Xec
namespace Xcm
def c:=Yap (Yag Proofs.Try.f34) [1,1,1,1,1,1,0,1,0,0,1,1,0,0,1,1,1,0,0]
def sp:SP:=⟨[(4,.loc 27 []),(9,.seg 9 []),(10,.cs I64),(123,.cs (.sl Xd)),(124,.cs I64),(125,.cs I64),(139,.cs SI),(140,.cs I64),(141,.cs I64)],[(9,.reg,.cd SI),(27,.mem,.pr (.cs Xi) (.cd (.pair (.sl .bool) (.pair (.sl (.sl Xe)) (.pair I64 (.pair SI (.pair SI .unit)))))))]⟩
def fr:=Yjc sp (fun x s=>Xcm.B x.1.2.2.1 x.1.2.2.2.1 x.1.2.2.2.2.1 x.1.2.2.2.2.2.1 x.1.2.2.2.2.2.2.1 x.1.2.2.2.2.2.2.2.1 x.2.2.1.1 s.1 s.2.1 s.2.2) (fun x=>(x.1.2.2.2.2.2.2.2.2.1,x.2.1,x.2.2.1.2)) fun x (bb0:(List Int)×(List Bool)×(List (List Xc))×Int×(List Int)×(List Int)×Unit) _ kk0=>kk0 (.ex 6) ⟨[(4,.loc 27 []),(9,.seg 9 []),(123,.cs (.sl Xd) x.1.2.2.2.1),(124,.cs I64 x.1.2.2.2.2.1),(125,.cs I64 x.1.2.2.2.2.2.1)],[sr 9 (.cd SI bb0.1),(27,some ⟨.mem,.pr (.cs Xi x.2.2.1.1) (.cd (.pair (.sl .bool) (.pair (.sl (.sl Xe)) (.pair I64 (.pair SI (.pair SI .unit))))) bb0.2)⟩)]⟩
theorem ok:Ya5 PR 164 1 (.loop c) fr:=
 Yxl Xf Xg ⟨[1],[],[],0⟩ (G:=Xbi.G) Xbi.Gok [(6,([4,9,123,124,125],[9,27]))] (fun x s=>((x.1.1,x.1.2.1,x.1.2.2.1,x.1.2.2.2.1,x.1.2.2.2.2.1,x.1.2.2.2.2.2.1,x.1.2.2.2.2.2.2.1,x.1.2.2.2.2.2.2.2.1,s.1,x.1.2.2.2.2.2.2.2.2.2),(s.2.1,(x.2.2.1.1,s.2.2),x.2.2.2)))
  (fun x s=>by simp only[B,mC,mB,mS,mO,mN];kernel_rfl)
end Xcm
namespace Xd3
def c:=Yap (Yag Proofs.Try.f34) [1,1,1,1,1,1,0,1,0,0]
def sp:SP:=⟨[(4,.loc 27 []),(9,.seg 9 []),(123,.cs (.sl Xd)),(124,.cs I64),(125,.cs I64)],[(9,.reg,.cd SI),(27,.mem,.pr (.cs Xi) (.cd (.pair (.sl .bool) (.pair (.sl (.sl Xe)) (.pair I64 (.pair SI (.pair SI .unit)))))))]⟩
def fr:=Yjc sp (fun x s=>Xd3.B x.1.2.2.1 x.1.2.2.2.1 x.2.2.1.1 s.1 s.2.1 s.2.2) (fun x=>(x.1.2.2.2.2.1,x.2.1,x.2.2.1.2)) fun x (bb0:(List Bool)×(List (List Xc))×Int×(List Int)×(List Int)×Unit) _ kk0=>kk0 (.ex 4) ⟨[(4,.loc 27 [])],[(27,some ⟨.mem,.pr (.cs Xi x.2.2.1.1) (.cd (.pair (.sl .bool) (.pair (.sl (.sl Xe)) (.pair I64 (.pair SI (.pair SI .unit))))) bb0)⟩)]⟩
theorem ok:Ya5 PR 164 1 (.loop c) fr:=
 Yxn Xf Xg ⟨[1],[],[],0⟩ (.R (.R (.L (.one (.R (.R (.R (.one (.fr 3))))))))) (G:=Xbi.G) Xbi.Gok (L:=mkL [(3,Xcm.fr)]) (l:=[(3,.loop Xcm.c)]) ⟨Lam.cons Xcm.ok,trivial⟩ [(4,([4],[27]))] (fun x s=>((x.1.1,x.1.2.1,x.1.2.2.1,x.1.2.2.2.1,s.1,x.1.2.2.2.2.2),(s.2.1,(x.2.2.1.1,s.2.2),x.2.2.2)))
  (fun x s=>by simp only[B,mC,mB,mS,mO,mN];kernel_rfl)
end Xd3
namespace Xbi
def pts:List PT:=[.cs Xi]
def FS:FS:=Ybn [.sh] pts (fun x=>Xbi x.1) fun t=>⟨[.op (.pr (.cs Xi t.1) (.cd (.pair (.sl .bool) (.pair (.sl (.sl Xe)) (.pair I64 (.pair SI (.pair SI .unit))))) t.2))],[]⟩
theorem ok:Yb5 PR 34 FS:=
 Yxj Xf Xg Proofs.Try.f34 ⟨[1],[],[],0⟩ (.R (.R (.R (.R (.two (.R (.one (.fr 0))) (.R (.L (.R (.one (.fr 2)))))))))) (G:=G) Gok (L:=mkL [(1,Xcq.fr),(0,Xec.fr),(3,Xcm.fr),(2,Xd3.fr)]) (l:=[(0,.loop Xec.c),(2,.loop Xd3.c)]) ⟨Lam.skip rfl (Lam.cons Xec.ok),Lam.skip rfl (Lam.skip rfl (Lam.skip rfl (Lam.cons Xd3.ok))),trivial⟩
  (fun x=>by simp only[Xbi,mC,mB,mS,mO,mN];kernel_rfl)
end Xbi
noncomputable def Xfs (s:List Int):Option (List Int):=Yma s
noncomputable def Xfs.FS:FS:=Ybn [.sh] [.cl .sh (.sl (.int .u8))] (fun x=>Xfs x.1) fun y=>⟨[.cl .deep (.sl (.int .u8)) y],[]⟩
theorem Xfs.ok:Yb5 Go.Proofs.Try.prog 89 Xfs.FS:=
 Yvo (hn:=⟨[],[],[],0⟩) Xf Xg (fn:=Go.Proofs.Try.f89) (by kernel_rfl) (Yg4 (by kernel_rfl)) (by kernel_rfl) (by kernel_rfl) .deep (.int .u8) 68 68 5 (by kernel_rfl) (by kernel_rfl) (by kernel_rfl) (by kernel_rfl) (by kernel_rfl) (by kernel_rfl) (by kernel_rfl) (by kernel_rfl) (fun xs=>by kernel_rfl) (fun xs=>by kernel_rfl) (fun xs=>by kernel_rfl) (fun xs=>by kernel_rfl)
def Xdn.B (v:List (List Int)) (v2:Int) (v3:Int) (v4:List (List Int)):Option ((Int×List (List Int))⊕(List (List Int))):=
 cond (decide (v3<v2)) (cond (inB v3 v.length) ((Xfs (v.getD v3.toNat [])).bind fun v5=>cond (decide ((v4++([v5])).length≤2147483648)) (some (.inl (w64 (v3+1),v4++([v5])))) none) none) (some (.inr v4))
def Xdn (v:List (List Int)) (v2:Int):(Int×List (List Int))→Option (List (List Int)):=
 Y9 fun s=>Xdn.B v v2 s.1 s.2
def Xdt (v:List (List Int)):Option (List (List Int)):=
 (Xdn v (v.length:Int) (0,[])).bind fun v6=>some v6
namespace Xdt
def G:Gam:=mkG [(89,Xfs.FS)]
theorem Gok:GOk PR G:=.cons Xfs.ok .nil
end Xdt
namespace Xdn
def c:=Yap (Yag Proofs.Try.f75) [1,1,0,1,0,0]
def sp:SP:=⟨[(3,.seg 3 []),(6,.cs (.sl SB)),(7,.cs I64),(8,.cs I64)],[(3,.reg,.cd (.sl SB))]⟩
def fr:=Yjc sp (fun x s=>Xdn.B x.1.2.1 x.1.2.2.1 s.1 s.2) (fun x=>(x.1.2.2.2.1,x.2.1)) fun x (bb0:List (List Int)) _ kk0=>kk0 (.ex 0) ⟨[(3,.seg 3 [])],[sr 3 (.cd (.sl SB) bb0)]⟩
theorem ok:Ya5 PR 19 1 (.loop c) fr:=
 Yxl Xf Xg h0 (G:=Xdt.G) Xdt.Gok [(0,([3],[3]))] (fun x s=>((x.1.1,x.1.2.1,x.1.2.2.1,s.1,x.1.2.2.2.2),(s.2,x.2.2)))
  (fun x s=>by simp only[B,mC,mB,mS,mO,mN];kernel_rfl)
end Xdn
namespace Xdt
def pts:List PT:=[.cs (.sl SB)]
def FS:FS:=Ybn [.sh] pts (fun x=>Xdt x.1) fun t=>⟨[.cd (.sl SB) t],[]⟩
theorem ok:Yb5 PR 75 FS:=
 Yxj Xf Xg Proofs.Try.f75 h0 (.R (.R (.L (.R (.one (.fr 0)))))) (G:=G) Gok (L:=mkL [(0,Xdn.fr)]) (l:=[(0,.loop Xdn.c)]) ⟨Lam.cons Xdn.ok,trivial⟩
  (fun x=>by simp only[Xdt,mC,mB,mS,mO,mN];kernel_rfl)
end Xdt
noncomputable def Xgf (s:List Int):Option (List Int):=Yma s
noncomputable def Xgf.FS:FS:=Ybn [.sh] [.cl .sh (.sl (.int .i64))] (fun x=>Xgf x.1) fun y=>⟨[.cl .deep (.sl (.int .i64)) y],[]⟩
theorem Xgf.ok:Yb5 Go.Proofs.Try.prog 76 Xgf.FS:=
 Yvo (hn:=⟨[],[],[],0⟩) Xf Xg (fn:=Go.Proofs.Try.f76) (by kernel_rfl) (Yg4 (by kernel_rfl)) (by kernel_rfl) (by kernel_rfl) .deep (.int .i64) 27 27 2 (by kernel_rfl) (by kernel_rfl) (by kernel_rfl) (by kernel_rfl) (by kernel_rfl) (by kernel_rfl) (by kernel_rfl) (by kernel_rfl) (fun xs=>by kernel_rfl) (fun xs=>by kernel_rfl) (fun xs=>by kernel_rfl) (fun xs=>by kernel_rfl)
noncomputable def Xeb (s:List Xc):Option (List Xc):=Yma s
noncomputable def Xeb.FS:FS:=Ybn [.sh] [.cl .sh (.sl Xe)] (fun x=>Xeb x.1) fun y=>⟨[.cl .deep (.sl Xe) y],[]⟩
theorem Xeb.ok:Yb5 Go.Proofs.Try.prog 56 Xeb.FS:=
 Yvo (hn:=⟨[],[],[],0⟩) Xf Xg (fn:=Go.Proofs.Try.f56) (by kernel_rfl) (Yg4 (by kernel_rfl)) (by kernel_rfl) (by kernel_rfl) .deep Xe 70 70 91 (by kernel_rfl) (by kernel_rfl) (by kernel_rfl) (by kernel_rfl) (by kernel_rfl) (by kernel_rfl) (by kernel_rfl) (by kernel_rfl) (fun xs=>by kernel_rfl) (fun xs=>by kernel_rfl) (fun xs=>by kernel_rfl) (fun xs=>by kernel_rfl)
def Xd4.B (v3:List Xb) (v4:Int) (v6:Fs_) (v5:Int) (v7:Fs_):Option ((Int×Fs_)⊕Fs_):=
 cond (decide (v5<v4)) (cond (inB v5 v3.length) ((Xgf (v3.getD v5.toNat Xa).2.2.2.1).bind fun v8=>(Xeb (v3.getD v5.toNat Xa).2.2.2.2.1).bind fun v9=>(some (v7.1++([((v3.getD v5.toNat Xa).1,(v3.getD v5.toNat Xa).2.1,(v3.getD v5.toNat Xa).2.2.1,v8,v9,(v3.getD v5.toNat Xa).2.2.2.2.2)]))).bind fun v10=>cond (decide (v10.length≤2147483648)) (some (.inl (w64 (v5+1),(v10,v7.2)))) none) none) (some (.inr v7))
def Xd4 (v3:List Xb) (v4:Int) (v6:Fs_):(Int×Fs_)→Option Fs_:=
 Y9 fun s=>Xd4.B v3 v4 v6 s.1 s.2
def Xc8 (v:Fs_):Option Fs_:=
 (Xdt v.2.1).bind fun v2=>(Xd4 v.1 (v.1.length:Int) ([],[],()) (0,([],v2,()))).bind fun v11=>some (v11.1,v11.2.1,v11.2.2)
namespace Xc8
def G:Gam:=mkG [(75,Xdt.FS),(76,Xgf.FS),(56,Xeb.FS)]
theorem Gok:GOk PR G:=.cons Xdt.ok (.cons Xgf.ok (.cons Xeb.ok .nil))
end Xc8
namespace Xd4
def c:=Yap (Yag Proofs.Try.f55) [1,1,0,1,0,0]
def sp:SP:=⟨[(2,.loc 2 []),(3,.loc 3 []),(11,.cs (.sl Xd)),(12,.cs I64),(13,.cs I64)],[(2,.mem,.cd Xi),(3,.mem,.cd Xi)]⟩
def fr:=Yjc sp (fun x s=>Xd4.B x.1.2.2.1 x.1.2.2.2.1 x.2.1 s.1 s.2) (fun x=>(x.1.2.2.2.2.1,x.2.2.1)) fun x (bb0:Fs_) _ kk0=>kk0 (.ex 0) ⟨[(2,.loc 2 []),(3,.loc 3 [])],[(2,some ⟨.mem,.cd Xi x.2.1⟩),(3,some ⟨.mem,.cd Xi bb0⟩)]⟩
theorem ok:Ya5 PR 33 1 (.loop c) fr:=
 Yxl Xf Xg ⟨[1],[],[],0⟩ (G:=Xc8.G) Xc8.Gok [(0,([2,3],[2,3]))] (fun x s=>((x.1.1,x.1.2.1,x.1.2.2.1,x.1.2.2.2.1,s.1,x.1.2.2.2.2.2),(x.2.1,s.2,x.2.2.2)))
  (fun x s=>by simp only[B,mC,mB,mS,mO,mN];kernel_rfl)
end Xd4
namespace Xc8
def pts:List PT:=[.cs Xi]
def FS:FS:=Ybn [.sh] pts (fun x=>Xc8 x.1) fun t=>⟨[.cd Xi t],[]⟩
theorem ok:Yb5 PR 55 FS:=
 Yxj Xf Xg Proofs.Try.f55 ⟨[1],[],[],0⟩ (.R (.R (.L (.R (.one (.fr 0)))))) (G:=G) Gok (L:=mkL [(0,Xd4.fr)]) (l:=[(0,.loop Xd4.c)]) ⟨Lam.cons Xd4.ok,trivial⟩
  (fun x=>by simp only[Xc8,mC,mB,mS,mO,mN];kernel_rfl)
end Xc8
def Xah.B (v:List Xb) (v2:Int) (v3:Int) (v7:List Int) (v6:Int) (v4:List Int) (v10:Xb) (v8:Int) (v9:List Int):Option ((Int×List Int)⊕(List Int)):=
 cond (decide (v8<v6)) (cond (inB v8 v7.length) ((some (cond (decide ((w64 (v10.2.2.1-(w64 (v8*8))))<8)) (w64 (v10.2.2.1-(w64 (v8*8)))) 8)).bind fun v11=>cond (inB (v7.getD v8.toNat 0) 20) (some (.inl (w64 (v8+1),v9.set ((v7.getD v8.toNat 0).toNat) v11))) none) none) (some (.inr v9))
def Xah (v:List Xb) (v2:Int) (v3:Int) (v7:List Int) (v6:Int) (v4:List Int) (v10:Xb):(Int×List Int)→Option (List Int):=
 Y9 fun s=>Xah.B v v2 v3 v7 v6 v4 v10 s.1 s.2
def Xa6.B (v:List Xb) (v2:Int) (v4:List Int) (v3:Int) (v5:List Int):Option ((Int×List Int)⊕(List Int)):=
 cond (decide (v3<v2)) (cond (inB v3 v.length) ((some ((v.getD v3.toNat Xa).2.2.2.1.length:Int)).bind fun v6=>(Xah v v2 v3 (v.getD v3.toNat Xa).2.2.2.1 v6 v4 (v.getD v3.toNat Xa) (0,v5)).bind fun v12=>some (.inl (w64 (v3+1),v12))) none) (some (.inr v5))
def Xa6 (v:List Xb) (v2:Int) (v4:List Int):(Int×List Int)→Option (List Int):=
 Y9 fun s=>Xa6.B v v2 v4 s.1 s.2
def Xcs (v:List Xb):Option (List Int):=
 (Xa6 v (v.length:Int) (List.replicate 20 0) (0,(List.replicate 20 0))).bind fun v13=>some v13
namespace Xah
def c:=Yap (Yag Proofs.Try.f47) [1,1,0,1,0,0,1,1,0,0,1,1,0,0]
def sp:SP:=⟨[(2,.loc 2 []),(3,.loc 3 []),(5,.loc 5 []),(8,.cs (.sl Xd)),(9,.cs I64),(10,.cs I64),(15,.cs SI),(16,.cs I64),(17,.cs I64)],[(2,.mem,.cd (.arr 20 I64)),(3,.mem,.cd (.arr 20 I64)),(5,.mem,.cs Xd)]⟩
def fr:=Yjc sp (fun x s=>Xah.B x.1.2.2.2.1 x.1.2.2.2.2.1 x.1.2.2.2.2.2.1 x.1.2.2.2.2.2.2.1 x.1.2.2.2.2.2.2.2.1 x.2.1 x.2.2.2.1 s.1 s.2) (fun x=>(x.1.2.2.2.2.2.2.2.2.1,x.2.2.1)) fun x (bb0:List Int) _ kk0=>kk0 (.ex 2) ⟨[(2,.loc 2 []),(3,.loc 3 []),(8,.cs (.sl Xd) x.1.2.2.2.1),(9,.cs I64 x.1.2.2.2.2.1),(10,.cs I64 x.1.2.2.2.2.2.1)],[(2,some ⟨.mem,.cd (.arr 20 I64) x.2.1⟩),(3,some ⟨.mem,.cd (.arr 20 I64) bb0⟩)]⟩
theorem ok:Ya5 PR 33 1 (.loop c) fr:=
 Yw4 Xf Xg h0 [(2,([2,3,8,9,10],[2,3]))] (fun x s=>((x.1.1,x.1.2.1,x.1.2.2.1,x.1.2.2.2.1,x.1.2.2.2.2.1,x.1.2.2.2.2.2.1,x.1.2.2.2.2.2.2.1,x.1.2.2.2.2.2.2.2.1,s.1,x.1.2.2.2.2.2.2.2.2.2),(x.2.1,s.2,x.2.2.2)))
  (fun x s=>by simp only[B,mC,mB,mS,mO,mN];kernel_rfl)
end Xah
namespace Xa6
def c:=Yap (Yag Proofs.Try.f47) [1,1,0,1,0,0]
def sp:SP:=⟨[(2,.loc 2 []),(3,.loc 3 []),(8,.cs (.sl Xd)),(9,.cs I64),(10,.cs I64)],[(2,.mem,.cd (.arr 20 I64)),(3,.mem,.cd (.arr 20 I64))]⟩
def fr:=Yjc sp (fun x s=>Xa6.B x.1.2.2.1 x.1.2.2.2.1 x.2.1 s.1 s.2) (fun x=>(x.1.2.2.2.2.1,x.2.2.1)) fun x (bb0:List Int) _ kk0=>kk0 (.ex 0) ⟨[(2,.loc 2 []),(3,.loc 3 [])],[(2,some ⟨.mem,.cd (.arr 20 I64) x.2.1⟩),(3,some ⟨.mem,.cd (.arr 20 I64) bb0⟩)]⟩
theorem ok:Ya5 PR 33 1 (.loop c) fr:=
 Yxk Xf Xg h0 (.R (.R (.L (.one (.R (.R (.one (.fr 1)))))))) (L:=mkL [(1,Xah.fr)]) (l:=[(1,.loop Xah.c)]) ⟨Lam.cons Xah.ok,trivial⟩ [(0,([2,3],[2,3]))] (fun x s=>((x.1.1,x.1.2.1,x.1.2.2.1,x.1.2.2.2.1,s.1,x.1.2.2.2.2.2),(x.2.1,s.2,x.2.2.2)))
  (fun x s=>by simp only[B,mC,mB,mS,mO,mN];kernel_rfl)
end Xa6
namespace Xcs
def pts:List PT:=[.cs (.sl Xd)]
def FS:FS:=Ybn [.sh] pts (fun x=>Xcs x.1) fun t=>⟨[.cs (.arr 20 I64) t],[]⟩
theorem ok:Yb5 PR 47 FS:=
 Yxj Xf Xg Proofs.Try.f47 h0 (.R (.R (.L (.R (.one (.fr 0)))))) (G:=(mkG [])) .nil (L:=mkL [(1,Xah.fr),(0,Xa6.fr)]) (l:=[(0,.loop Xa6.c)]) ⟨Lam.skip rfl (Lam.cons Xa6.ok),trivial⟩
  (fun x=>by simp only[Xcs,mC,mB,mS,mO,mN];kernel_rfl)
end Xcs
def Xb8 (v:List Int):Option Int:=
 some (v.length:Int)
namespace Xb8
def pts:List PT:=[.cs SB]
def FS:FS:=Ybn [.sh] pts (fun x=>Xb8 x.1) fun t=>⟨[.cs I64 t],[]⟩
theorem ok:Yb5 PR 48 FS:=
 Yxj Xf Xg Proofs.Try.f48 h0 .no (G:=(mkG [])) .nil (L:=mkL []) (l:=[]) hT
  (fun x=>by simp only[Xb8,mC,mB,mS,mO,mN];kernel_rfl)
end Xb8
def X7.B (v2:Int) (v3:List Int):Option ((List Int)⊕(List Int)):=
 (Xb8 v3).bind fun v4=>cond (decide (v4<v2)) (cond (decide ((v3++([0])).length≤2147483648)) (some (.inl (v3++([0])))) none) (some (.inr v3))
def X7 (v2:Int):(List Int)→Option (List Int):=
 Y9 fun s=>X7.B v2 s
def Xac (v:List Int) (v2:Int):Option (List Int):=
 (X7 v2 v).bind fun v5=>some v5
namespace Xac
def G:Gam:=mkG [(48,Xb8.FS)]
theorem Gok:GOk PR G:=.cons Xb8.ok .nil
end Xac
namespace X7
def c:=Yap (Yag Proofs.Try.f57) [1,0,0,0]
def sp:SP:=⟨[(0,.seg 0 []),(1,.cs I64)],[(0,.reg,.cd SB)]⟩
def fr:=Yjc sp (fun x s=>X7.B x.1.2.1 s) (fun x=>x.2.1) fun x (bb0:List Int) _ kk0=>kk0 (.ex 0) ⟨[(0,.seg 0 [])],[sr 0 (.cd SB bb0)]⟩
theorem ok:Ya5 PR 13 0 (.loop c) fr:=
 Yxl Xf Xg h0 (G:=Xac.G) Xac.Gok [(0,([0],[0]))] (fun x s=>(x.1,(s,x.2.2)))
  (fun x s=>by simp only[B,mC,mB,mS,mO,mN];kernel_rfl)
end X7
namespace Xac
def pts:List PT:=[.cd SB,.cs I64]
def FS:FS:=Ybn [.mu,.sh] pts (fun x=>Xac x.1 x.2.1) fun t=>⟨[.cd SB t],[.dead 1]⟩
theorem ok:Yb5 PR 57 FS:=
 Yxd Xf Xg Proofs.Try.f57 h0 (.R (.L (.one (.fr 0)))) (G:=G) Gok (L:=mkL [(0,X7.fr)]) (l:=[(0,.loop X7.c)]) ⟨Lam.cons X7.ok,trivial⟩
  (fun x=>by simp only[Xac,mC,mB,mS,mO,mN];kernel_rfl)
end Xac
def Xa1.B (v:Xfy) (v3:Int) (v5:Fs_) (v4:Int) (v6:Fs_):Option ((Int×Fs_)⊕Fs_):=
 cond (decide (v4<v3)) (cond (inB v4 v6.1.length) (cond (inB v4 v.2.1.length) (cond (!(v.2.1.getD v4.toNat false)) (some (.inl (w64 (v4+1),(v6.1.set v4.toNat (0,0,0,[],[],()),v6.2)))) (cond ((v6.1.getD v4.toNat Xa).1 == 2) (cond (inB v4 v.2.2.1.length) ((Xeb (v.2.2.1.getD v4.toNat [])).bind fun v7=>(some (v6.1.set v4.toNat ((v6.1.getD v4.toNat Xa).1,(v6.1.getD v4.toNat Xa).2.1,(v6.1.getD v4.toNat Xa).2.2.1,(v6.1.getD v4.toNat Xa).2.2.2.1,v7,(v6.1.getD v4.toNat Xa).2.2.2.2.2))).bind fun v8=>some (.inl (w64 (v4+1),(v8,v6.2)))) none) (cond (inB v4 v.2.2.2.2.2.1.length) (cond (decide ((0:Int)≤(v.2.2.2.2.2.1.getD v4.toNat 0))&&decide ((v.2.2.2.2.2.1.getD v4.toNat 0)≤((v6.1.getD v4.toNat Xa).2.2.2.1.length:Int))) (cond (Nat.beq v4.toNat v4.toNat&&true) ((some (((v6.1.getD v4.toNat Xa).2.2.2.1.drop 0).take (((v.2.2.2.2.2.1.getD v4.toNat 0).toNat)-0))).bind fun v9=>(some (v6.1.set v4.toNat ((v6.1.getD v4.toNat Xa).1,(v6.1.getD v4.toNat Xa).2.1,(v6.1.getD v4.toNat Xa).2.2.1,v9,(v6.1.getD v4.toNat Xa).2.2.2.2))).bind fun v10=>cond (inB v4 v.2.2.2.2.2.1.length) ((some (cond (decide ((w64 ((v.2.2.2.2.2.1.getD v4.toNat 0)*8))<(v10.getD v4.toNat Xa).2.2.1)) (w64 ((v.2.2.2.2.2.1.getD v4.toNat 0)*8)) (v10.getD v4.toNat Xa).2.2.1)).bind fun v11=>(some (v10.set v4.toNat ((v10.getD v4.toNat Xa).1,(v10.getD v4.toNat Xa).2.1,v11,(v10.getD v4.toNat Xa).2.2.2))).bind fun v12=>cond (inB v4 v.2.2.2.2.1.length) ((some (v12.set v4.toNat ((v12.getD v4.toNat Xa).1,v.2.2.2.2.1.getD v4.toNat 0,(v12.getD v4.toNat Xa).2.2))).bind fun v13=>some (.inl (w64 (v4+1),(v13,v6.2)))) none) none) none) none) none))) none) none) (some (.inr v6))
def Xa1 (v:Xfy) (v3:Int) (v5:Fs_):(Int×Fs_)→Option Fs_:=
 Y9 fun s=>Xa1.B v v3 v5 s.1 s.2
def Xa7.B (v15:List Int) (v17:Fs_) (v16:Int) (v18:Fs_):Option ((Int×Fs_)⊕Fs_):=
 cond (decide (v16<20)) (cond (inB v16 20) (cond (inB v16 v18.2.1.length) ((Xac (v18.2.1.getD v16.toNat []) (v15.getD v16.toNat 0)).bind fun v19=>cond (decide ((0:Int)≤(v15.getD v16.toNat 0))&&decide ((v15.getD v16.toNat 0)≤(v19.length:Int))) (cond (inB v16 v18.2.1.length) (cond (Nat.beq v16.toNat v16.toNat&&true) ((some ((v19.drop 0).take (((v15.getD v16.toNat 0).toNat)-0))).bind fun v20=>some (.inl (w64 (v16+1),(v18.1,v18.2.1.set v16.toNat v20,v18.2.2)))) none) none) none) none) none) (some (.inr v18))
def Xa7 (v15:List Int) (v17:Fs_):(Int×Fs_)→Option Fs_:=
 Y9 fun s=>Xa7.B v15 v17 s.1 s.2
def X9 (v:Xfy):Option Fs_:=
 (Xc8 v.1).bind fun v2=>(Xa1 v (v2.1.length:Int) ([],[],()) (0,(v2.1,v2.2.1,v2.2.2))).bind fun v14=>(Xcs v14.1).bind fun v15=>(Xa7 v15 ([],[],()) (0,v14)).bind fun v21=>some (v21.1,v21.2.1,v21.2.2)
namespace X9
def G:Gam:=mkG [(55,Xc8.FS),(56,Xeb.FS),(47,Xcs.FS),(57,Xac.FS)]
theorem Gok:GOk PR G:=.cons Xc8.ok (.cons Xeb.ok (.cons Xcs.ok (.cons Xac.ok .nil)))
end X9
namespace Xa1
def c:=Yap (Yag Proofs.Try.f35) [1,1,0,1,0,0]
def sp:SP:=⟨[(0,.pt Xeq),(2,.loc 2 []),(3,.loc 3 []),(15,.cs I64),(16,.cs I64)],[(2,.mem,.cd Xi),(3,.mem,.cd Xi)]⟩
def fr:=Yjc sp (fun x s=>Xa1.B x.1.1 x.1.2.2.2.1 x.2.1 s.1 s.2) (fun x=>(x.1.2.2.2.2.1,x.2.2.1)) fun x (bb0:Fs_) _ kk0=>kk0 (.ex 0) ⟨[(2,.loc 2 []),(3,.loc 3 [])],[(2,some ⟨.mem,.cd Xi x.2.1⟩),(3,some ⟨.mem,.cd Xi bb0⟩)]⟩
theorem ok:Ya5 PR 116 1 (.loop c) fr:=
 Yxl Xf Xg h0 (G:=X9.G) X9.Gok [(0,([2,3],[2,3]))] (fun x s=>((x.1.1,x.1.2.1,x.1.2.2.1,x.1.2.2.2.1,s.1,x.1.2.2.2.2.2),(x.2.1,s.2,x.2.2.2)))
  (fun x s=>by simp only[B,mC,mB,mS,mO,mN];kernel_rfl)
end Xa1
namespace Xa7
def c:=Yap (Yag Proofs.Try.f35) [1,1,1,0,1,0,0]
def sp:SP:=⟨[(2,.loc 2 []),(3,.loc 3 []),(96,.cs (.arr 20 I64)),(97,.cs I64)],[(2,.mem,.cd Xi),(3,.mem,.cd Xi)]⟩
def fr:=Yjc sp (fun x s=>Xa7.B x.1.2.2.1 x.2.1 s.1 s.2) (fun x=>(x.1.2.2.2.1,x.2.2.1)) fun x (bb0:Fs_) _ kk0=>kk0 (.ex 3) ⟨[(2,.loc 2 []),(3,.loc 3 [])],[(2,some ⟨.mem,.cd Xi x.2.1⟩),(3,some ⟨.mem,.cd Xi bb0⟩)]⟩
theorem ok:Ya5 PR 116 1 (.loop c) fr:=
 Yxl Xf Xg h0 (G:=X9.G) X9.Gok [(3,([2,3],[2,3]))] (fun x s=>((x.1.1,x.1.2.1,x.1.2.2.1,s.1,x.1.2.2.2.2),(x.2.1,s.2,x.2.2.2)))
  (fun x s=>by simp only[B,mC,mB,mS,mO,mN];kernel_rfl)
end Xa7
namespace X9
def pts:List PT:=[.pt Xeq]
def FS:FS:=Ybn [.sh] pts (fun x=>X9 x.1) fun t=>⟨[.cd Xi t],[]⟩
theorem ok:Yb5 PR 35 FS:=
 Yxj Xf Xg Proofs.Try.f35 h0 (.R (.R (.two (.R (.one (.fr 0))) (.L (.R (.one (.fr 1))))))) (G:=G) Gok (L:=mkL [(0,Xa1.fr),(1,Xa7.fr)]) (l:=[(0,.loop Xa1.c),(1,.loop Xa7.c)]) ⟨Lam.cons Xa1.ok,Lam.skip rfl (Lam.cons Xa7.ok),trivial⟩
  (fun x=>by simp only[X9,mC,mB,mS,mO,mN];kernel_rfl)
end X9
def Xbw (v:Fs_):Option Xv:=
 (Xe5 v).bind fun v2=>cond (v2 != 0) (some (v2,([],[],()),())) ((Xbi v).bind fun v3=>(X9 (v3.1,v3.2)).bind fun v4=>some (0,(v4.1,v4.2.1,v4.2.2),()))
namespace Xbw
def G:Gam:=mkG [(25,Xe5.FS),(34,Xbi.FS),(35,X9.FS)]
def pts:List PT:=[.cs Xi]
def FS:FS:=Ybn [.sh] pts (fun x=>Xbw x.1) fun t=>⟨[.cd Xl t],[]⟩
theorem ok:Yb5 PR 15 FS:=
 Yxj Xf Xg Proofs.Try.f15 ⟨[1],[],[],0⟩ .no (G:=G) (show GOk PR G from .cons Xe5.ok (.cons Xbi.ok (.cons X9.ok .nil))) (L:=mkL []) (l:=[]) hT
  (fun x=>by simp only[Xbw,mC,mB,mS,mO,mN];kernel_rfl)
end Xbw
def Xaz.B (a:List Int) (b:List Int) (i_:Int):Option (Int⊕((Bool⊕Unit))):=
 cond (decide (i_<(a.length:Int))) (cond (inB i_ a.length) (cond (inB i_ b.length) (cond ((a.getD i_.toNat 0) != (b.getD i_.toNat 0)) (some (.inr (.inl false))) (some (.inl (w64 (i_+1))))) none) none) (some (.inr (.inr ())))
def Xaz (a:List Int) (b:List Int):Int→Option ((Bool⊕Unit)):=
 Y9 fun s=>Xaz.B a b s
def Xc1 (a:List Int) (b:List Int):Option Bool:=
 cond ((a.length:Int) != (b.length:Int)) (some false) ((Xaz a b 0).bind fun o=>sel o (fun b2=>some b2) (fun c=>some true))
namespace Xaz
def c:=Yap (Yag Proofs.Try.f27) [1,1,0,1,0,0]
def sp:SP:=⟨[(0,.cs SI),(1,.cs SI),(5,.cs I64)],[]⟩
def fr:=Yjc sp (fun x s=>Xaz.B x.1.1 x.1.2.1 s) (fun x=>x.1.2.2.1) fun x (oo0:(Bool⊕Unit)) _ kk0=>sel oo0 (fun bb0=>kk0 (.rt) ⟨[(4,.cs .bool bb0)],[]⟩) (fun cc0=>kk0 (.ex 0) ⟨[],[]⟩)
theorem ok:Ya5 PR 26 2 (.loop c) fr:=
 Ytf Xf Xg h0 .no (G:=(mkG [])) .nil (L:=mkL []) (l:=[]) hT [(0,([],[]))] ([4],[]) (fun x s=>((x.1.1,x.1.2.1,s,x.1.2.2.2),x.2))
  (fun x s=>by simp only[B,mC,mB,mS,mO,mN];kernel_rfl)
end Xaz
namespace Xc1
def pts:List PT:=[.cs SI,.cs SI]
def FS:FS:=Ybn [.sh,.sh] pts (fun x=>Xc1 x.1 x.2.1) fun t=>⟨[.cs .bool t],[]⟩
theorem ok:Yb5 PR 27 FS:=
 Yxj Xf Xg Proofs.Try.f27 h0 (.R (.R (.L (.R (.one (.fr 0)))))) (G:=(mkG [])) .nil (L:=mkL [(0,Xaz.fr)]) (l:=[(0,.loop Xaz.c)]) ⟨Lam.cons Xaz.ok,trivial⟩
  (fun x=>by simp only[Xc1,mC,mB,mS,mO,mN];kernel_rfl)
end Xc1
def Xc3 (a:Xc) (b:Xc):Option Bool:=
 cond (!(a.1 == b.1)) (some false) (cond (a.2.1 != b.2.1) (some false) (some true))
namespace Xc3
def pts:List PT:=[.cs Xe,.cs Xe]
def FS:FS:=Ybn [.sh,.sh] pts (fun x=>Xc3 x.1 x.2.1) fun t=>⟨[.cs .bool t],[]⟩
theorem ok:Yb5 PR 88 FS:=
 Yxj Xf Xg Proofs.Try.f88 ⟨[2,3],[],[],0⟩ .no (G:=(mkG [])) .nil (L:=mkL []) (l:=[]) hT
  (fun x=>by simp only[Xc3,mC,mB,mS,mO,mN];kernel_rfl)
end Xc3
def Xa5.B (a:List Xc) (b:List Xc) (i_:Int):Option (Int⊕((Bool⊕Unit))):=
 cond (decide (i_<(a.length:Int))) (cond (inB i_ a.length) (cond (inB i_ b.length) ((Xc3 (a.getD i_.toNat Xh) (b.getD i_.toNat Xh)).bind fun r=>cond (!r) (some (.inr (.inl false))) (some (.inl (w64 (i_+1))))) none) none) (some (.inr (.inr ())))
def Xa5 (a:List Xc) (b:List Xc):Int→Option ((Bool⊕Unit)):=
 Y9 fun s=>Xa5.B a b s
def Xbh (a:List Xc) (b:List Xc):Option Bool:=
 cond ((a.length:Int) != (b.length:Int)) (some false) ((Xa5 a b 0).bind fun o=>sel o (fun b2=>some b2) (fun c=>some true))
namespace Xbh
def G:Gam:=mkG [(88,Xc3.FS)]
theorem Gok:GOk PR G:=.cons Xc3.ok .nil
end Xbh
namespace Xa5
def c:=Yap (Yag Proofs.Try.f71) [1,1,0,1,0,0]
def sp:SP:=⟨[(0,.cs (.sl Xe)),(1,.cs (.sl Xe)),(5,.cs I64)],[]⟩
def fr:=Yjc sp (fun x s=>Xa5.B x.1.1 x.1.2.1 s) (fun x=>x.1.2.2.1) fun x (oo0:(Bool⊕Unit)) _ kk0=>sel oo0 (fun bb0=>kk0 (.rt) ⟨[(4,.cs .bool bb0)],[]⟩) (fun cc0=>kk0 (.ex 0) ⟨[],[]⟩)
theorem ok:Ya5 PR 27 2 (.loop c) fr:=
 Ytf Xf Xg h0 .no (G:=Xbh.G) Xbh.Gok (L:=mkL []) (l:=[]) hT [(0,([],[]))] ([4],[]) (fun x s=>((x.1.1,x.1.2.1,s,x.1.2.2.2),x.2))
  (fun x s=>by simp only[B,mC,mB,mS,mO,mN];kernel_rfl)
end Xa5
namespace Xbh
def pts:List PT:=[.cs (.sl Xe),.cs (.sl Xe)]
def FS:FS:=Ybn [.sh,.sh] pts (fun x=>Xbh x.1 x.2.1) fun t=>⟨[.cs .bool t],[]⟩
theorem ok:Yb5 PR 71 FS:=
 Yxj Xf Xg Proofs.Try.f71 h0 (.R (.R (.L (.R (.one (.fr 0)))))) (G:=G) Gok (L:=mkL [(0,Xa5.fr)]) (l:=[(0,.loop Xa5.c)]) ⟨Lam.cons Xa5.ok,trivial⟩
  (fun x=>by simp only[Xbh,mC,mB,mS,mO,mN];kernel_rfl)
end Xbh
def Xco (a:Xb) (b:Xb):Option Bool:=
 cond (a.1 != b.1) (some false) (cond (a.2.1 != b.2.1) (some false) (cond (a.2.2.1 != b.2.2.1) (some false) ((Xc1 a.2.2.2.1 b.2.2.2.1).bind fun r=>cond (!r) (some false) ((Xbh a.2.2.2.2.1 b.2.2.2.2.1).bind fun r2=>cond (!r2) (some false) (some true)))))
namespace Xco
def G:Gam:=mkG [(27,Xc1.FS),(71,Xbh.FS)]
def pts:List PT:=[.cs Xd,.cs Xd]
def FS:FS:=Ybn [.sh,.sh] pts (fun x=>Xco x.1 x.2.1) fun t=>⟨[.cs .bool t],[]⟩
theorem ok:Yb5 PR 49 FS:=
 Yxj Xf Xg Proofs.Try.f49 ⟨[2,3],[],[],0⟩ .no (G:=G) (show GOk PR G from .cons Xc1.ok (.cons Xbh.ok .nil)) (L:=mkL []) (l:=[]) hT
  (fun x=>by simp only[Xco,mC,mB,mS,mO,mN];kernel_rfl)
end Xco
def Xav.B (a:List Xb) (b:List Xb) (i_:Int):Option (Int⊕((Bool⊕Unit))):=
 cond (decide (i_<(a.length:Int))) (cond (inB i_ a.length) (cond (inB i_ b.length) ((Xco (a.getD i_.toNat Xa) (b.getD i_.toNat Xa)).bind fun r=>cond (!r) (some (.inr (.inl false))) (some (.inl (w64 (i_+1))))) none) none) (some (.inr (.inr ())))
def Xav (a:List Xb) (b:List Xb):Int→Option ((Bool⊕Unit)):=
 Y9 fun s=>Xav.B a b s
def Xa3 (a:List Xb) (b:List Xb):Option Bool:=
 cond ((a.length:Int) != (b.length:Int)) (some false) ((Xav a b 0).bind fun o=>sel o (fun b2=>some b2) (fun c=>some true))
namespace Xa3
def G:Gam:=mkG [(49,Xco.FS)]
theorem Gok:GOk PR G:=.cons Xco.ok .nil
end Xa3
namespace Xav
def c:=Yap (Yag Proofs.Try.f28) [1,1,0,1,0,0]
def sp:SP:=⟨[(0,.cs (.sl Xd)),(1,.cs (.sl Xd)),(5,.cs I64)],[]⟩
def fr:=Yjc sp (fun x s=>Xav.B x.1.1 x.1.2.1 s) (fun x=>x.1.2.2.1) fun x (oo0:(Bool⊕Unit)) _ kk0=>sel oo0 (fun bb0=>kk0 (.rt) ⟨[(4,.cs .bool bb0)],[]⟩) (fun cc0=>kk0 (.ex 0) ⟨[],[]⟩)
theorem ok:Ya5 PR 27 2 (.loop c) fr:=
 Ytf Xf Xg h0 .no (G:=Xa3.G) Xa3.Gok (L:=mkL []) (l:=[]) hT [(0,([],[]))] ([4],[]) (fun x s=>((x.1.1,x.1.2.1,s,x.1.2.2.2),x.2))
  (fun x s=>by simp only[B,mC,mB,mS,mO,mN];kernel_rfl)
end Xav
namespace Xa3
def pts:List PT:=[.cs (.sl Xd),.cs (.sl Xd)]
def FS:FS:=Ybn [.sh,.sh] pts (fun x=>Xa3 x.1 x.2.1) fun t=>⟨[.cs .bool t],[]⟩
theorem ok:Yb5 PR 28 FS:=
 Yxj Xf Xg Proofs.Try.f28 h0 (.R (.R (.L (.R (.one (.fr 0)))))) (G:=G) Gok (L:=mkL [(0,Xav.fr)]) (l:=[(0,.loop Xav.c)]) ⟨Lam.cons Xav.ok,trivial⟩
  (fun x=>by simp only[Xa3,mC,mB,mS,mO,mN];kernel_rfl)
end Xa3
def Xay.B (a:List Int) (b:List Int) (i_:Int):Option (Int⊕((Bool⊕Unit))):=
 cond (decide (i_<(a.length:Int))) (cond (inB i_ a.length) (cond (inB i_ b.length) (cond ((a.getD i_.toNat 0) != (b.getD i_.toNat 0)) (some (.inr (.inl false))) (some (.inl (w64 (i_+1))))) none) none) (some (.inr (.inr ())))
def Xay (a:List Int) (b:List Int):Int→Option ((Bool⊕Unit)):=
 Y9 fun s=>Xay.B a b s
def Xcr (a:List Int) (b:List Int):Option Bool:=
 cond ((a.length:Int) != (b.length:Int)) (some false) ((Xay a b 0).bind fun o=>sel o (fun b2=>some b2) (fun c=>some true))
namespace Xay
def c:=Yap (Yag Proofs.Try.f50) [1,1,0,1,0,0]
def sp:SP:=⟨[(0,.cs SB),(1,.cs SB),(5,.cs I64)],[]⟩
def fr:=Yjc sp (fun x s=>Xay.B x.1.1 x.1.2.1 s) (fun x=>x.1.2.2.1) fun x (oo0:(Bool⊕Unit)) _ kk0=>sel oo0 (fun bb0=>kk0 (.rt) ⟨[(4,.cs .bool bb0)],[]⟩) (fun cc0=>kk0 (.ex 0) ⟨[],[]⟩)
theorem ok:Ya5 PR 26 2 (.loop c) fr:=
 Ytf Xf Xg h0 .no (G:=(mkG [])) .nil (L:=mkL []) (l:=[]) hT [(0,([],[]))] ([4],[]) (fun x s=>((x.1.1,x.1.2.1,s,x.1.2.2.2),x.2))
  (fun x s=>by simp only[B,mC,mB,mS,mO,mN];kernel_rfl)
end Xay
namespace Xcr
def pts:List PT:=[.cs SB,.cs SB]
def FS:FS:=Ybn [.sh,.sh] pts (fun x=>Xcr x.1 x.2.1) fun t=>⟨[.cs .bool t],[]⟩
theorem ok:Yb5 PR 50 FS:=
 Yxj Xf Xg Proofs.Try.f50 h0 (.R (.R (.L (.R (.one (.fr 0)))))) (G:=(mkG [])) .nil (L:=mkL [(0,Xay.fr)]) (l:=[(0,.loop Xay.c)]) ⟨Lam.cons Xay.ok,trivial⟩
  (fun x=>by simp only[Xcr,mC,mB,mS,mO,mN];kernel_rfl)
end Xcr
def Xbd.B (a:List (List Int)) (b:List (List Int)) (i_:Int):Option (Int⊕((Bool⊕Unit))):=
 cond (decide (i_<(a.length:Int))) (cond (inB i_ a.length) (cond (inB i_ b.length) ((Xcr (a.getD i_.toNat []) (b.getD i_.toNat [])).bind fun r=>cond (!r) (some (.inr (.inl false))) (some (.inl (w64 (i_+1))))) none) none) (some (.inr (.inr ())))
def Xbd (a:List (List Int)) (b:List (List Int)):Int→Option ((Bool⊕Unit)):=
 Y9 fun s=>Xbd.B a b s
def Xa0 (a:List (List Int)) (b:List (List Int)):Option Bool:=
 cond ((a.length:Int) != (b.length:Int)) (some false) ((Xbd a b 0).bind fun o=>sel o (fun b2=>some b2) (fun c=>some true))
namespace Xa0
def G:Gam:=mkG [(50,Xcr.FS)]
theorem Gok:GOk PR G:=.cons Xcr.ok .nil
end Xa0
namespace Xbd
def c:=Yap (Yag Proofs.Try.f29) [1,1,0,1,0,0]
def sp:SP:=⟨[(0,.cs (.sl SB)),(1,.cs (.sl SB)),(5,.cs I64)],[]⟩
def fr:=Yjc sp (fun x s=>Xbd.B x.1.1 x.1.2.1 s) (fun x=>x.1.2.2.1) fun x (oo0:(Bool⊕Unit)) _ kk0=>sel oo0 (fun bb0=>kk0 (.rt) ⟨[(4,.cs .bool bb0)],[]⟩) (fun cc0=>kk0 (.ex 0) ⟨[],[]⟩)
theorem ok:Ya5 PR 27 2 (.loop c) fr:=
 Ytf Xf Xg h0 .no (G:=Xa0.G) Xa0.Gok (L:=mkL []) (l:=[]) hT [(0,([],[]))] ([4],[]) (fun x s=>((x.1.1,x.1.2.1,s,x.1.2.2.2),x.2))
  (fun x s=>by simp only[B,mC,mB,mS,mO,mN];kernel_rfl)
end Xbd
namespace Xa0
def pts:List PT:=[.cs (.sl SB),.cs (.sl SB)]
def FS:FS:=Ybn [.sh,.sh] pts (fun x=>Xa0 x.1 x.2.1) fun t=>⟨[.cs .bool t],[]⟩
theorem ok:Yb5 PR 29 FS:=
 Yxj Xf Xg Proofs.Try.f29 h0 (.R (.R (.L (.R (.one (.fr 0)))))) (G:=G) Gok (L:=mkL [(0,Xbd.fr)]) (l:=[(0,.loop Xbd.c)]) ⟨Lam.cons Xbd.ok,trivial⟩
  (fun x=>by simp only[Xa0,mC,mB,mS,mO,mN];kernel_rfl)
end Xa0
def Xbm (a:Fs_) (b:Fs_):Option Bool:=
 (Xa3 a.1 b.1).bind fun r=>cond (!r) (some false) ((Xa0 a.2.1 b.2.1).bind fun r2=>cond (!r2) (some false) (some true))
namespace Xbm
def G:Gam:=mkG [(28,Xa3.FS),(29,Xa0.FS)]
def pts:List PT:=[.cs Xi,.cs Xi]
def FS:FS:=Ybn [.sh,.sh] pts (fun x=>Xbm x.1 x.2.1) fun t=>⟨[.cs .bool t],[]⟩
theorem ok:Yb5 PR 10 FS:=
 Yxj Xf Xg Proofs.Try.f10 ⟨[2,3],[],[],0⟩ .no (G:=G) (show GOk PR G from .cons Xa3.ok (.cons Xa0.ok .nil)) (L:=mkL []) (l:=[]) hT
  (fun x=>by simp only[Xbm,mC,mB,mS,mO,mN];kernel_rfl)
end Xbm
def Xbt (a:Xv) (b:Xv):Option Bool:=
 cond (a.1 != b.1) (some false) ((Xbm a.2.1 b.2.1).bind fun r=>cond (!r) (some false) (some true))
namespace Xbt
def G:Gam:=mkG [(10,Xbm.FS)]
def pts:List PT:=[.cs Xl,.cs Xl]
def FS:FS:=Ybn [.sh,.sh] pts (fun x=>Xbt x.1 x.2.1) fun t=>⟨[.cs .bool t],[]⟩
theorem ok:Yb5 PR 16 FS:=
 Yxj Xf Xg Proofs.Try.f16 ⟨[2,3],[],[],0⟩ .no (G:=G) (show GOk PR G from .cons Xbm.ok .nil) (L:=mkL []) (l:=[]) hT
  (fun x=>by simp only[Xbt,mC,mB,mS,mO,mN];kernel_rfl)
end Xbt
def Xam.B (k_:Int) (i_:Int) (a_:List Int):Option ((Int×Int×List Int)⊕(Int×List Int)):=
 cond (decide (i_<(a_.length:Int))) (cond (inB i_ a_.length) (some (.inl (w64 (k_+1),w64 (i_+1),a_.set i_.toNat k_))) none) (some (.inr (k_,a_)))
def Xam :(Int×Int×List Int)→Option (Int×List Int):=
 Y9 fun s=>Xam.B s.1 s.2.1 s.2.2
def Xcx (a:List Int) (k:Int):Option (Int×List Int):=
 (Xam (k,0,a)).bind fun o=>some (o.1,o.2)
namespace Xam
def c:=Yap (Yag Proofs.Try.f32) [1,0,1,0,0]
def sp:SP:=⟨[(0,.seg 0 []),(1,.cs I64),(5,.cs I64)],[(0,.reg,.cd SI)]⟩
def fr:=Yjc sp (fun x s=>Xam.B  s.1 s.2.1 s.2.2) (fun x=>(x.1.2.1,x.1.2.2.1,x.2.1)) fun x (bb0:Int×List Int) _ kk0=>kk0 (.ex 0) ⟨[(1,.cs I64 bb0.1)],[sr 0 (.cd SI bb0.2)]⟩
theorem ok:Ya5 PR 19 2 (.loop c) fr:=
 Yw4 Xf Xg h0 [(0,([1],[0]))] (fun x s=>((x.1.1,s.1,s.2.1,x.1.2.2.2),(s.2.2,x.2.2)))
  (fun x s=>by simp only[B,mC,mB,mS,mO,mN];kernel_rfl)
end Xam
namespace Xcx
def pts:List PT:=[.cd SI,.cs I64]
def FS:FS:=Ybn [.mu,.sh] pts (fun x=>Xcx x.1 x.2.1) fun t=>⟨[.cs I64 t.1],[.cd SI t.2]⟩
theorem ok:Yb5 PR 32 FS:=
 Yxj Xf Xg Proofs.Try.f32 h0 (.R (.L (.R (.one (.fr 0))))) (G:=(mkG [])) .nil (L:=mkL [(0,Xam.fr)]) (l:=[(0,.loop Xam.c)]) ⟨Lam.cons Xam.ok,trivial⟩
  (fun x=>by simp only[Xcx,mC,mB,mS,mO,mN];kernel_rfl)
end Xcx
def Xa8.B (k_:Int) (out_:List UInt8):Option ((Int×List UInt8)⊕(List UInt8)):=
 cond (decide (k_>0)) (cond (!((10:Int) == 0)) ((some (IntKind.u8.wrap (w64 ((48:Int)+(k_.tmod 10))))).bind fun v=>cond (decide ((([v]).map fun n=>UInt8.ofNat n.toNat).length+out_.length≤2147483648)) (cond (!((10:Int) == 0)) (some (.inl (w64 (k_.tdiv 10),(([v]).map fun n=>UInt8.ofNat n.toNat)++out_))) none) none) none) (some (.inr out_))
def Xa8 :(Int×List UInt8)→Option (List UInt8):=
 Y9 fun s=>Xa8.B s.1 s.2
def Xbn (k:Int):Option (List UInt8):=
 cond (decide (k≤0)) (some ([109,48]:List UInt8)) ((Xa8 (k,([]:List UInt8))).bind fun o=>cond (decide (([109]:List UInt8).length+o.length≤2147483648)) (some (([109]:List UInt8)++o)) none)
namespace Xa8
def c:=Yap (Yag Proofs.Try.f72) [1,1,1,0,0,0]
def sp:SP:=⟨[(0,.cs I64),(3,.cs .str)],[]⟩
def fr:=Yjc sp (fun x s=>Xa8.B  s.1 s.2) (fun x=>(x.1.1,x.1.2.1)) fun x (bb0:List UInt8) _ kk0=>kk0 (.ex 0) ⟨[(3,.cs .str bb0)],[]⟩
theorem ok:Ya5 PR 20 1 (.loop c) fr:=
 Yw4 Xf Xg h0 [(0,([3],[]))] (fun x s=>((s.1,s.2,x.1.2.2),x.2))
  (fun x s=>by simp only[B,mC,mB,mS,mO,mN];kernel_rfl)
end Xa8
namespace Xbn
def pts:List PT:=[.cs I64]
def FS:FS:=Ybn [.sh] pts (fun x=>Xbn x.1) fun t=>⟨[.cs .str t],[]⟩
theorem ok:Yb5 PR 72 FS:=
 Yxj Xf Xg Proofs.Try.f72 h0 (.R (.R (.R (.L (.one (.fr 0)))))) (G:=(mkG [])) .nil (L:=mkL [(0,Xa8.fr)]) (l:=[(0,.loop Xa8.c)]) ⟨Lam.cons Xa8.ok,trivial⟩
  (fun x=>by simp only[Xbn,mC,mB,mS,mO,mN];kernel_rfl)
end Xbn
def Xap.B (k_:Int) (i_:Int) (a_:List Xc):Option ((Int×Int×List Xc)⊕(Int×List Xc)):=
 cond (decide (i_<(a_.length:Int))) ((Xbn k_).bind fun r=>cond (inB i_ a_.length) ((some (a_.set i_.toNat (r,(a_.getD i_.toNat Xh).2))).bind fun a_2=>cond (inB i_ a_2.length) ((some (a_2.set i_.toNat ((a_2.getD i_.toNat Xh).1,w64 (k_+1),(a_2.getD i_.toNat Xh).2.2))).bind fun a_3=>some (.inl (w64 ((w64 (k_+1))+1),w64 (i_+1),a_3))) none) none) (some (.inr (k_,a_)))
def Xap :(Int×Int×List Xc)→Option (Int×List Xc):=
 Y9 fun s=>Xap.B s.1 s.2.1 s.2.2
def Xaw (a:List Xc) (k:Int):Option (Int×List Xc):=
 (Xap (k,0,a)).bind fun o=>some (o.1,o.2)
namespace Xaw
def G:Gam:=mkG [(72,Xbn.FS)]
theorem Gok:GOk PR G:=.cons Xbn.ok .nil
end Xaw
namespace Xap
def c:=Yap (Yag Proofs.Try.f51) [1,0,1,0,0]
def sp:SP:=⟨[(0,.seg 0 []),(1,.cs I64),(5,.cs I64)],[(0,.reg,.cd (.sl Xe))]⟩
def fr:=Yjc sp (fun x s=>Xap.B  s.1 s.2.1 s.2.2) (fun x=>(x.1.2.1,x.1.2.2.1,x.2.1)) fun x (bb0:Int×List Xc) _ kk0=>kk0 (.ex 0) ⟨[(1,.cs I64 bb0.1)],[sr 0 (.cd (.sl Xe) bb0.2)]⟩
theorem ok:Ya5 PR 28 2 (.loop c) fr:=
 Yxl Xf Xg h0 (G:=Xaw.G) Xaw.Gok [(0,([1],[0]))] (fun x s=>((x.1.1,s.1,s.2.1,x.1.2.2.2),(s.2.2,x.2.2)))
  (fun x s=>by simp only[B,mC,mB,mS,mO,mN];kernel_rfl)
end Xap
namespace Xaw
def pts:List PT:=[.cd (.sl Xe),.cs I64]
def FS:FS:=Ybn [.mu,.sh] pts (fun x=>Xaw x.1 x.2.1) fun t=>⟨[.cs I64 t.1],[.cd (.sl Xe) t.2]⟩
theorem ok:Yb5 PR 51 FS:=
 Yxj Xf Xg Proofs.Try.f51 h0 (.R (.L (.R (.one (.fr 0))))) (G:=G) Gok (L:=mkL [(0,Xap.fr)]) (l:=[(0,.loop Xap.c)]) ⟨Lam.cons Xap.ok,trivial⟩
  (fun x=>by simp only[Xaw,mC,mB,mS,mO,mN];kernel_rfl)
end Xaw
def Xas.B (k_:Int) (i_:Int) (a_:List Xb):Option ((Int×Int×List Xb)⊕(Int×List Xb)):=
 cond (decide (i_<(a_.length:Int))) (cond (inB i_ a_.length) ((some (a_.set i_.toNat (k_,(a_.getD i_.toNat Xa).2))).bind fun a_2=>cond (inB i_ a_2.length) ((some (a_2.set i_.toNat ((a_2.getD i_.toNat Xa).1,w64 (k_+1),(a_2.getD i_.toNat Xa).2.2))).bind fun a_3=>cond (inB i_ a_3.length) ((some (a_3.set i_.toNat ((a_3.getD i_.toNat Xa).1,(a_3.getD i_.toNat Xa).2.1,w64 ((w64 (k_+1))+1),(a_3.getD i_.toNat Xa).2.2.2))).bind fun a_4=>cond (inB i_ a_4.length) ((Xcx (a_4.getD i_.toNat Xa).2.2.2.1 (w64 ((w64 ((w64 (k_+1))+1))+1))).bind fun r=>cond (inB i_ ((a_4.set i_.toNat ((a_4.getD i_.toNat Xa).1,(a_4.getD i_.toNat Xa).2.1,(a_4.getD i_.toNat Xa).2.2.1,r.2,(a_4.getD i_.toNat Xa).2.2.2.2)).length)) ((Xaw ((a_4.set i_.toNat ((a_4.getD i_.toNat Xa).1,(a_4.getD i_.toNat Xa).2.1,(a_4.getD i_.toNat Xa).2.2.1,r.2,(a_4.getD i_.toNat Xa).2.2.2.2)).getD i_.toNat Xa).2.2.2.2.1 r.1).bind fun r2=>some (.inl (r2.1,w64 (i_+1),(a_4.set i_.toNat ((a_4.getD i_.toNat Xa).1,(a_4.getD i_.toNat Xa).2.1,(a_4.getD i_.toNat Xa).2.2.1,r.2,(a_4.getD i_.toNat Xa).2.2.2.2)).set i_.toNat (((a_4.set i_.toNat ((a_4.getD i_.toNat Xa).1,(a_4.getD i_.toNat Xa).2.1,(a_4.getD i_.toNat Xa).2.2.1,r.2,(a_4.getD i_.toNat Xa).2.2.2.2)).getD i_.toNat Xa).1,((a_4.set i_.toNat ((a_4.getD i_.toNat Xa).1,(a_4.getD i_.toNat Xa).2.1,(a_4.getD i_.toNat Xa).2.2.1,r.2,(a_4.getD i_.toNat Xa).2.2.2.2)).getD i_.toNat Xa).2.1,((a_4.set i_.toNat ((a_4.getD i_.toNat Xa).1,(a_4.getD i_.toNat Xa).2.1,(a_4.getD i_.toNat Xa).2.2.1,r.2,(a_4.getD i_.toNat Xa).2.2.2.2)).getD i_.toNat Xa).2.2.1,((a_4.set i_.toNat ((a_4.getD i_.toNat Xa).1,(a_4.getD i_.toNat Xa).2.1,(a_4.getD i_.toNat Xa).2.2.1,r.2,(a_4.getD i_.toNat Xa).2.2.2.2)).getD i_.toNat Xa).2.2.2.1,r2.2,((a_4.set i_.toNat ((a_4.getD i_.toNat Xa).1,(a_4.getD i_.toNat Xa).2.1,(a_4.getD i_.toNat Xa).2.2.1,r.2,(a_4.getD i_.toNat Xa).2.2.2.2)).getD i_.toNat Xa).2.2.2.2.2)))) none) none) none) none) none) (some (.inr (k_,a_)))
def Xas :(Int×Int×List Xb)→Option (Int×List Xb):=
 Y9 fun s=>Xas.B s.1 s.2.1 s.2.2
def Xbf (a:List Xb) (k:Int):Option (Int×List Xb):=
 (Xas (k,0,a)).bind fun o=>some (o.1,o.2)
namespace Xbf
def G:Gam:=mkG [(32,Xcx.FS),(51,Xaw.FS)]
theorem Gok:GOk PR G:=.cons Xcx.ok (.cons Xaw.ok .nil)
end Xbf
namespace Xas
def c:=Yap (Yag Proofs.Try.f30) [1,0,1,0,0]
def sp:SP:=⟨[(0,.seg 0 []),(1,.cs I64),(5,.cs I64)],[(0,.reg,.cd (.sl Xd))]⟩
def fr:=Yjc sp (fun x s=>Xas.B  s.1 s.2.1 s.2.2) (fun x=>(x.1.2.1,x.1.2.2.1,x.2.1)) fun x (bb0:Int×List Xb) _ kk0=>kk0 (.ex 0) ⟨[(1,.cs I64 bb0.1)],[sr 0 (.cd (.sl Xd) bb0.2)]⟩
theorem ok:Ya5 PR 48 2 (.loop c) fr:=
 Yxl Xf Xg h0 (G:=Xbf.G) Xbf.Gok [(0,([1],[0]))] (fun x s=>((x.1.1,s.1,s.2.1,x.1.2.2.2),(s.2.2,x.2.2)))
  (fun x s=>by simp only[B,mC,mB,mS,mO,mN];kernel_rfl)
end Xas
namespace Xbf
def pts:List PT:=[.cd (.sl Xd),.cs I64]
def FS:FS:=Ybn [.mu,.sh] pts (fun x=>Xbf x.1 x.2.1) fun t=>⟨[.cs I64 t.1],[.cd (.sl Xd) t.2]⟩
theorem ok:Yb5 PR 30 FS:=
 Yxj Xf Xg Proofs.Try.f30 h0 (.R (.L (.R (.one (.fr 0))))) (G:=G) Gok (L:=mkL [(0,Xas.fr)]) (l:=[(0,.loop Xas.c)]) ⟨Lam.cons Xas.ok,trivial⟩
  (fun x=>by simp only[Xbf,mC,mB,mS,mO,mN];kernel_rfl)
end Xbf
def Xag.B (k_:Int) (i_:Int) (a_:List Int):Option ((Int×Int×List Int)⊕(Int×List Int)):=
 cond (decide (i_<(a_.length:Int))) (cond (inB i_ a_.length) (some (.inl (w64 (k_+1),w64 (i_+1),a_.set i_.toNat (IntKind.u8.wrap k_)))) none) (some (.inr (k_,a_)))
def Xag :(Int×Int×List Int)→Option (Int×List Int):=
 Y9 fun s=>Xag.B s.1 s.2.1 s.2.2
def Xcp (a:List Int) (k:Int):Option (Int×List Int):=
 (Xag (k,0,a)).bind fun o=>some (o.1,o.2)
namespace Xag
def c:=Yap (Yag Proofs.Try.f52) [1,0,1,0,0]
def sp:SP:=⟨[(0,.seg 0 []),(1,.cs I64),(5,.cs I64)],[(0,.reg,.cd SB)]⟩
def fr:=Yjc sp (fun x s=>Xag.B  s.1 s.2.1 s.2.2) (fun x=>(x.1.2.1,x.1.2.2.1,x.2.1)) fun x (bb0:Int×List Int) _ kk0=>kk0 (.ex 0) ⟨[(1,.cs I64 bb0.1)],[sr 0 (.cd SB bb0.2)]⟩
theorem ok:Ya5 PR 20 2 (.loop c) fr:=
 Yw4 Xf Xg h0 [(0,([1],[0]))] (fun x s=>((x.1.1,s.1,s.2.1,x.1.2.2.2),(s.2.2,x.2.2)))
  (fun x s=>by simp only[B,mC,mB,mS,mO,mN];kernel_rfl)
end Xag
namespace Xcp
def pts:List PT:=[.cd SB,.cs I64]
def FS:FS:=Ybn [.mu,.sh] pts (fun x=>Xcp x.1 x.2.1) fun t=>⟨[.cs I64 t.1],[.cd SB t.2]⟩
theorem ok:Yb5 PR 52 FS:=
 Yxj Xf Xg Proofs.Try.f52 h0 (.R (.L (.R (.one (.fr 0))))) (G:=(mkG [])) .nil (L:=mkL [(0,Xag.fr)]) (l:=[(0,.loop Xag.c)]) ⟨Lam.cons Xag.ok,trivial⟩
  (fun x=>by simp only[Xcp,mC,mB,mS,mO,mN];kernel_rfl)
end Xcp
def Xal.B (k_:Int) (i_:Int) (a_:List (List Int)):Option ((Int×Int×List (List Int))⊕(Int×List (List Int))):=
 cond (decide (i_<(a_.length:Int))) (cond (inB i_ a_.length) ((Xcp (a_.getD i_.toNat []) k_).bind fun r=>some (.inl (r.1,w64 (i_+1),a_.set i_.toNat r.2))) none) (some (.inr (k_,a_)))
def Xal :(Int×Int×List (List Int))→Option (Int×List (List Int)):=
 Y9 fun s=>Xal.B s.1 s.2.1 s.2.2
def Xbb (a:List (List Int)) (k:Int):Option (Int×List (List Int)):=
 (Xal (k,0,a)).bind fun o=>some (o.1,o.2)
namespace Xbb
def G:Gam:=mkG [(52,Xcp.FS)]
theorem Gok:GOk PR G:=.cons Xcp.ok .nil
end Xbb
namespace Xal
def c:=Yap (Yag Proofs.Try.f31) [1,0,1,0,0]
def sp:SP:=⟨[(0,.seg 0 []),(1,.cs I64),(5,.cs I64)],[(0,.reg,.cd (.sl SB))]⟩
def fr:=Yjc sp (fun x s=>Xal.B  s.1 s.2.1 s.2.2) (fun x=>(x.1.2.1,x.1.2.2.1,x.2.1)) fun x (bb0:Int×List (List Int)) _ kk0=>kk0 (.ex 0) ⟨[(1,.cs I64 bb0.1)],[sr 0 (.cd (.sl SB) bb0.2)]⟩
theorem ok:Ya5 PR 19 2 (.loop c) fr:=
 Yxl Xf Xg h0 (G:=Xbb.G) Xbb.Gok [(0,([1],[0]))] (fun x s=>((x.1.1,s.1,s.2.1,x.1.2.2.2),(s.2.2,x.2.2)))
  (fun x s=>by simp only[B,mC,mB,mS,mO,mN];kernel_rfl)
end Xal
namespace Xbb
def pts:List PT:=[.cd (.sl SB),.cs I64]
def FS:FS:=Ybn [.mu,.sh] pts (fun x=>Xbb x.1 x.2.1) fun t=>⟨[.cs I64 t.1],[.cd (.sl SB) t.2]⟩
theorem ok:Yb5 PR 31 FS:=
 Yxj Xf Xg Proofs.Try.f31 h0 (.R (.L (.R (.one (.fr 0))))) (G:=G) Gok (L:=mkL [(0,Xal.fr)]) (l:=[(0,.loop Xal.c)]) ⟨Lam.cons Xal.ok,trivial⟩
  (fun x=>by simp only[Xbb,mC,mB,mS,mO,mN];kernel_rfl)
end Xbb
def Xax (a:Fs_) (k:Int):Option (Int×Fs_):=
 (Xbf a.1 k).bind fun r=>(Xbb a.2.1 r.1).bind fun r2=>some (r2.1,(r.2,r2.2,a.2.2))
namespace Xax
def G:Gam:=mkG [(30,Xbf.FS),(31,Xbb.FS)]
def pts:List PT:=[.cd Xi,.cs I64]
def FS:FS:=Ybn [.mu,.sh] pts (fun x=>Xax x.1 x.2.1) fun t=>⟨[.cs I64 t.1],[.cd Xi t.2]⟩
theorem ok:Yb5 PR 11 FS:=
 Yxj Xf Xg Proofs.Try.f11 ⟨[2],[],[],0⟩ .no (G:=G) (show GOk PR G from .cons Xbf.ok (.cons Xbb.ok .nil)) (L:=mkL []) (l:=[]) hT
  (fun x=>by simp only[Xax,mC,mB,mS,mO,mN];kernel_rfl)
end Xax
def Xcv (a:Xv) (k:Int):Option (Int×Xv):=
 (Xax (a.2.1.1,a.2.1.2.1,a.2.1.2.2) k).bind fun r=>some (r.1,(a.1,(r.2.1,r.2.2.1,a.2.1.2.2),a.2.2))
namespace Xcv
def G:Gam:=mkG [(11,Xax.FS)]
def pts:List PT:=[.cd Xl,.cs I64]
def FS:FS:=Ybn [.mu,.sh] pts (fun x=>Xcv x.1 x.2.1) fun t=>⟨[.cs I64 t.1],[.cd Xl t.2]⟩
theorem ok:Yb5 PR 17 FS:=
 Yxj Xf Xg Proofs.Try.f17 ⟨[2],[],[],0⟩ .no (G:=G) (show GOk PR G from .cons Xax.ok .nil) (L:=mkL []) (l:=[]) hT
  (fun x=>by simp only[Xcv,mC,mB,mS,mO,mN];kernel_rfl)
end Xcv
def Xaf.B (a:List Int) (k_:Int) (i_:Int):Option ((Int×Int)⊕((Int⊕Int))):=
 cond (decide (i_<(a.length:Int))) (cond (inB i_ a.length) (cond ((a.getD i_.toNat 0) != k_) (some (.inr (.inl (-1)))) (some (.inl (w64 (k_+1),w64 (i_+1))))) none) (some (.inr (.inr k_)))
def Xaf (a:List Int):(Int×Int)→Option ((Int⊕Int)):=
 Y9 fun s=>Xaf.B a s.1 s.2
def Xc0 (a:List Int) (k:Int):Option Int:=
 (Xaf a (k,0)).bind fun o=>sel o (fun b=>some b) (fun c=>some c)
namespace Xaf
def c:=Yap (Yag Proofs.Try.f33) [1,0,1,0,0]
def sp:SP:=⟨[(0,.cs SI),(1,.cs I64),(5,.cs I64)],[]⟩
def fr:=Yjc sp (fun x s=>Xaf.B x.1.1 s.1 s.2) (fun x=>(x.1.2.1,x.1.2.2.1)) fun x (oo0:(Int⊕Int)) _ kk0=>sel oo0 (fun bb0=>kk0 (.rt) ⟨[(4,.cs I64 bb0)],[]⟩) (fun cc0=>kk0 (.ex 0) ⟨[(1,.cs I64 cc0)],[]⟩)
theorem ok:Ya5 PR 21 2 (.loop c) fr:=
 Ytf Xf Xg h0 .no (G:=(mkG [])) .nil (L:=mkL []) (l:=[]) hT [(0,([1],[]))] ([4],[]) (fun x s=>((x.1.1,s.1,s.2,x.1.2.2.2),x.2))
  (fun x s=>by simp only[B,mC,mB,mS,mO,mN];kernel_rfl)
end Xaf
namespace Xc0
def pts:List PT:=[.cs SI,.cs I64]
def FS:FS:=Ybn [.sh,.sh] pts (fun x=>Xc0 x.1 x.2.1) fun t=>⟨[.cs I64 t],[]⟩
theorem ok:Yb5 PR 33 FS:=
 Yxj Xf Xg Proofs.Try.f33 h0 (.R (.L (.R (.one (.fr 0))))) (G:=(mkG [])) .nil (L:=mkL [(0,Xaf.fr)]) (l:=[(0,.loop Xaf.c)]) ⟨Lam.cons Xaf.ok,trivial⟩
  (fun x=>by simp only[Xc0,mC,mB,mS,mO,mN];kernel_rfl)
end Xc0
def Xak.B (a:List Xc) (k_:Int) (i_:Int):Option ((Int×Int)⊕((Int⊕Int))):=
 cond (decide (i_<(a.length:Int))) (cond (inB i_ a.length) ((Xbn k_).bind fun r=>cond (!((a.getD i_.toNat Xh).1 == r)) (some (.inr (.inl (-1)))) (cond (inB i_ a.length) ((some ((a.getD i_.toNat Xh).2.1 != (w64 (k_+1)))).bind fun v=>cond v (some (.inr (.inl (-1)))) (some (.inl (w64 ((w64 (k_+1))+1),w64 (i_+1))))) none)) none) (some (.inr (.inr k_)))
def Xak (a:List Xc):(Int×Int)→Option ((Int⊕Int)):=
 Y9 fun s=>Xak.B a s.1 s.2
def Xa2 (a:List Xc) (k:Int):Option Int:=
 (Xak a (k,0)).bind fun o=>sel o (fun b=>some b) (fun c=>some c)
namespace Xa2
def G:Gam:=mkG [(72,Xbn.FS)]
theorem Gok:GOk PR G:=.cons Xbn.ok .nil
end Xa2
namespace Xak
def c:=Yap (Yag Proofs.Try.f77) [1,0,1,0,0]
def sp:SP:=⟨[(0,.cs (.sl Xe)),(1,.cs I64),(5,.cs I64)],[]⟩
def fr:=Yjc sp (fun x s=>Xak.B x.1.1 s.1 s.2) (fun x=>(x.1.2.1,x.1.2.2.1)) fun x (oo0:(Int⊕Int)) _ kk0=>sel oo0 (fun bb0=>kk0 (.rt) ⟨[(4,.cs I64 bb0)],[]⟩) (fun cc0=>kk0 (.ex 0) ⟨[(1,.cs I64 cc0)],[]⟩)
theorem ok:Ya5 PR 32 2 (.loop c) fr:=
 Ytf Xf Xg h0 .no (G:=Xa2.G) Xa2.Gok (L:=mkL []) (l:=[]) hT [(0,([1],[]))] ([4],[]) (fun x s=>((x.1.1,s.1,s.2,x.1.2.2.2),x.2))
  (fun x s=>by simp only[B,mC,mB,mS,mO,mN];kernel_rfl)
end Xak
namespace Xa2
def pts:List PT:=[.cs (.sl Xe),.cs I64]
def FS:FS:=Ybn [.sh,.sh] pts (fun x=>Xa2 x.1 x.2.1) fun t=>⟨[.cs I64 t],[]⟩
theorem ok:Yb5 PR 77 FS:=
 Yxj Xf Xg Proofs.Try.f77 h0 (.R (.L (.R (.one (.fr 0))))) (G:=G) Gok (L:=mkL [(0,Xak.fr)]) (l:=[(0,.loop Xak.c)]) ⟨Lam.cons Xak.ok,trivial⟩
  (fun x=>by simp only[Xa2,mC,mB,mS,mO,mN];kernel_rfl)
end Xa2
def Xar.B (a:List Xb) (k_:Int) (i_:Int):Option ((Int×Int)⊕((Int⊕Int))):=
 cond (decide (i_<(a.length:Int))) (cond (inB i_ a.length) (cond ((a.getD i_.toNat Xa).1 != k_) (some (.inr (.inl (-1)))) (cond (inB i_ a.length) ((some ((a.getD i_.toNat Xa).2.1 != (w64 (k_+1)))).bind fun v=>cond v (some (.inr (.inl (-1)))) (cond (inB i_ a.length) ((some ((a.getD i_.toNat Xa).2.2.1 != (w64 ((w64 (k_+1))+1)))).bind fun v2=>cond v2 (some (.inr (.inl (-1)))) (cond (inB i_ a.length) ((Xc0 (a.getD i_.toNat Xa).2.2.2.1 (w64 ((w64 ((w64 (k_+1))+1))+1))).bind fun r=>cond (decide (r<0)) (some (.inr (.inl (-1)))) (cond (inB i_ a.length) ((Xa2 (a.getD i_.toNat Xa).2.2.2.2.1 r).bind fun r2=>cond (decide (r2<0)) (some (.inr (.inl (-1)))) (some (.inl (r2,w64 (i_+1))))) none)) none)) none)) none)) none) (some (.inr (.inr k_)))
def Xar (a:List Xb):(Int×Int)→Option ((Int⊕Int)):=
 Y9 fun s=>Xar.B a s.1 s.2
def Xbg (a:List Xb) (k:Int):Option Int:=
 (Xar a (k,0)).bind fun o=>sel o (fun b=>some b) (fun c=>some c)
namespace Xbg
def G:Gam:=mkG [(33,Xc0.FS),(77,Xa2.FS)]
theorem Gok:GOk PR G:=.cons Xc0.ok (.cons Xa2.ok .nil)
end Xbg
namespace Xar
def c:=Yap (Yag Proofs.Try.f58) [1,0,1,0,0]
def sp:SP:=⟨[(0,.cs (.sl Xd)),(1,.cs I64),(5,.cs I64)],[]⟩
def fr:=Yjc sp (fun x s=>Xar.B x.1.1 s.1 s.2) (fun x=>(x.1.2.1,x.1.2.2.1)) fun x (oo0:(Int⊕Int)) _ kk0=>sel oo0 (fun bb0=>kk0 (.rt) ⟨[(4,.cs I64 bb0)],[]⟩) (fun cc0=>kk0 (.ex 0) ⟨[(1,.cs I64 cc0)],[]⟩)
theorem ok:Ya5 PR 58 2 (.loop c) fr:=
 Ytf Xf Xg h0 .no (G:=Xbg.G) Xbg.Gok (L:=mkL []) (l:=[]) hT [(0,([1],[]))] ([4],[]) (fun x s=>((x.1.1,s.1,s.2,x.1.2.2.2),x.2))
  (fun x s=>by simp only[B,mC,mB,mS,mO,mN];kernel_rfl)
end Xar
namespace Xbg
def pts:List PT:=[.cs (.sl Xd),.cs I64]
def FS:FS:=Ybn [.sh,.sh] pts (fun x=>Xbg x.1 x.2.1) fun t=>⟨[.cs I64 t],[]⟩
theorem ok:Yb5 PR 58 FS:=
 Yxj Xf Xg Proofs.Try.f58 h0 (.R (.L (.R (.one (.fr 0))))) (G:=G) Gok (L:=mkL [(0,Xar.fr)]) (l:=[(0,.loop Xar.c)]) ⟨Lam.cons Xar.ok,trivial⟩
  (fun x=>by simp only[Xbg,mC,mB,mS,mO,mN];kernel_rfl)
end Xbg
def Xai.B (a:List Int) (k_:Int) (i_:Int):Option ((Int×Int)⊕((Int⊕Int))):=
 cond (decide (i_<(a.length:Int))) (cond (inB i_ a.length) (cond ((a.getD i_.toNat 0) != (IntKind.u8.wrap k_)) (some (.inr (.inl (-1)))) (some (.inl (w64 (k_+1),w64 (i_+1))))) none) (some (.inr (.inr k_)))
def Xai (a:List Int):(Int×Int)→Option ((Int⊕Int)):=
 Y9 fun s=>Xai.B a s.1 s.2
def Xcw (a:List Int) (k:Int):Option Int:=
 (Xai a (k,0)).bind fun o=>sel o (fun b=>some b) (fun c=>some c)
namespace Xai
def c:=Yap (Yag Proofs.Try.f78) [1,0,1,0,0]
def sp:SP:=⟨[(0,.cs SB),(1,.cs I64),(5,.cs I64)],[]⟩
def fr:=Yjc sp (fun x s=>Xai.B x.1.1 s.1 s.2) (fun x=>(x.1.2.1,x.1.2.2.1)) fun x (oo0:(Int⊕Int)) _ kk0=>sel oo0 (fun bb0=>kk0 (.rt) ⟨[(4,.cs I64 bb0)],[]⟩) (fun cc0=>kk0 (.ex 0) ⟨[(1,.cs I64 cc0)],[]⟩)
theorem ok:Ya5 PR 22 2 (.loop c) fr:=
 Ytf Xf Xg h0 .no (G:=(mkG [])) .nil (L:=mkL []) (l:=[]) hT [(0,([1],[]))] ([4],[]) (fun x s=>((x.1.1,s.1,s.2,x.1.2.2.2),x.2))
  (fun x s=>by simp only[B,mC,mB,mS,mO,mN];kernel_rfl)
end Xai
namespace Xcw
def pts:List PT:=[.cs SB,.cs I64]
def FS:FS:=Ybn [.sh,.sh] pts (fun x=>Xcw x.1 x.2.1) fun t=>⟨[.cs I64 t],[]⟩
theorem ok:Yb5 PR 78 FS:=
 Yxj Xf Xg Proofs.Try.f78 h0 (.R (.L (.R (.one (.fr 0))))) (G:=(mkG [])) .nil (L:=mkL [(0,Xai.fr)]) (l:=[(0,.loop Xai.c)]) ⟨Lam.cons Xai.ok,trivial⟩
  (fun x=>by simp only[Xcw,mC,mB,mS,mO,mN];kernel_rfl)
end Xcw
def Xan.B (a:List (List Int)) (k_:Int) (i_:Int):Option ((Int×Int)⊕((Int⊕Int))):=
 cond (decide (i_<(a.length:Int))) (cond (inB i_ a.length) ((Xcw (a.getD i_.toNat []) k_).bind fun r=>cond (decide (r<0)) (some (.inr (.inl (-1)))) (some (.inl (r,w64 (i_+1))))) none) (some (.inr (.inr k_)))
def Xan (a:List (List Int)):(Int×Int)→Option ((Int⊕Int)):=
 Y9 fun s=>Xan.B a s.1 s.2
def Xbe (a:List (List Int)) (k:Int):Option Int:=
 (Xan a (k,0)).bind fun o=>sel o (fun b=>some b) (fun c=>some c)
namespace Xbe
def G:Gam:=mkG [(78,Xcw.FS)]
theorem Gok:GOk PR G:=.cons Xcw.ok .nil
end Xbe
namespace Xan
def c:=Yap (Yag Proofs.Try.f59) [1,0,1,0,0]
def sp:SP:=⟨[(0,.cs (.sl SB)),(1,.cs I64),(5,.cs I64)],[]⟩
def fr:=Yjc sp (fun x s=>Xan.B x.1.1 s.1 s.2) (fun x=>(x.1.2.1,x.1.2.2.1)) fun x (oo0:(Int⊕Int)) _ kk0=>sel oo0 (fun bb0=>kk0 (.rt) ⟨[(4,.cs I64 bb0)],[]⟩) (fun cc0=>kk0 (.ex 0) ⟨[(1,.cs I64 cc0)],[]⟩)
theorem ok:Ya5 PR 21 2 (.loop c) fr:=
 Ytf Xf Xg h0 .no (G:=Xbe.G) Xbe.Gok (L:=mkL []) (l:=[]) hT [(0,([1],[]))] ([4],[]) (fun x s=>((x.1.1,s.1,s.2,x.1.2.2.2),x.2))
  (fun x s=>by simp only[B,mC,mB,mS,mO,mN];kernel_rfl)
end Xan
namespace Xbe
def pts:List PT:=[.cs (.sl SB),.cs I64]
def FS:FS:=Ybn [.sh,.sh] pts (fun x=>Xbe x.1 x.2.1) fun t=>⟨[.cs I64 t],[]⟩
theorem ok:Yb5 PR 59 FS:=
 Yxj Xf Xg Proofs.Try.f59 h0 (.R (.L (.R (.one (.fr 0))))) (G:=G) Gok (L:=mkL [(0,Xan.fr)]) (l:=[(0,.loop Xan.c)]) ⟨Lam.cons Xan.ok,trivial⟩
  (fun x=>by simp only[Xbe,mC,mB,mS,mO,mN];kernel_rfl)
end Xbe
def Xcc (a:Fs_) (k:Int):Option Int:=
 (Xbg a.1 k).bind fun r=>cond (decide (r<0)) (some (-1)) ((Xbe a.2.1 r).bind fun r2=>cond (decide (r2<0)) (some (-1)) (some r2))
namespace Xcc
def G:Gam:=mkG [(58,Xbg.FS),(59,Xbe.FS)]
def pts:List PT:=[.cs Xi,.cs I64]
def FS:FS:=Ybn [.sh,.sh] pts (fun x=>Xcc x.1 x.2.1) fun t=>⟨[.cs I64 t],[]⟩
theorem ok:Yb5 PR 36 FS:=
 Yxj Xf Xg Proofs.Try.f36 ⟨[2],[],[],0⟩ .no (G:=G) (show GOk PR G from .cons Xbg.ok (.cons Xbe.ok .nil)) (L:=mkL []) (l:=[]) hT
  (fun x=>by simp only[Xcc,mC,mB,mS,mO,mN];kernel_rfl)
end Xcc
def Xb6 (a:Xv) (k:Int):Option Int:=
 (Xcc a.2.1 k).bind fun r=>cond (decide (r<0)) (some (-1)) (some r)
namespace Xb6
def G:Gam:=mkG [(36,Xcc.FS)]
def pts:List PT:=[.cs Xl,.cs I64]
def FS:FS:=Ybn [.sh,.sh] pts (fun x=>Xb6 x.1 x.2.1) fun t=>⟨[.cs I64 t],[]⟩
theorem ok:Yb5 PR 18 FS:=
 Yxj Xf Xg Proofs.Try.f18 ⟨[2],[],[],0⟩ .no (G:=G) (show GOk PR G from .cons Xcc.ok .nil) (L:=mkL []) (l:=[]) hT
  (fun x=>by simp only[Xb6,mC,mB,mS,mO,mN];kernel_rfl)
end Xb6
def Xd6 (aF:Fs_):Option Bool:=
 (Xfc aF 1048576).bind fun r=>cond (decide (r<0)) (some true) ((Xem aF).bind fun r2=>(Xev (r2.1,r2.2.1,r2.2.2)).bind fun r3=>(Xem aF).bind fun r4=>(Xbw (r4.1,r4.2.1,r4.2.2)).bind fun r5=>(Xbt (r5.1,(r5.2.1.1,r5.2.1.2.1,r5.2.1.2.2),r5.2.2) (r3.1,(r3.2.1.1,r3.2.1.2.1,r3.2.1.2.2),r3.2.2)).bind fun r6=>cond (!r6) (some false) ((Xem aF).bind fun r7=>(Xbm (r4.1,r4.2.1,r4.2.2) (r7.1,r7.2.1,r7.2.2)).bind fun r8=>cond (!r8) (some false) ((Xax (r4.1,r4.2.1,r4.2.2) 1).bind fun r9=>cond (decide (r9.1<0)) (some false) ((Xbt (r5.1,(r5.2.1.1,r5.2.1.2.1,r5.2.1.2.2),r5.2.2) (r3.1,(r3.2.1.1,r3.2.1.2.1,r3.2.1.2.2),r3.2.2)).bind fun r10=>cond (!r10) (some false) ((Xcv (r5.1,(r5.2.1.1,r5.2.1.2.1,r5.2.1.2.2),r5.2.2) 1).bind fun r11=>(Xb6 (r5.1,(r11.2.2.1.1,r11.2.2.1.2.1,r5.2.1.2.2),r5.2.2) 1).bind fun r12=>cond (decide (r12<0)) (some false) (cond (r12 != r11.1) (some false) ((Xem aF).bind fun r13=>(Xbw (r13.1,r13.2.1,r13.2.2)).bind fun r14=>(Xbt (r14.1,(r14.2.1.1,r14.2.1.2.1,r14.2.1.2.2),r14.2.2) (r3.1,(r3.2.1.1,r3.2.1.2.1,r3.2.1.2.2),r3.2.2)).bind fun r15=>cond (!r15) (some false) ((Xb6 (r5.1,(r11.2.2.1.1,r11.2.2.1.2.1,r5.2.1.2.2),r5.2.2) 1).bind fun r16=>cond (decide (r16<0)) (some false) (cond (r16 != r11.1) (some false) (some true))))))))))
namespace Xd6
def G:Gam:=mkG [(5,Xfc.FS),(7,Xem.FS),(14,Xev.FS),(15,Xbw.FS),(16,Xbt.FS),(10,Xbm.FS),(11,Xax.FS),(17,Xcv.FS),(18,Xb6.FS)]
def pts:List PT:=[.cs Xi]
def FS:FS:=Ybn [.sh] pts (fun x=>Xd6 x.1) fun t=>⟨[.cs .bool t],[]⟩
theorem ok:Yb5 PR 4 FS:=
 Yxj Xf Xg Proofs.Try.f4 ⟨[1],[],[],0⟩ .no (G:=G) (show GOk PR G from .cons Xfc.ok (.cons Xem.ok (.cons Xev.ok (.cons Xbw.ok (.cons Xbt.ok (.cons Xbm.ok (.cons Xax.ok (.cons Xcv.ok (.cons Xb6.ok .nil))))))))) (L:=mkL []) (l:=[]) hT
  (fun x=>by simp only[Xd6,mC,mB,mS,mO,mN];kernel_rfl)
end Xd6
end Mf
